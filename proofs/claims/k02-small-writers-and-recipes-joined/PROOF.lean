import PyProof.Rows.All
import PySem.Challenge.RW_fewtests_k02_small_writers_and_recipes_j
import PyProof.ReprReads
import KE.DataCmp
import Wide.All
import OpenK.AllK
import Wide.FinOn
import HandS.ForMost
import HandS.Flow
import HandS.TupAny
import HandS.TupMul
import KE.KDictKeyed
import KE.KDictCopyH
import KE.KDictDisplayH
import HandS.Wide
import HandS.IsInst
import HandS.Strs
import HandS.SetFor
import HandS.Codes
import PyProof.NeKinds
import KE.KEqNest
import HandS.Style
import KE.KRevSl
import PyProof.Rows.StrRev
import PyProof.CollectStr
import PyProof.Rows.SortShellAny
import PyProof.ReprRoads
import PyProof.ReprLen
import PyProof.StrLawsRepr
import HandS.Deep
import KE.DataFind
import KE.DataMinMax
import PyProof.FactsAll.tuple_0
import PyProof.FactsAll.tuple_2
import HandS.Replace
import HandS.Text
import PyProof.Rows.StrFirst
import KE.GoesZip
import KE.GoesMore
import KE.GoesEnum
import PyProof.CallType
import HandS.Iter
import HandS.Zip
import HandS.RevRange
import PyProof.Rows.CallKwBuiltin
import HandS.Comp
import PyProof.FactsAll.list_3
import PyProof.FactsAll.str_5
import HandS.Conv
import HandS.Dict
import HandS.SetKeys
import PyProof.DictUpdate
import PyProof.DictDisplay
import HandS.Words
import HandS.EndBits
import KE.SortKeyHeap
import KE.SortData
import KE.DatumOrd
import HandS.SortKw
import HandS.Star
import HandS.Defaults
set_option autoImplicit false
/-! DpSem: an evaluator for the Python of this package and its laws, over plain data and a small store. No model in sight. -/
namespace Dp

/-- values: tuples by value, lists and dicts by their place in the store; lv is a list's content, in snapshots alone; rp x is the text repr of the snapshot x -/
inductive PV where
  | non | bl (b : Bool) | int (i : Int) | str (s : List Nat) | tup (xs : List PV) | loc (l : Nat) | lv (xs : List PV) | rp (x : PV)
  deriving Inhabited
/-- a part of a dict's key that is a tuple -/
inductive Kf where
  | non | int (i : Int)
  deriving DecidableEq, Inhabited
inductive PO where
  | lst (xs : List PV) | frz (xs : List PV) | dic (kvs : List (PV × PV)) | dit (kvs : List (List Kf × PV))
  deriving Inhabited
structure Sto where
  nxt : Nat
  obs : List (Nat × PO)
inductive R (α : Type) where
  | ok (a : α) (s : Sto) | err
abbrev M (α : Type) := Sto → R α
def M.pure {α : Type} (a : α) : M α := fun s => .ok a s
def M.bind {α β : Type} (m : M α) (f : α → M β) : M β := fun s =>
  match m s with
  | .ok a s' => f a s'
  | .err => .err
def M.err {α : Type} : M α := fun _ => .err
instance : Monad M where
  pure := M.pure
  bind := M.bind
def ofO {α : Type} : Option α → M α
  | some a => M.pure a
  | none => M.err

/-! ### the store -/
def getL (l : Nat) : List (Nat × PO) → Option PO
  | [] => none
  | (k, o) :: r => if k == l then some o else getL l r
def Sto.get (s : Sto) (l : Nat) : Option PO := getL l s.obs
def setL (l : Nat) (o : PO) : List (Nat × PO) → List (Nat × PO)
  | [] => []
  | (k, u) :: r => if k == l then (k, o) :: r else (k, u) :: setL l o r
def Sto.set (s : Sto) (l : Nat) (o : PO) : Sto := ⟨s.nxt, setL l o s.obs⟩
def Sto.new (s : Sto) (o : PO) : Sto := ⟨s.nxt + 1, (s.nxt, o) :: s.obs⟩
def alloc (o : PO) : M PV := fun s => .ok (.loc s.nxt) (s.new o)
def seqLine : Nat := 16777216
def newLst (xs : List PV) : M PV := if xs.length ≤ 16777216 then alloc (.lst xs) else M.err
def mkTup (xs : List PV) : M PV := if xs.length ≤ 16777216 then M.pure (.tup xs) else M.err
def mkStr (s : List Nat) : M PV := if s.length ≤ 16777216 then M.pure (.str s) else M.err
/-- forget what was made from n on -/
def Sto.drop (s : Sto) (n : Nat) : Sto := ⟨s.nxt, s.obs.filter fun p => decide (p.1 < n)⟩

/-! ### snapshots, equality, order, truth -/
mutual
def snapW (d : Nat → Option PV) : PV → Option PV
  | .loc l => d l
  | .tup xs => match snapsW d xs with | some ys => some (.tup ys) | none => none
  | .lv _ => none
  | .non => some .non
  | .bl b => some (.bl b)
  | .int i => some (.int i)
  | .str s => some (.str s)
  | .rp _ => none
def snapsW (d : Nat → Option PV) : List PV → Option (List PV)
  | [] => some []
  | x :: xs => match snapW d x, snapsW d xs with | some y, some ys => some (y :: ys) | _, _ => none
end
def Sto.lstAt (s : Sto) (l : Nat) : Option (List PV) :=
  match s.get l with
  | some (.lst xs) => some xs
  | some (.frz xs) => some xs
  | _ => none
def snapL (s : Sto) : Nat → Nat → Option PV
  | 0, _ => none
  | n + 1, l => match s.lstAt l with
    | some xs => (match snapsW (snapL s n) xs with | some ys => some (.lv ys) | none => none)
    | none => none
def snap (s : Sto) (v : PV) : Option PV := snapW (snapL s 8) v
/-- .. empty dicts too (as places), for what is told -/
def snapLD (s : Sto) : Nat → Nat → Option PV
  | 0, _ => none
  | n + 1, l => match s.lstAt l with
    | some xs => (match snapsW (snapLD s n) xs with | some ys => some (.lv ys) | none => none)
    | none => (match s.get l with | some (.dic []) => some (.loc 0) | _ => none)
def snapD (s : Sto) (v : PV) : Option PV := snapW (snapLD s 8) v
def isDicAt (s : Sto) (l : Nat) : Bool := match s.get l with
  | some (.dic _) => true
  | _ => false

mutual
def dep : PV → Nat
  | .tup xs => deps xs + 1
  | .lv xs => deps xs + 1
  | _ => 0
def deps : List PV → Nat
  | [] => 0
  | x :: xs => max (dep x) (deps xs)
end
mutual
def toD : PV → PySem.PyData
  | .non => .none
  | .bl b => .bool b
  | .int i => .int i
  | .str s => .str ⟨s.toArray⟩
  | .tup xs => .tuple (toDs xs)
  | .lv xs => .list (toDs xs)
  | .loc _ => .dict []
  | .rp x => .str (toD x).shown
def toDs : List PV → List PySem.PyData
  | [] => []
  | x :: xs => toD x :: toDs xs
end
mutual
/-- the very same -/
def sam : PV → PV → Bool
  | .non, .non => true
  | .bl a, .bl b => a == b
  | .int i, .int j => i == j
  | .str s, .str t => s == t
  | .tup xs, .tup ys => sams xs ys
  | .lv xs, .lv ys => sams xs ys
  | .rp x, .rp y => sam x y
  | _, _ => false
def sams : List PV → List PV → Bool
  | [], [] => true
  | x :: xs, y :: ys => sam x y && sams xs ys
  | _, _ => false
end
mutual
/-- what a repr may take, at most -/
def shW : PV → Nat
  | .non => 4
  | .bl _ => 5
  | .int i => i.natAbs.log2 + 3
  | .str s => 10 * s.length + 2
  | .tup xs => shWs xs + 3
  | .lv xs => shWs xs + 3
  | .loc _ => 4
  | .rp _ => 16777217
def shWs : List PV → Nat
  | [] => 0
  | x :: xs => shW x + 2 + shWs xs
end
mutual
/-- intsP below 1920 bits -/
def shK : PV → Bool
  | .int i => decide (i.natAbs.log2 < 1920)
  | .tup xs => shKs xs
  | .lv xs => shKs xs
  | .rp _ => false
  | _ => true
def shKs : List PV → Bool
  | [] => true
  | x :: xs => shK x && shKs xs
end
def b2i (b : Bool) : Int := if b then 1 else 0
mutual
/-- Python's == of snapshots -/
def peq : PV → PV → Bool
  | .non, .non => true
  | .bl a, .bl b => a == b
  | .bl a, .int j => b2i a == j
  | .int i, .bl b => i == b2i b
  | .int i, .int j => i == j
  | .str s, .str t => s == t
  | .tup xs, .tup ys => peqs xs ys
  | .lv xs, .lv ys => peqs xs ys
  | _, _ => false
def peqs : List PV → List PV → Bool
  | [], [] => true
  | x :: xs, y :: ys => peq x y && peqs xs ys
  | _, _ => false
end
def eqM (a b : PV) : M Bool := fun s =>
  match a, b with
  | .rp x, .rp y => .ok (if sam x y then true else decide ((toD x).shown = (toD y).shown)) s
  | .str x, .str y => .ok (x == y) s
  | .tup xs, .tup [] => .ok xs.isEmpty s
  | a, b => (match snap s a, snap s b with
    | some x, some y => if dep x ≤ 60 ∧ dep y ≤ 60 then .ok (peq x y) s else .err
    | _, _ => .err)
def truth (v : PV) : M Bool := fun s =>
  match v with
  | .non => .ok false s
  | .bl b => .ok b s
  | .int i => .ok (i != 0) s
  | .str t => if t.length ≤ 16777216 then .ok (!t.isEmpty) s else .err
  | .tup xs => .ok (!xs.isEmpty) s
  | .loc l => (match s.lstAt l with | some xs => .ok (!xs.isEmpty) s | none => .err)
  | .lv _ => .err
  | .rp _ => .err

/-! ### operators -/
inductive BO where | add | sub | mul | fdiv | mod | pow
inductive CO where | eq | ne | lt | le | gt | ge | isN | notN | isin | notin
  deriving DecidableEq
def small64 (i : Int) : Bool := decide (-(2 ^ 64) < i) && decide (i < 2 ^ 64)
def mulOk (i j : Int) : Bool := small64 i || small64 j || decide (i.natAbs.log2 + j.natAbs.log2 < 1000000)
def rep (n : Nat) {α : Type} (xs : List α) : List α := match n with
  | 0 => []
  | n + 1 => xs ++ rep n xs
def binM (o : BO) (a b : PV) : M PV := fun s =>
  match o, a, b with
  | .add, .int i, .int j => .ok (.int (i + j)) s
  | .add, .str x, .str y => mkStr (x ++ y) s
  | .add, .tup x, .tup y => mkTup (x ++ y) s
  | .add, .loc l, .loc k => (match s.get l, s.get k with
    | some (.lst x), some (.lst y) => newLst (x ++ y) s
    | _, _ => .err)
  | .sub, .int i, .int j => .ok (.int (i - j)) s
  | .mul, .int i, .int j => if mulOk i j then .ok (.int (i * j)) s else .err
  | .mul, .tup x, .int n => if -1000 ≤ n ∧ n ≤ 10000 ∧ x.length ≤ 1000 then .ok (.tup (rep n.toNat x)) s else .err
  | .mul, .str x, .int n => if -1000 ≤ n ∧ n ≤ 100000 ∧ x.length * n.toNat ≤ 16777216 then .ok (.str (rep n.toNat x)) s else .err
  | .mul, .loc l, .int n => (match s.get l with
    | some (.lst x) => if 0 ≤ n ∧ n ≤ 16777216 ∧ x.length * n.toNat ≤ 16777216 then newLst (rep n.toNat x) s else .err
    | _ => .err)
  | .fdiv, .int i, .int j => if 0 < j then .ok (.int (i / j)) s
      else if j ≠ 0 then .ok (.int (i.fdiv j)) s else .err
  | .mod, .int i, .int j => if 0 < j then .ok (.int (i % j)) s else .err
  | .pow, .int i, .int j => if 0 ≤ j ∧ j ≤ 1000000 ∧ decide (i.natAbs < 2 ^ 64) = true then .ok (.int (i ^ j.toNat)) s else .err
  | _, _, _ => .err
def augM : BO → PV → PV → M PV
  | .add, .int i, .int j => M.pure (.int (i + j))
  | .sub, .int i, .int j => M.pure (.int (i - j))
  | _, _, _ => M.err
def lexLt : List Int → List Int → Bool
  | [], [] => false
  | [], _ :: _ => true
  | _ :: _, [] => false
  | x :: xs, y :: ys => if x < y then true else if y < x then false else lexLt xs ys
def snaps (s : Sto) (xs : List PV) : Option (List PV) := snapsW (snapL s 8) xs
/-- the items as snapshots, and the thing that is sought -/
def seekM {α : Type} (f : PV → List PV → Option α) (x : PV) (ys : List PV) : M α := fun s =>
  match snap s x, snaps s ys with
  | some a, some bs => if dep a ≤ 60 ∧ deps bs ≤ 60 then (match f a bs with | some r => .ok r s | none => .err) else .err
  | _, _ => .err
def anyEq (a : PV) (bs : List PV) : Option Bool := some (bs.any fun b => peq b a)
def cntEq (a : PV) (bs : List PV) : Option Nat := some (bs.countP fun b => peq b a)
def firstEq (a : PV) (bs : List PV) : Option Nat := bs.findIdx? fun b => peq b a
/-- x in y -/
def inM (x y : PV) : M Bool := fun s =>
  match y with
  | .tup ys => seekM anyEq x ys s
  | .loc l => (match s.lstAt l with | some ys => seekM anyEq x ys s | none => .err)
  | .str t => (match x with
    | .str [c] => if t.length ≤ 16777216 then .ok (t.contains c) s else .err
    | _ => .err)
  | _ => .err
/-- the order of tuples, place by place -/
def ordM (f : PySem.PyData → PySem.PyData → Bool) (a b : PV) : M Bool := fun s =>
  match snap s a, snap s b with
  | some x, some y => if PySem.W.alike (toD x) (toD y) = true ∧ dep x ≤ 60 ∧ dep y ≤ 60 then .ok (f (toD x) (toD y)) s else .err
  | _, _ => .err
def isObAt (s : Sto) (l : Nat) : Bool := match s.get l with
  | some (.lst _) => true
  | some (.frz _) => true
  | some (.dic _) => true
  | _ => false
/-- a list or a dict, and a tuple -/
def dicTup (s : Sto) (a b : PV) : Bool := match a, b with
  | .loc l, .tup _ => isObAt s l
  | _, _ => false
def cmpM (o : CO) (a b : PV) : M Bool := fun s =>
  match o with
  | .eq => eqM a b s
  | .ne => if dicTup s a b then .ok true s else M.bind (eqM a b) (fun r => M.pure (!r)) s
  | .lt => (match a, b with | .int i, .int j => .ok (decide (i < j)) s | .tup xs, .tup ys => ordM (fun x y => PySem.W.dataLt x y) (.tup xs) (.tup ys) s | _, _ => .err)
  | .le => (match a, b with | .int i, .int j => .ok (decide (i ≤ j)) s | .tup xs, .tup ys => ordM (fun x y => !PySem.W.dataLt y x) (.tup xs) (.tup ys) s | _, _ => .err)
  | .gt => (match a, b with | .int i, .int j => .ok (decide (j < i)) s | .tup xs, .tup ys => ordM (fun x y => PySem.W.dataLt y x) (.tup xs) (.tup ys) s | _, _ => .err)
  | .ge => (match a, b with | .int i, .int j => .ok (decide (j ≤ i)) s | .tup xs, .tup ys => ordM (fun x y => !PySem.W.dataLt x y) (.tup xs) (.tup ys) s | _, _ => .err)
  | .isN => (match b, a with | .non, .non => .ok true s | .bl c, .bl d => .ok (d == c) s | .non, .lv _ => .err | .bl _, .lv _ => .err | .non, _ => .ok false s | .bl _, _ => .ok false s | _, _ => .err)
  | .notN => (match b, a with | .non, .non => .ok false s | .bl c, .bl d => .ok (!(d == c)) s | .non, .lv _ => .err | .bl _, .lv _ => .err | .non, _ => .ok true s | .bl _, _ => .ok true s | _, _ => .err)
  | .isin => inM a b s
  | .notin => M.bind (inM a b) (fun r => M.pure (!r)) s

/-! ### subscripts -/
/-- the place that an index means -/
def ixOf (n : Nat) (i : Int) : Option Nat := if 0 ≤ i then (if i.toNat < n then some i.toNat else none) else if 0 ≤ i + n then some (i + n).toNat else none
def atIx {α : Type} (xs : List α) (i : Int) : Option α := match ixOf xs.length i with
  | some j => xs[j]?
  | none => none
def idxM (a b : PV) : M PV := fun s =>
  match a, b with
  | .tup xs, .int i => ofO (atIx xs i) s
  | .loc l, .int i => (match s.lstAt l with | some xs => ofO (atIx xs i) s | none => .err)
  | .str t, .int i => if t.length ≤ 16777216 then (match atIx t i with | some c => .ok (.str [c]) s | none => .err) else .err
  | _, _ => .err
/-- the bound that a slice's part means -/
def slIx (n : Nat) (i : Int) : Nat := if 0 ≤ i then min i.toNat n else (i + n).toNat
def slLo (n : Nat) : Option Int → Nat
  | none => 0
  | some i => slIx n i
def slHi (n : Nat) : Option Int → Nat
  | none => n
  | some i => slIx n i
def cut {α : Type} (xs : List α) (lo hi : Option Int) : List α := (xs.drop (slLo xs.length lo)).take (slHi xs.length hi - slLo xs.length lo)
def slM (a : PV) (lo hi : Option Int) : M PV := fun s =>
  match a with
  | .tup xs => .ok (.tup (cut xs lo hi)) s
  | .str t => if t.length ≤ 16777216 then .ok (.str (cut t lo hi)) s else .err
  | .loc l => (match s.lstAt l with | some xs => newLst (cut xs lo hi) s | none => .err)
  | _ => .err
def revM (a : PV) : M PV := fun s =>
  match a with
  | .tup xs => .ok (.tup xs.reverse) s
  | .str t => if t.length ≤ 16777216 then .ok (.str t.reverse) s else .err
  | .loc l => (match s.lstAt l with | some xs => newLst xs.reverse s | none => .err)
  | _ => .err
def setIx (o i v : PV) : M Unit := fun s =>
  match o, i with
  | .loc l, .int k => (match s.get l with
    | some (.lst xs) => (match ixOf xs.length k with | some j => .ok () (s.set l (.lst (xs.set j v))) | none => .err)
    | _ => .err)
  | _, _ => .err

/-! ### dicts with ints and texts as keys -/
def keyOk : PV → Bool
  | .int _ => true
  | .str _ => true
  | _ => false
def keq : PV → PV → Bool
  | .int i, .int j => i == j
  | .str s, .str t => s == t
  | _, _ => false
def dfind (k : PV) : List (PV × PV) → Option PV
  | [] => none
  | (j, v) :: r => if keq j k then some v else dfind k r
def dstore (k v : PV) (kvs : List (PV × PV)) : List (PV × PV) :=
  if kvs.any fun p => keq p.1 k then kvs.map fun p => if keq p.1 k then (p.1, v) else p else kvs ++ [(k, v)]
def Sto.dicAt (s : Sto) (l : Nat) : Option (List (PV × PV)) := match s.get l with
  | some (.dic kvs) => some kvs
  | _ => none
def newDic : M PV := alloc (.dic [])
/-- d[k] -/
def dgetM (o k : PV) : M PV := fun s => match o with
  | .loc l => (match s.dicAt l with
    | some kvs => if keyOk k = true then (match dfind k kvs with | some v => .ok v s | none => .err) else .err
    | none => .err)
  | _ => .err
/-- is d a dict? -/
def dchkM (o : PV) : M Unit := fun s => match o with
  | .loc l => (match s.dicAt l with | some _ => .ok () s | none => .err)
  | _ => .err
/-- d.get(k, x) -/
def dgetdM (o k x : PV) : M PV := fun s => match o with
  | .loc l => (match s.dicAt l with
    | some kvs => if keyOk k = true then .ok ((dfind k kvs).getD x) s else .err
    | none => .err)
  | _ => .err
/-- d.setdefault(k, z) -/
def dsetdM (o k z : PV) : M PV := fun s => match o with
  | .loc l => (match s.dicAt l with
    | some kvs => if keyOk k = true ∧ kvs.length < 16777216 then (match dfind k kvs with | some v => .ok v s | none => .ok z (s.set l (.dic (dstore k z kvs)))) else .err
    | none => .err)
  | _ => .err
/-- d[k] = v -/
def dputM (o k v : PV) : M Unit := fun s => match o with
  | .loc l => (match s.dicAt l with
    | some kvs => if keyOk k = true ∧ kvs.length < 16777216 then .ok () (s.set l (.dic (dstore k v kvs))) else .err
    | none => .err)
  | _ => .err

/-- {**d, k: v} -/
def dkvsM (o : PV) : M (List (PV × PV)) := fun s => match o with
  | .loc l => (match s.dicAt l with
    | some kvs => if kvs.length < 16777216 then .ok kvs s else .err
    | none => .err)
  | _ => .err
def dmkM (kvs : List (PV × PV)) (k v : PV) : M PV := if keyOk k = true then alloc (.dic (dstore k v kvs)) else M.err

/-! ### dicts with tuples as keys -/
def hK1 : Kf → Int
  | .non => PySem.reduceHash 0xFCA86420
  | .int i => PySem.hashInt i
def hashK (ks : List Kf) : Int := PySem.reduceHash (PySem.Builtin.Tuple.tupleHashOf (ks.map hK1))
def kf1 : PV → Option Kf
  | .non => some .non
  | .int i => some (.int i)
  | _ => none
def kfs : List PV → Option (List Kf)
  | [] => some []
  | x :: r => (match kf1 x, kfs r with | some a, some b => some (a :: b) | _, _ => none)
def keyT : PV → Option (List Kf)
  | .tup xs => kfs xs
  | _ => none
def tfind (k : List Kf) : List (List Kf × PV) → Option PV
  | [] => none
  | (j, v) :: r => if j = k then some v else tfind k r
def tstore (k : List Kf) (v : PV) (kvs : List (List Kf × PV)) : List (List Kf × PV) :=
  if kvs.any fun p => decide (p.1 = k) then kvs.map fun p => if p.1 = k then (p.1, v) else p else kvs ++ [(k, v)]
/-- no two keys hash alike -/
def hokT (kvs : List (List Kf × PV)) : Bool := decide ((kvs.map fun p => hashK p.1).Nodup)
def tkvs (o : PV) : M (List (List Kf × PV)) := fun s => match o with
  | .loc l => (match s.get l with | some (.dit kvs) => .ok kvs s | _ => .err)
  | _ => .err
def tnew : M PV := alloc (.dit [])
def tchk (o : PV) : M Unit := M.bind (tkvs o) fun _ => M.pure ()
def tgetdM (o k x : PV) : M PV := M.bind (tkvs o) fun kvs => (match keyT k with | some q => M.pure ((tfind q kvs).getD x) | none => M.err)
def tokM (kvs : List (List Kf × PV)) : M Unit := fun s => if hokT kvs = true ∧ kvs.length ≤ 100000 then .ok () s else .err
/-- d[k] = v -/
def tputM (o k v : PV) : M Unit := M.bind (tkvs o) fun kvs => fun s => (match o, keyT k with
  | .loc l, some q => if kvs.length ≤ 100000 then .ok () (s.set l (.dit (tstore q v kvs))) else .err
  | _, _ => .err)
/-- d[k] -/
def tgetM (o k : PV) : M PV := M.bind (tkvs o) fun kvs => (match keyT k with | some q => ofO (tfind q kvs) | none => M.err)
/-- the new dict of {**d, k: v} -/
def tmk (kvs : List (List Kf × PV)) (k v : PV) : M PV := (match keyT k with | some q => alloc (.dit (tstore q v kvs)) | none => M.err)

/-! ### what is walked -/
inductive Itr where
  | fix (xs : List PV) | liv (l : Nat) | en (it : Itr) | zp (st : Bool) (a b : Itr)
def Itr.bnd (s : Sto) : Itr → Nat
  | .fix xs => xs.length
  | .liv l => (match s.lstAt l with | some xs => xs.length | none => 0)
  | .en it => it.bnd s
  | .zp _ a b => min (a.bnd s) (b.bnd s)
/-- one turn of a sequence: none: stuck; some none: it stops -/
def seqAt (xs : List PV) (i : Nat) : Option (Option PV) := match xs[i]? with
  | some x => some (some x)
  | none => if i == xs.length then some none else none
def Itr.at (s : Sto) (i : Nat) : Itr → Option (Option PV)
  | .fix xs => seqAt xs i
  | .liv l => (match s.lstAt l with | some xs => seqAt xs i | none => none)
  | .en it => (match it.at s i with
    | some (some p) => some (some (.tup [.int i, p]))
    | some none => some none
    | none => none)
  | .zp st a b => (match a.at s i, b.at s i with
    | some (some x), some (some y) => some (some (.tup [x, y]))
    | some none, some none => some none
    | some none, some (some _) => if st then none else some none
    | some (some _), some none => if st then none else some none
    | _, _ => none)
def chars (t : List Nat) : List PV := t.map fun c => .str [c]
def iterOf (v : PV) : M Itr := fun s =>
  match v with
  | .tup xs => .ok (.fix xs) s
  | .str t => if t.length ≤ 16777216 then .ok (.fix (chars t)) s else .err
  | .loc l => (match s.lstAt l with | some _ => .ok (.liv l) s | none => .err)
  | _ => .err
def upto (lo : Int) : Nat → List PV
  | 0 => []
  | n + 1 => .int lo :: upto (lo + 1) n
def downto (lo : Int) : Nat → List PV
  | 0 => []
  | n + 1 => .int lo :: downto (lo - 1) n
def rngOk (i : Int) : Bool := decide (-(2 ^ 62) ≤ i) && decide (i < 2 ^ 62)
def rngM (vs : List PV) : M Itr := fun s =>
  match vs with
  | [.int n] => if rngOk n then .ok (.fix (upto 0 n.toNat)) s else .err
  | [.int a, .int b] => if rngOk a && rngOk b then .ok (.fix (upto a (b - a).toNat)) s else .err
  | [.int a, .int b, .int (-1)] => if rngOk a && rngOk b then .ok (.fix (downto a (a - b).toNat)) s else .err
  | _ => .err
/-- list(range(n)) -/
def rngL (v : PV) : M PV := match v with
  | .int n => if rngOk n = true then newLst (upto 0 n.toNat) else M.err
  | _ => M.err
/-- tuple(range(n)) -/
def rngT (v : PV) : M PV := match v with
  | .int n => if rngOk n = true then mkTup (upto 0 n.toNat) else M.err
  | _ => M.err
/-- numbers in order -/
def insN (c : Nat) : List Nat → List Nat
  | [] => [c]
  | x :: r => if c ≤ x then c :: x :: r else x :: insN c r
/-! words in the order of their lengths, then of their items -/
def lexK : List Nat → List Nat → Bool
  | [], [] => false
  | [], _ :: _ => true
  | _ :: _, [] => false
  | x :: v, y :: u => if x = y then lexK v u else decide (x < y)
def ltW (v u : List Nat) : Bool := decide (v.length < u.length) || (decide (v.length = u.length) && lexK v u)
def leW (v u : List Nat) : Bool := !ltW u v
def insW (w : List Nat) : List (List Nat) → List (List Nat)
  | [] => [w]
  | x :: r => if leW w x = true then w :: x :: r else x :: insW w r
def srtW : List (List Nat) → List (List Nat)
  | [] => []
  | w :: r => insW w (srtW r)
def natsP : List PV → Option (List Nat)
  | [] => some []
  | .int i :: r => if 0 ≤ i then (match natsP r with | some v => some (i.toNat :: v) | none => none) else none
  | _ :: _ => none
def wordsP : List PV → Option (List (List Nat))
  | [] => some []
  | .tup xs :: r => (match natsP xs, wordsP r with | some v, some vs => some (v :: vs) | _, _ => none)
  | _ :: _ => none
def niK (v : List Nat) : List Int := v.map fun k : Nat => (k : Int)
/-- sorted(xs, key=f), f of a word gives its length and it -/
def srtkM (v : PV) : M PV := fun s =>
  match v with
  | .loc l => (match s.lstAt l with
    | some xs => (match wordsP xs with
      | some ws => newLst ((srtW ws).map fun w => .tup ((niK w).map PV.int)) s
      | none => .err)
    | none => .err)
  | _ => .err
def srtN : List Nat → List Nat
  | [] => []
  | c :: r => insN c (srtN r)
def seqOf (v : PV) : M (List PV) := fun s =>
  match v with
  | .tup xs => .ok xs s
  | .loc l => (match s.lstAt l with | some xs => .ok xs s | none => .err)
  | _ => .err

def lstOf (l : Nat) : M (List PV) := fun s => match s.lstAt l with | some xs => .ok xs s | none => .err

/-! ### built-ins -/
inductive Bi where | len | abs | int | ord | max2 | min2 | maxL | minL | sum | all | any | tuple | list | repr | sorted | isinst (k : Nat) | minT | dictC
inductive Mt where | append | pop0 | pop | index | count | extend | join | get | get2 | starts
def intsP : List PV → Option (List Int)
  | [] => some []
  | .int i :: r => (match intsP r with | some is => some (i :: is) | none => none)
  | _ :: _ => none
def boolsP : List PV → Option (List Bool)
  | [] => some []
  | .bl b :: r => (match boolsP r with | some bs => some (b :: bs) | none => none)
  | _ :: _ => none
def maxOf : List Int → Option Int
  | [] => none
  | i :: r => some (r.foldl (fun m j => if j > m then j else m) i)
def minOf : List Int → Option Int
  | [] => none
  | i :: r => some (r.foldl (fun m j => if j < m then j else m) i)
/-! ### plain values -/
mutual
def pln : PV → Bool
  | .non => true
  | .bl _ => true
  | .int _ => true
  | .str _ => true
  | .tup xs => plns xs
  | .loc _ => false
  | .lv _ => false
  | .rp _ => false
def plns : List PV → Bool
  | [] => true
  | x :: xs => pln x && plns xs
end
theorem plns_mem : ∀ {xs : List PV}, plns xs = true ↔ ∀ x ∈ xs, pln x = true
  | [] => by simp [plns]
  | x :: xs => by rw [plns, Bool.and_eq_true, plns_mem (xs := xs)]; simp
mutual
theorem snap_pln {d : Nat → Option PV} : ∀ x : PV, pln x = true → snapW d x = some x
  | .non, _ => rfl
  | .bl _, _ => rfl
  | .int _, _ => rfl
  | .str _, _ => rfl
  | .tup xs, h => by rw [snapW, snaps_pln xs (by simpa [pln] using h)]
  | .loc _, h => by simp [pln] at h
  | .lv _, h => by simp [pln] at h
  | .rp _, h => by simp [pln] at h
theorem snaps_pln {d : Nat → Option PV} : ∀ xs : List PV, plns xs = true → snapsW d xs = some xs
  | [], _ => rfl
  | x :: xs, h => by
    rw [plns, Bool.and_eq_true] at h
    rw [snapsW, snap_pln x h.1, snaps_pln xs h.2]
end
/-- the least of tuples, the first one of those -/
def minP (x : PV) (xs : List PV) : PV := xs.foldl (fun a y => if PySem.W.dataLt (toD y) (toD a) then y else a) x
def isTupP : PV → Bool
  | .tup _ => true
  | _ => false
def tupsOk (xs : List PV) : Bool := plns xs && decide (deps xs ≤ 60) && xs.all isTupP && xs.all fun x => xs.all fun y => PySem.W.alike (toD x) (toD y)
def minTM : List PV → M PV
  | [] => M.err
  | x :: xs => if tupsOk (x :: xs) = true then M.pure (minP x xs) else M.err
def strsP : List PV → Option (List (List Nat))
  | [] => some []
  | .str s :: r => (match strsP r with | some ss => some (s :: ss) | none => none)
  | _ :: _ => none
def joinL (sep : List Nat) : List (List Nat) → List Nat
  | [] => []
  | [x] => x
  | x :: y :: r => x ++ (sep ++ joinL sep (y :: r))
/-- a built-in of one sequence, by its items; fresh: the sequence is a new list -/
def biSeq (b : Bi) (xs : List PV) : M PV := fun s =>
  match b with
  | .len => .ok (.int xs.length) s
  | .maxL => (match intsP xs with | some is => (match maxOf is with | some m => .ok (.int m) s | none => .err) | none => .err)
  | .minL => (match intsP xs with | some is => (match minOf is with | some m => .ok (.int m) s | none => .err) | none => .err)
  | .sum => (match intsP xs with | some is => .ok (.int is.sum) s | none => .err)
  | .all => (match boolsP xs with | some bs => .ok (.bl (bs.all id)) s | none => .err)
  | .any => (match boolsP xs with | some bs => .ok (.bl (bs.any id)) s | none => .err)
  | .tuple => mkTup xs s
  | .list => newLst xs s
  | _ => .err
def reprM (v : PV) : M PV := fun s =>
  match snap s v with
  | some x => if shK x = true ∧ dep x ≤ 60 ∧ shW x ≤ 16777216 then .ok (.rp x) s else .err
  | none => (match snapD s v with
    | some x => if shK x = true ∧ dep x ≤ 60 ∧ shW x ≤ 16777216 then .ok (.rp x) s else .err
    | none => .err)
/-- 0 str, 1 int, 2 tuple, 3 list, 4 bool -/
def isinM (k : Nat) (v : PV) : M PV := fun s =>
  match v with
  | .non => .ok (.bl false) s
  | .bl _ => .ok (.bl (k == 1 || k == 4)) s
  | .int _ => .ok (.bl (k == 1)) s
  | .str _ => .ok (.bl (k == 0)) s
  | .tup _ => .ok (.bl (k == 2)) s
  | .loc l => (match s.lstAt l with | some _ => .ok (.bl (k == 3)) s | none => if isDicAt s l then .ok (.bl false) s else .err)
  | .lv _ => .err
  | .rp _ => .ok (.bl (k == 0)) s
def biM (b : Bi) (vs : List PV) : M PV := fun s =>
  match b, vs with
  | .abs, [.int i] => .ok (.int (if i < 0 then -i else i)) s
  | .int, [.int i] => .ok (.int i) s
  | .int, [.bl b] => .ok (.int (if b then 1 else 0)) s
  | .ord, [.str [c]] => .ok (.int c) s
  | .max2, [.int i, .int j] => .ok (.int (if j > i then j else i)) s
  | .min2, [.int i, .int j] => .ok (.int (if j < i then j else i)) s
  | .isinst k, [v] => isinM k v s
  | .repr, [v] => reprM v s
  | .len, [.str t] => if t.length ≤ 16777216 then .ok (.int t.length) s else .err
  | .tuple, [.tup xs] => .ok (.tup xs) s
  | .len, [.tup xs] => .ok (.int xs.length) s
  | .list, [.tup xs] => newLst xs s
  | .len, [.loc l] => M.bind (lstOf l) (biSeq .len) s
  | .maxL, [.loc l] => M.bind (lstOf l) (biSeq .maxL) s
  | .minL, [.loc l] => M.bind (lstOf l) (biSeq .minL) s
  | .minT, [.loc l] => M.bind (lstOf l) minTM s
  | .sum, [.loc l] => M.bind (lstOf l) (biSeq .sum) s
  | .all, [.loc l] => M.bind (lstOf l) (biSeq .all) s
  | .any, [.loc l] => M.bind (lstOf l) (biSeq .any) s
  | .tuple, [.loc l] => M.bind (lstOf l) (biSeq .tuple) s
  | .list, [.loc l] => M.bind (lstOf l) (biSeq .list) s
  | .sorted, [.str t] => newLst (chars (srtN t)) s
  | .dictC, [.loc l] => (match s.dicAt l with | some kvs => alloc (.dic kvs) s | none => .err)
  | _, _ => .err
def joinM (sep : PV) (xs : List PV) : M PV := fun s =>
  match sep, strsP xs with
  | .str z, some ss => if (ss.map (·.length)).sum + ss.length * z.length ≤ 16777216 then .ok (.str (joinL z ss)) s else .err
  | _, _ => .err
/-- the receiver's type -/
def mtT (m : Mt) (p : PV) (s : Sto) : Option String :=
  match m, p with
  | .join, .str _ => some "str"
  | .join, _ => none
  | .starts, .str _ => some "str"
  | .starts, _ => none
  | .index, .tup _ => some "tuple"
  | .index, .str _ => some "str"
  | .count, .tup _ => some "tuple"
  | _, .loc l => (match s.lstAt l with | some _ => some "list" | none => none)
  | _, _ => none
def mtChk (m : Mt) (p : PV) : M Unit := fun s => match mtT m p s with | some _ => .ok () s | none => .err
def mtM (m : Mt) (o : PV) (vs : List PV) : M PV := fun s =>
  match m, o, vs with
  | .append, .loc l, [v] => (match s.get l with
    | some (.lst xs) => if xs.length < 16777216 then .ok .non (s.set l (.lst (xs ++ [v]))) else .err
    | _ => .err)
  | .extend, .loc l, [.loc k] => (match s.get l, s.get k with
    | some (.lst xs), some (.lst ys) => if xs.length + ys.length ≤ 16777216 then .ok .non (s.set l (.lst (xs ++ ys))) else .err
    | _, _ => .err)
  | .pop0, .loc l, [] => (match s.get l with
    | some (.lst xs) => (match xs.getLast? with | some v => .ok v (s.set l (.lst xs.dropLast)) | none => .err)
    | _ => .err)
  | .pop, .loc l, [.int i] => (match s.get l with
    | some (.lst xs) => (match ixOf xs.length i with
      | some j => (match xs[j]? with | some v => .ok v (s.set l (.lst (xs.eraseIdx j))) | none => .err)
      | none => .err)
    | _ => .err)
  | .index, .tup xs, [x] => M.bind (seekM firstEq x xs) (fun n => M.pure (.int n)) s
  | .index, .loc l, [x] => (match s.lstAt l with | some xs => M.bind (seekM firstEq x xs) (fun n => M.pure (.int n)) s | none => .err)
  | .index, .str t, [.str u] => (match u with
    | [c] => (match t.findIdx? fun x => x == c with | some j => .ok (.int (j : Nat)) s | none => .err)
    | _ => .err)
  | .count, .tup xs, [x] => M.bind (seekM cntEq x xs) (fun n => M.pure (.int n)) s
  | .count, .loc l, [x] => (match s.lstAt l with | some xs => M.bind (seekM cntEq x xs) (fun n => M.pure (.int n)) s | none => .err)
  | .starts, .str t, [.str u] => .ok (.bl (u.isPrefixOf t)) s
  | .join, z, [.tup xs] => joinM z xs s
  | .join, z, [.loc l] => (match s.lstAt l with | some xs => joinM z xs s | none => .err)
  | _, _, _ => .err

/-- the things in another order -/
def pmG {α : Type} (pm : List Nat) (ws : List α) : List α := pm.filterMap fun i => ws[i]?
/-- what is left over is a tuple -/
def starM (F : List PV → M PV) (n : Nat) (vs : List PV) : M PV := if n ≤ vs.length ∧ vs.length ≤ 100000 then F (vs.take n ++ [.tup (vs.drop n)]) else M.err
/-! ### the program's form -/
mutual
inductive IT where | nm (i : Nat) | tp (ts : ITs)
inductive ITs where | nil | cons (t : IT) (ts : ITs)
end
mutual
inductive IE where
  | var (i : Nat) | cst (c : PV) | glob (x : Nat) (v : PV)
  | bin (o : BO) (a b : IE) | cmp (o : CO) (a b : IE) | chain (o p : CO) (a b c : IE)
  | neg (a : IE) | not (a : IE) | and (a b : IE) | or (a b : IE) | ifx (c a b : IE)
  | tup (es : IEs) | lst (es : IEs)
  | idx (a b : IE) | sl (a : IE) (lo hi : IO) | rev (a : IE)
  | call (f : Nat) (es : IEs)
  | bi (b : Bi) (es : IEs) | biC (b : Bi) (c : IC) | mt (m : Mt) (o : IE) (es : IEs) | joinC (z : IE) (c : IC)
  | lc (c : IC)
  | dnew | dget (a b : IE) | dgetd (a b c : IE) | lrng (a : IE) | trng (a : IE) | tnew | tgetd (a b c : IE) | tspread (a b c : IE) | srtk (a : IE) (f : Nat) | dl0 | dget1 (a b : IE) | dsetd (a b c : IE) | callk (f : Nat) (pm : List Nat) (es : IEs) | stk | dspread (a b c : IE) | calls (f n : Nat) (es : IEs)
inductive IEs where | nil | cons (e : IE) (es : IEs)
inductive IO where | none | some (e : IE)
inductive II where | ex (e : IE) | rng (es : IEs) | en (e : IE) | zp (st : Bool) (a b : IE)
/-- own: the slots of the comprehension's names; own1: those of the second target -/
inductive IC where
  | one (own : List Nat) (elt : IE) (t : IT) (it : II) (c : IO)
  | two (own own1 : List Nat) (elt : IE) (t : IT) (it : II) (c : IO) (t1 : IT) (it1 : II) (c1 : IO)
end
mutual
inductive IS where
  | asg (t : IT) (e : IE) | setix (o i e : IE) | dput (o i e : IE) | tput (o i e : IE) | aug (i : Nat) (o : BO) (e : IE)
  | ex (e : IE) | ret (e : IE) | retN
  | ife (c : IE) (a b : ISs) | for (t : IT) (it : II) (b : ISs) | while (c : IE) (b : ISs)
  | brk | cnt | pas | stuck
inductive ISs where | nil | cons (s : IS) (ss : ISs)
end

/-! ### running it -/
abbrev Env := List (Option PV)
abbrev FT := Nat → List PV → M PV
inductive Out where | nx (r : Env) | rt (v : PV) | bk (r : Env) | ct (r : Env)
def setN (i : Nat) (v : PV) (r : Env) : Env := r.set i (some v)
mutual
def setT : IT → PV → Env → Option Env
  | .nm i, v, r => some (setN i v r)
  | .tp ts, .tup xs, r => setTs ts xs r
  | .tp _, _, _ => none
def setTs : ITs → List PV → Env → Option Env
  | .nil, [], r => some r
  | .cons t ts, v :: vs, r => (match setT t v r with | some r' => setTs ts vs r' | none => none)
  | _, _, _ => none
end
def wipeE (r : Env) : List Nat → Env
  | [] => r
  | v :: vs => (wipeE r vs).set v none
/-- the items that a comprehension makes; f: the test and the element of a turn -/
def lcGo (t : IT) (it : Itr) (r : Env) (f : Env → List PV → M (List PV)) : Nat → Nat → List PV → M (List PV)
  | 0, _, _ => M.err
  | k + 1, i, acc => fun s =>
    match it.at s i with
    | some (some p) => (match setT t p r with
      | some r' => M.bind (f r' acc) (lcGo t it r f k (i + 1)) s
      | none => .err)
    | some none => .ok acc s
    | none => .err
/-- a for loop -/
def forGo (t : IT) (it : Itr) (f : Env → M Out) : Nat → Nat → Env → M Out
  | 0, _, _ => M.err
  | k + 1, i, r => fun s =>
    match it.at s i with
    | some (some p) => (match setT t p r with
      | some r' => M.bind (f r') (fun o => match o with
        | .nx r2 => forGo t it f k (i + 1) r2
        | .ct r2 => forGo t it f k (i + 1) r2
        | .bk r2 => M.pure (.nx r2)
        | .rt v => M.pure (.rt v)) s
      | none => .err)
    | some none => .ok (.nx r) s
    | none => .err
def whGo (c : Env → M Bool) (f : Env → M Out) : Nat → Env → M Out
  | 0, _ => M.err
  | k + 1, r => M.bind (c r) fun b => if b then M.bind (f r) fun o => (match o with
      | .nx r2 => whGo c f k r2
      | .ct r2 => whGo c f k r2
      | .bk r2 => M.pure (.nx r2)
      | .rt v => M.pure (.rt v)) else M.pure (.nx r)
def accM (acc : List PV) (v : PV) : M (List PV) := if acc.length < 16777216 then M.pure (acc ++ [v]) else M.err
def bndM (it : Itr) : M Nat := fun s => .ok (it.bnd s + 1) s
def biOk : Bi → Bool
  | .len | .maxL | .minL | .sum | .all | .any | .tuple | .list => true
  | _ => false

section
variable (F : FT) (W : Nat)
mutual
def evE : IE → Env → M PV
  | .var i, r => (match r[i]? with | some (some v) => M.pure v | _ => M.err)
  | .cst c, _ => M.pure c
  | .glob _ v, _ => M.pure v
  | .bin o a b, r => M.bind (evE a r) fun x => M.bind (evE b r) fun y => binM o x y
  | .cmp o a b, r => M.bind (evE a r) fun x => M.bind (evE b r) fun y => M.bind (cmpM o x y) fun c => M.pure (.bl c)
  | .chain o p a b c, r => M.bind (evE a r) fun x => M.bind (evE b r) fun y => M.bind (cmpM o x y) fun k =>
      if k then M.bind (evE c r) fun z => M.bind (cmpM p y z) fun k2 => M.pure (.bl k2) else M.pure (.bl false)
  | .neg a, r => M.bind (evE a r) fun x => (match x with | .int i => M.pure (.int (-i)) | _ => M.err)
  | .not a, r => M.bind (evE a r) fun x => M.bind (truth x) fun k => M.pure (.bl (!k))
  | .and a b, r => M.bind (evE a r) fun x => M.bind (truth x) fun k => if k then evE b r else M.pure x
  | .or a b, r => M.bind (evE a r) fun x => M.bind (truth x) fun k => if k then M.pure x else evE b r
  | .ifx c a b, r => M.bind (evE c r) fun x => M.bind (truth x) fun k => if k then evE a r else evE b r
  | .tup es, r => M.bind (evEs es r) mkTup
  | .lst es, r => M.bind (evEs es r) newLst
  | .idx a b, r => M.bind (evE a r) fun x => M.bind (evE b r) fun y => idxM x y
  | .sl a lo hi, r => M.bind (evE a r) fun x => M.bind (evO lo r) fun l => M.bind (evO hi r) fun h => slM x l h
  | .rev a, r => M.bind (evE a r) revM
  | .call f es, r => M.bind (evEs es r) (F f)
  | .calls f n es, r => M.bind (evEs es r) (starM (F f) n)
  | .callk f pm es, r => M.bind (evEs es r) fun vs => F f (pmG pm vs)
  | .stk, _ => M.err
  | .dspread a b c, r => M.bind (evE a r) fun x => M.bind (dkvsM x) fun kvs => M.bind (evE b r) fun y => M.bind (evE c r) fun z => dmkM kvs y z
  | .bi b es, r => M.bind (evEs es r) (biM b)
  | .biC b c, r => M.bind (evC c r) (biSeq b)
  | .mt m o es, r => M.bind (evE o r) fun x => M.bind (mtChk m x) fun _ => M.bind (evEs es r) fun vs => mtM m x vs
  | .joinC z c, r => M.bind (evE z r) fun x => M.bind (mtChk .join x) fun _ => M.bind (evC c r) (joinM x)
  | .lc c, r => M.bind (evC c r) newLst
  | .dnew, _ => newDic
  | .dget a b, r => M.bind (evE a r) fun x => M.bind (evE b r) fun y => dgetM x y
  | .dgetd a b c, r => M.bind (evE a r) fun x => M.bind (dchkM x) fun _ => M.bind (evE b r) fun y => M.bind (evE c r) fun z => dgetdM x y z
  | .dget1 a b, r => M.bind (evE a r) fun x => M.bind (dchkM x) fun _ => M.bind (evE b r) fun y => dgetdM x y .non
  | .dsetd a b c, r => M.bind (evE a r) fun x => M.bind (dchkM x) fun _ => M.bind (evE b r) fun y => M.bind (evE c r) fun z => dsetdM x y z
  | .lrng a, r => M.bind (evE a r) rngL
  | .trng a, r => M.bind (evE a r) rngT
  | .tnew, _ => tnew
  | .tgetd a b c, r => M.bind (evE a r) fun x => M.bind (tchk x) fun _ => M.bind (evE b r) fun y => M.bind (evE c r) fun z => tgetdM x y z
  | .srtk a _, r => M.bind (evE a r) srtkM
  | .dl0, _ => M.bind (newLst []) fun _ => newDic
  | .tspread a b c, r => M.bind (evE a r) fun x => M.bind (tkvs x) fun kvs => M.bind (tokM kvs) fun _ => M.bind (evE b r) fun y => M.bind (evE c r) fun z => tmk kvs y z
def evEs : IEs → Env → M (List PV)
  | .nil, _ => M.pure []
  | .cons e es, r => M.bind (evE e r) fun x => M.bind (evEs es r) fun xs => M.pure (x :: xs)
/-- a part of a slice -/
def evO : IO → Env → M (Option Int)
  | .none, _ => M.pure none
  | .some e, r => M.bind (evE e r) fun x => (match x with | .int i => M.pure (some i) | _ => M.err)
/-- a comprehension's test -/
def evT : IO → Env → M Bool
  | .none, _ => M.pure true
  | .some e, r => M.bind (evE e r) truth
def evI : II → Env → M Itr
  | .ex e, r => M.bind (evE e r) iterOf
  | .rng es, r => M.bind (evEs es r) rngM
  | .en e, r => M.bind (evE e r) fun x => M.bind (iterOf x) fun it => M.pure (.en it)
  | .zp st a b, r => M.bind (evE a r) fun x => M.bind (evE b r) fun y => M.bind (iterOf x) fun i => M.bind (iterOf y) fun j => M.pure (.zp st i j)
def evC : IC → Env → M (List PV)
  | .one own elt t it c, r => M.bind (evI it r) fun J => M.bind (bndM J) fun k =>
      lcGo t J (wipeE r own) (fun r' acc => M.bind (evT c r') fun b => if b then M.bind (evE elt r') (accM acc) else M.pure acc) k 0 []
  | .two own own1 elt t it c t1 it1 c1, r => M.bind (evI it r) fun J => M.bind (bndM J) fun k =>
      lcGo t J (wipeE r own) (fun r' acc => M.bind (evT c r') fun b => if b then
          M.bind (evI it1 r') fun J1 => M.bind (bndM J1) fun k1 =>
            lcGo t1 J1 (wipeE r' own1) (fun r2 acc2 => M.bind (evT c1 r2) fun b2 => if b2 then M.bind (evE elt r2) (accM acc2) else M.pure acc2) k1 0 acc
        else M.pure acc) k 0 []
end
mutual
def evS : IS → Env → M Out
  | .asg t e, r => M.bind (evE F e r) fun v => (match setT t v r with | some r' => M.pure (.nx r') | none => M.err)
  | .setix o i e, r => M.bind (evE F e r) fun v => M.bind (evE F o r) fun x => M.bind (evE F i r) fun k => M.bind (setIx x k v) fun _ => M.pure (.nx r)
  | .dput o i e, r => M.bind (evE F e r) fun v => M.bind (evE F o r) fun x => M.bind (evE F i r) fun k => M.bind (dputM x k v) fun _ => M.pure (.nx r)
  | .tput o i e, r => M.bind (evE F e r) fun v => M.bind (evE F o r) fun x => M.bind (evE F i r) fun k => M.bind (tputM x k v) fun _ => M.pure (.nx r)
  | .aug i o e, r => (match r[i]? with
    | some (some x) => M.bind (evE F e r) fun y => M.bind (augM o x y) fun z => M.pure (.nx (setN i z r))
    | _ => M.err)
  | .ex e, r => M.bind (evE F e r) fun _ => M.pure (.nx r)
  | .ret e, r => M.bind (evE F e r) fun v => M.pure (.rt v)
  | .retN, _ => M.pure (.rt .non)
  | .ife c a b, r => M.bind (evE F c r) fun x => M.bind (truth x) fun k => if k then evSs a r else evSs b r
  | .for t it b, r => M.bind (evI F it r) fun J => M.bind (bndM J) fun k => forGo t J (evSs b) k 0 r
  | .while c b, r => whGo (fun r => M.bind (evE F c r) truth) (evSs b) W r
  | .brk, r => M.pure (.bk r)
  | .cnt, r => M.pure (.ct r)
  | .pas, r => M.pure (.nx r)
  | .stuck, _ => M.err
def evSs : ISs → Env → M Out
  | .nil, r => M.pure (.nx r)
  | .cons s ss, r => M.bind (evS s r) fun o => (match o with
    | .nx r2 => evSs ss r2
    | o => M.pure o)
end
end
/-- a def: its parameters, the number of its slots, its body; keep: what it makes is not forgotten behind it -/
structure IFn where
  np : Nat
  ns : Nat
  keep : Bool
  body : ISs
def runFn (F : FT) (W : Nat) (d : IFn) (vs : List PV) : M PV := fun s =>
  if vs.length = d.np then
    (match evSs F W d.body (vs.map some ++ List.replicate (d.ns - d.np) none) s with
    | .ok (.nx _) s' => .ok .non (if d.keep then s' else s'.drop s.nxt)
    | .ok (.rt v) s' => .ok v (if d.keep then s' else s'.drop s.nxt)
    | _ => .err)
  else .err
/-- the defs, by the depth that calls may have -/
def run (P : Nat → Option IFn) (W : Nat) : Nat → FT
  | 0, _, _ => M.err
  | d + 1, f, vs => (match P f with
    | some fn => runFn (run P W d) W fn vs
    | none => M.err)
end Dp


set_option Elab.async false
set_option linter.all false
set_option maxRecDepth 100000
set_option maxHeartbeats 4000000
set_option autoImplicit false
/-! DpTup: tuples of which the object is known to bear no dict: tracked as what is known to the object. -/
namespace Dp
open PySem L2 PySem.Spec PyProof.Rows

/-- a tuple at a, without a dict -/
def SqD (K : PySem.W.Frag) (H : Hp) (a : Addr) (vs : List V) : Prop :=
  (∃ o : Obj, H a = some (.frz o (.tup vs)) ∧ o.dict = none) ∨
    ∃ (o : Obj) (its : Array Value) (n : Nat), (K.lookup a = some o ∧ o.cls = .type "tuple" ∧ o.data = .seq its n ∧ its.size ≤ sizeLine ∧ Vals vs its.toList) ∧ o.dict = none
theorem SqD.sq {K : PySem.W.Frag} {H : Hp} {a : Addr} {vs : List V} (h : SqD K H a vs) : SqT K H a vs := by
  rcases h with ⟨o, h, _⟩ | ⟨o, its, n, h, _⟩
  · exact .inl (.inr ⟨o, h⟩)
  · exact .inr ⟨o, its, n, h⟩
theorem SqD.of {K : PySem.W.Frag} {H : Hp} {a : Addr} {vs : List V} {o : Obj} (h : H a = some (.frz o (.tup vs))) (d : o.dict = none) : SqD K H a vs := .inl ⟨o, h, d⟩
section
variable {X : Cx} {pins : List (Addr × Obj)} {σ : L2.St} {H : Hp} {s : Shared} {a : Addr} {xs : List V}
theorem tup_obj (I : L2.Inv X pins σ H s) (h : SqD X.K H a xs) : ∃ (o : Obj) (its : List Value) (n : Nat), s.heap.get? a = some o ∧ o.cls = .type "tuple" ∧ o.dict = none ∧ o.data = .seq its.toArray n ∧ Vals xs its ∧ xs.length ≤ sizeLine := by
  have ht := h.sq
  obtain ⟨its, r, ⟨o, ho, hc, n, hd⟩, hz⟩ := I.tuple ht
  refine ⟨o, its, n, ho, hc, ?_, hd, r, hz⟩
  rcases h with ⟨u, h, e⟩ | ⟨u, _, _, ⟨h, _⟩, e⟩
  · obtain ⟨h1, _⟩ := (show ObjOk X.prog X.w H s.heap a (.frz u (.tup xs)) from I.hok a _ h)
    rw [ho] at h1; cases h1
    exact e
  · have h1 := I.kIn a u h
    rw [ho] at h1; cases h1
    exact e
/-- a new tuple's object -/
abbrev tupO (its : List Value) : Obj := { cls := .type "tuple", data := .seq its.toArray }
theorem laidT {h' : Heap} {t' : Nat} {its : List Value} {k : Addr} (I : L2.Inv X pins σ H s) (hk : ∀ b u, s.heap.get? b = some u → h'.get? b = some u) (hp : s.heap.objs.size ≤ k) (e : h'.get? k = some (tupO its)) (r : Vals xs its) (hz : xs.length ≤ sizeLine) :
    L2.Inv X pins σ (upd H k (.frz (tupO its) (.tup xs))) { s with heap := h', toks := t' } :=
  I.laid hk hp ⟨e, hz, its, r, _, e, rfl, _, rfl⟩
end
/-- what is asked of a new tuple -/
def NewT (H : Hp) (xs : List V) (Q : VK) : Prop := ∀ (p : Addr) (o : Obj), H p = none → o.dict = none → Q (.ref p) (upd H p (.frz o (.tup xs)))
section
variable {X : Cx}
theorem pe_tupD {es : List Expr} {t : TA} {pos : Pos} {x1 : Nat} (h : PA X es t) : PE X (.Tuple es x1 pos) (fun σ H Q => t σ H fun xs H1 => xs.length ≤ sizeLine ∧ NewT H1 xs Q) := by
  refine ⟨fun pins s σ H Q I hq => ?_⟩
  refine wpAny_Tuple_spliced (thn (h.run pos pins s σ H _ I hq) fun us s1 ⟨xs, H1, I1, r, z, q⟩ => ⟨by rw [← r.length]; exact z, ?_⟩)
  exact ⟨.ref s1.heap.objs.size, _, laidT (t' := s1.toks) I1 (fun b u e => Heap.get?_push_of_some _ e) (Nat.le_refl _) (Heap.get?_push_size _ rfl) r z, rfl, q _ _ (I1.hok.fresh (Nat.le_refl _)) rfl⟩
theorem op_catD : OpR X (binaryOp .Add) (fun x y H Q => ∃ a b xs ys, x = .ref a ∧ y = .ref b ∧ SqT X.K H a xs ∧ SqT X.K H b ys ∧ xs.length + ys.length ≤ sizeLine ∧
    (xs = [] → Q (.ref b) H) ∧ (xs ≠ [] → ys = [] → Q (.ref a) H) ∧ (xs ≠ [] → ys ≠ [] → NewT H (xs ++ ys) Q)) := by
  intro pins s σ H x y v u Q I rx ry h
  obtain ⟨a, b, xs, ys, rfl, rfl, ha, hb, hz, q0, q1, q2⟩ := h
  cases rx
  cases ry
  obtain ⟨its, r1, p1, _⟩ := I.tuple ha
  obtain ⟨its2, r2, p2, _⟩ := I.tuple hb
  by_cases hx : xs = []
  · subst hx
    cases r1
    exact cat_tup0 p1 p2 ⟨.ref b, H, I, rfl, q0 rfl⟩
  · refine HT.cat_tup p1 p2 (fun z => hx (r1.nil_iff.mp z)) (fun z => ⟨.ref a, H, I, rfl, q1 hx (r2.nil_iff.mp z)⟩) (fun z => ?_) (by rw [← r1.length, ← r2.length]; exact hz)
    exact ⟨.ref s.heap.objs.size, _, laidT (t' := s.toks) I (fun b ob q => Heap.get?_push_of_some _ q) (Nat.le_refl _) (Heap.get?_push_size _ rfl) (r1.append r2) (by rw [List.length_append]; exact hz), rfl,
      q2 hx (fun w => z (r2.nil_iff.mpr w)) _ _ (I.hok.fresh (Nat.le_refl _)) rfl⟩
theorem sl_tupD : SlR X (fun x lo hi H Q => ∃ a xs, x = .ref a ∧ SqT X.K H a xs ∧
    (HT.sIx xs.length 0 lo = 0 ∧ HT.sIx xs.length xs.length hi = xs.length → Q (.ref a) H) ∧ (¬ (HT.sIx xs.length 0 lo = 0 ∧ HT.sIx xs.length xs.length hi = xs.length) → NewT H (cutV xs lo hi) Q)) := by
  intro pins s σ H x v vl vu lo hi sl Q I rx hs pl pu h
  obtain ⟨a, xs, rfl, hx, q1, q2⟩ := h
  cases rx
  obtain ⟨its, r, ht, hz⟩ := I.tuple hx
  have hlen : its.toArray.size = xs.length := by rw [List.size_toArray]; exact r.length.symm
  refine ⟨"tuple", _, PyProof.Rows.slot_tuple_getitem.lookup, ht.typeIs, ?_⟩
  by_cases hw : HT.sIx xs.length 0 lo = 0 ∧ HT.sIx xs.length xs.length hi = xs.length
  · exact getItem_tuple_whole ht hs pl pu (by rw [hlen]; exact hw) ⟨.ref a, H, I, rfl, q1 hw⟩
  · refine HT.getItem_tuple_cut ht hs pl pu (by rw [hlen]; exact hw) ?_ (by rw [hlen]; exact hz)
    rw [hlen]
    exact ⟨.ref s.heap.objs.size, _, laidT (t' := s.toks) I (fun b ob q => Heap.get?_push_of_some _ q) (Nat.le_refl _) (Heap.get?_push_size _ rfl)
      ((r.drop (HT.sIx xs.length 0 lo)).take (HT.sIx xs.length xs.length hi - HT.sIx xs.length 0 lo)) (Nat.le_trans (cutV_length xs lo hi) hz), rfl, q2 hw _ _ (I.hok.fresh (Nat.le_refl _)) rfl⟩
theorem call_tupleD : CallR X (.type "tuple") (fun xs H Q => ∃ p ys, xs = [.ref p] ∧ ((SqL X.K H p ys ∧ NewT H ys Q) ∨ (SqT X.K H p ys ∧ Q (.ref p) H))) := by
  intro pins s σ H xs us Q I r h
  obtain ⟨p, ys, rfl, h⟩ := h
  obtain ⟨u, rfl, rx⟩ := vals1 r
  cases rx
  rcases h with ⟨hq, q⟩ | ⟨hq, q⟩
  · obtain ⟨its, r', pl, hz⟩ := I.list hq
    have hlen := r'.length
    refine call_tuple_list pl.isList (fun h' kp => ?_) (by simp only [List.size_toArray] <;> omega)
    have I1 : L2.Inv X pins σ H { s with heap := h' } := I.kept (t' := s.toks) kp
    have I2 : L2.Inv X pins σ (upd H h'.objs.size (.frz (tupO its) (.tup ys))) { s with heap := h'.push (tupO its) } :=
      laidT (s := { s with heap := h' }) (t' := s.toks) I1 (fun b o e => Heap.get?_push_of_some _ e) (Nat.le_refl _) (Heap.get?_push_size _ rfl) r' hz
    exact ⟨.ref h'.objs.size, _, I2, rfl, q _ _ (I1.hok.fresh (Nat.le_refl _)) rfl⟩
  · obtain ⟨its, r', pl, hz⟩ := I.tuple hq
    exact call_tuple_same pl ⟨.ref p, H, I, rfl, q⟩
theorem op_repD : OpR X (binaryOp .Mult) (fun x y H Q => ∃ l k xs, x = .ref l ∧ y = .int k ∧ SqT X.K H l xs ∧ xs ≠ [] ∧ 2 ≤ k ∧ k ≤ 10000 ∧ xs.length ≤ 1000 ∧ NewT H (List.replicate k.toNat xs).flatten Q) := by
  intro pins s σ H x y v u Q I rx ry h
  obtain ⟨l, k, xs, rfl, rfl, hT, hne, h1, h2, hz, q⟩ := h
  cases rx
  obtain ⟨t, rfl⟩ := ry
  obtain ⟨its, r, ⟨⟨cls, dd, data, sl⟩, ho, hc, n, hd⟩, hs⟩ := I.tuple hT
  simp only at hc hd
  subst hc hd
  have hle : its.length = xs.length := r.length.symm
  have hi : its.toArray.isEmpty = false := by
    cases its with
    | nil => exact absurd (List.eq_nil_of_length_eq_zero hle.symm) hne
    | cons a b => rfl
  have hsz0 : its.toArray.size = xs.length := by rw [List.size_toArray, hle]
  have b1 : ((its.toArray.size : Nat) : Int) * k ≤ 1000 * k := Int.mul_le_mul_of_nonneg_right (by omega) (by omega)
  have b2 : k.toNat * xs.length ≤ 10000 * 1000 := Nat.mul_le_mul (by omega) hz
  have flen : (List.replicate k.toNat its).flatten.length ≤ sizeLine := by
    rw [lm_len_rep_flat, hle, sizeLine_eq]
    omega
  have k1 : (decide (k < -(2 ^ 63)) || decide (k ≥ 2 ^ 63)) = false := by
    rw [decide_eq_false (by omega), decide_eq_false (by omega)]
    rfl
  have k2 : (its.toArray.isEmpty || k == 1) = false := by
    rw [hi, Bool.false_or, beq_eq_false_iff_ne]
    omega
  have k3 : (decide (k ≤ 0) || its.toArray.isEmpty) = false := by
    rw [hi, Bool.or_false, decide_eq_false_iff_not]
    omega
  have k4 : Builtin.Tuple.tupleTooMany (((its.toArray.size : Nat) : Int) * k) = false := by
    unfold Builtin.Tuple.tupleTooMany
    rw [sizeLine_eq, decide_eq_false_iff_not]
    omega
  have go := tuple_mulW l its.toArray n dd sl k t k1 k2 k3 (by omega) k4 (by rw [size_rep, List.size_toArray]; exact flen)
  refine wpAny_binaryOp_repeat_ref (T := "tuple") (U := "int") (by decide) ⟨_, ho, rfl⟩ (fun s' => typeIs_int s' k t) noFill_tuple_mul PySem.F.fills_int_mul PySem.F.slot_int_rmul repeat_tuple PySem.F.slot_int_index.lookup
    (call_meets PySem.F.slot_int_rmul (typeIs_int s k t) PySem.F.entry_int_rmul (PySem.F.args_int_rmul_2 _ _) (int_rmul_tuple k t l its.toArray n dd sl) ⟨ho, rfl, ⟨_, ho, rfl⟩, ?_⟩)
  refine call_meets PySem.F.slot_tuple_mul ⟨_, ho, rfl⟩ PySem.F.entry_tuple_mul (PySem.F.args_tuple_mul_2 _ _) go ⟨ho, ?_⟩
  rw [size_rep]
  exact ⟨.ref s.heap.objs.size, _, laidT (t' := s.toks) I (fun b ob q => Heap.get?_push_of_some _ q) (Nat.le_refl _) (Heap.get?_push_size _ rfl) (r.rep k.toNat)
    (by rw [lm_len_rep_flat, sizeLine_eq]; omega), rfl, q _ _ (I.hok.fresh (Nat.le_refl _)) rfl⟩
/-- t * n, where t is empty or n is 1: t itself -/
theorem tuple_mul_same (l : Addr) (items : Array Value) (n : Nat) (dd : Option Addr) (sl : Array (Option Value)) (x : Int) (u : Tok) (c0 : (decide (x < -(2 ^ 63)) || decide (x ≥ 2 ^ 63)) = false) (c1 : (items.isEmpty || x == 1) = true) :
    Meets (Builtin.«tuple.__mul__» ⟨[.ref l, .int x u], []⟩) (fun _ R s => s.heap.get? l = some { cls := .type "tuple", dict := dd, data := .seq items n, slots := sl } ∧ R (.ok (.ret (Value.ref l))) s) :=
  .of_wp fun prog w A R s h => by
    obtain ⟨hp, g, d, tk, os⟩ := s
    obtain ⟨hl, h⟩ := h
    have f1 := AutoSeq1.idx_int
    wp_walk using wpAny_loadPart' hl
    repeat (first
      | (refine wpAny_ite_false (decide_eq_false (by rw [c0]; exact Bool.false_ne_true)) ?_; wp_walk using wpAny_loadPart' hl)
      | (refine wpAny_ite_true (decide_eq_true c1) ?_; wp_walk using wpAny_loadPart' hl))
    exact ⟨_, rfl, h⟩
/-- t * n below 1: a new empty tuple -/
theorem tuple_mul_none (l : Addr) (items : Array Value) (n : Nat) (dd : Option Addr) (sl : Array (Option Value)) (x : Int) (u : Tok) (c0 : (decide (x < -(2 ^ 63)) || decide (x ≥ 2 ^ 63)) = false) (c1 : (items.isEmpty || x == 1) = false) (c2 : (decide (x ≤ 0) || items.isEmpty) = true) :
    Meets (Builtin.«tuple.__mul__» ⟨[.ref l, .int x u], []⟩) (fun _ R s => s.heap.get? l = some { cls := .type "tuple", dict := dd, data := .seq items n, slots := sl } ∧
      R (.ok (.ret (Value.ref s.heap.objs.size))) { s with heap := s.heap.push { cls := Value.type "tuple", data := Data.seq #[] }, toks := s.toks }) :=
  .of_wp fun prog w A R s h => by
    obtain ⟨hp, g, d, tk, os⟩ := s
    obtain ⟨hl, h⟩ := h
    have f1 := AutoSeq1.idx_int
    wp_walk using wpAny_loadPart' hl
    repeat (first
      | (refine wpAny_ite_false (decide_eq_false (by rw [c0]; exact Bool.false_ne_true)) ?_; wp_walk using wpAny_loadPart' hl)
      | (refine wpAny_ite_false (decide_eq_false (by rw [c1]; exact Bool.false_ne_true)) ?_; wp_walk using wpAny_loadPart' hl)
      | (refine wpAny_ite_true (decide_eq_true c2) ?_; wp_walk using wpAny_loadPart' hl))
    exact ⟨_, rfl, h⟩
theorem op_repE : OpR X (binaryOp .Mult) (fun x y H Q => ∃ l k xs, x = .ref l ∧ y = .int k ∧ SqT X.K H l xs ∧ -1000000 ≤ k ∧ k ≤ 1000000 ∧ (xs = [] ∨ k = 1) ∧ Q (.ref l) H) := by
  intro pins s σ H x y v u Q I rx ry h
  obtain ⟨l, k, xs, rfl, rfl, hT, h1, h2, h3, q⟩ := h
  cases rx
  obtain ⟨t, rfl⟩ := ry
  obtain ⟨its, r, ⟨⟨cls, dd, data, sl⟩, ho, hc, n, hd⟩, hs⟩ := I.tuple hT
  simp only at hc hd
  subst hc hd
  have k1 : (decide (k < -(2 ^ 63)) || decide (k ≥ 2 ^ 63)) = false := by
    rw [decide_eq_false (by omega), decide_eq_false (by omega)]
    rfl
  have k2 : (its.toArray.isEmpty || k == 1) = true := by
    rw [Bool.or_eq_true]
    rcases h3 with e | e
    · subst e; cases r; exact .inl rfl
    · exact .inr (by rw [e]; rfl)
  have go := tuple_mul_same l its.toArray n dd sl k t k1 k2
  refine wpAny_binaryOp_repeat_ref (T := "tuple") (U := "int") (by decide) ⟨_, ho, rfl⟩ (fun s' => typeIs_int s' k t) noFill_tuple_mul PySem.F.fills_int_mul PySem.F.slot_int_rmul repeat_tuple PySem.F.slot_int_index.lookup
    (call_meets PySem.F.slot_int_rmul (typeIs_int s k t) PySem.F.entry_int_rmul (PySem.F.args_int_rmul_2 _ _) (int_rmul_tuple k t l its.toArray n dd sl) ⟨ho, rfl, ⟨_, ho, rfl⟩, ?_⟩)
  exact call_meets PySem.F.slot_tuple_mul ⟨_, ho, rfl⟩ PySem.F.entry_tuple_mul (PySem.F.args_tuple_mul_2 _ _) go ⟨ho, ⟨.ref l, H, I, rfl, q⟩⟩
theorem op_repN : OpR X (binaryOp .Mult) (fun x y H Q => ∃ l k xs, x = .ref l ∧ y = .int k ∧ SqT X.K H l xs ∧ -1000000 ≤ k ∧ k ≤ 0 ∧ xs ≠ [] ∧ NewT H [] Q) := by
  intro pins s σ H x y v u Q I rx ry h
  obtain ⟨l, k, xs, rfl, rfl, hT, h1, h2, h3, q⟩ := h
  cases rx
  obtain ⟨t, rfl⟩ := ry
  obtain ⟨its, r, ⟨⟨cls, dd, data, sl⟩, ho, hc, n, hd⟩, hs⟩ := I.tuple hT
  simp only at hc hd
  subst hc hd
  have k1 : (decide (k < -(2 ^ 63)) || decide (k ≥ 2 ^ 63)) = false := by
    rw [decide_eq_false (by omega), decide_eq_false (by omega)]
    rfl
  have hi : its.toArray.isEmpty = false := by
    cases its with
    | nil => cases r; exact absurd rfl h3
    | cons a b => rfl
  have k2 : (its.toArray.isEmpty || k == 1) = false := by
    rw [hi, Bool.false_or, beq_eq_false_iff_ne]
    omega
  have k3 : (decide (k ≤ 0) || its.toArray.isEmpty) = true := by
    rw [decide_eq_true h2]; rfl
  have go := tuple_mul_none l its.toArray n dd sl k t k1 k2 k3
  refine wpAny_binaryOp_repeat_ref (T := "tuple") (U := "int") (by decide) ⟨_, ho, rfl⟩ (fun s' => typeIs_int s' k t) noFill_tuple_mul PySem.F.fills_int_mul PySem.F.slot_int_rmul repeat_tuple PySem.F.slot_int_index.lookup
    (call_meets PySem.F.slot_int_rmul (typeIs_int s k t) PySem.F.entry_int_rmul (PySem.F.args_int_rmul_2 _ _) (int_rmul_tuple k t l its.toArray n dd sl) ⟨ho, rfl, ⟨_, ho, rfl⟩, ?_⟩)
  exact call_meets PySem.F.slot_tuple_mul ⟨_, ho, rfl⟩ PySem.F.entry_tuple_mul (PySem.F.args_tuple_mul_2 _ _) go
    ⟨ho, ⟨.ref s.heap.objs.size, _, laidT (its := []) (xs := []) (t' := s.toks) I (fun b ob q => Heap.get?_push_of_some _ q) (Nat.le_refl _) (Heap.get?_push_size _ rfl) .nil (Nat.zero_le _), rfl, q _ _ (I.hok.fresh (Nat.le_refl _)) rfl⟩⟩
end
end Dp


set_option Elab.async false
set_option linter.all false
set_option maxRecDepth 100000
set_option autoImplicit false
/-! DpRep: how the plain values and the store lie in the layer's abstract heap. -/
namespace Dp
open PySem L2

abbrev Pl := Nat → Addr
/-- the text of code points -/
abbrev S (s : List Nat) : Str := ⟨s.toArray⟩
def sOk (s : List Nat) : Prop := ∀ c ∈ s, c < 1114112

mutual
inductive Rep (K : PySem.W.Frag) (m : Pl) (n : Nat) (H : Hp) : V → PV → Prop
  | non : Rep K m n H .non .non
  | bl (b : Bool) : Rep K m n H (.bl b) (.bl b)
  | int (i : Int) : Rep K m n H (.int i) (.int i)
  | str (s : List Nat) (h : sOk s) : Rep K m n H (.str (S s)) (.str s)
  | rp (x : PV) : Rep K m n H (.str (toD x).shown) (.rp x)
  | tup {a : Addr} {vs : List V} {xs : List PV} : SqD K H a vs → Reps K m n H vs xs → Rep K m n H (.ref a) (.tup xs)
  | loc {l : Nat} : l < n → Rep K m n H (.ref (m l)) (.loc l)
inductive Reps (K : PySem.W.Frag) (m : Pl) (n : Nat) (H : Hp) : List V → List PV → Prop
  | nil : Reps K m n H [] []
  | cons {v : V} {vs : List V} {x : PV} {xs : List PV} : Rep K m n H v x → Reps K m n H vs xs → Reps K m n H (v :: vs) (x :: xs)
end

/-- a list that nobody writes -/
def SqF (K : PySem.W.Frag) (H : Hp) (a : Addr) (vs : List V) : Prop :=
  (∃ o, H a = some (.frz o (.lst vs))) ∨
    ∃ (o : Obj) (its : Array Value) (n : Nat), K.lookup a = some o ∧ o.cls = .type "list" ∧ o.dict = none ∧ o.data = .seq its n ∧ its.size ≤ sizeLine ∧ Vals vs its.toList
theorem SqF.sq {K : PySem.W.Frag} {H : Hp} {a : Addr} {vs : List V} (h : SqF K H a vs) : SqL K H a vs := by
  rcases h with ⟨o, h⟩ | h
  · exact .inl (.inr ⟨o, h⟩)
  · exact .inr h

/-- a dict's key: an int or a text -/
inductive KyR : Key → PV → Prop
  | int (i : Int) : KyR (.inl i) (.int i)
  | str (s : List Nat) (h : sOk s) : KyR (.inr (S s)) (.str s)
inductive DReps (K : PySem.W.Frag) (m : Pl) (n : Nat) (H : Hp) : List (Key × V) → List (PV × PV) → Prop
  | nil : DReps K m n H [] []
  | cons {k : Key} {x : PV} {v : V} {y : PV} {ws : List (Key × V)} {kvs : List (PV × PV)} : KyR k x → Rep K m n H v y → DReps K m n H ws kvs → DReps K m n H ((k, v) :: ws) ((x, y) :: kvs)
/-- a dict with tuples as keys: its entries, as they stand -/
def entK (x : List Kf × Addr × Value) : DictEntry := ⟨hashK x.1, .ref x.2.1, x.2.2⟩
def DitAt (a : Addr) (xs : List (List Kf × Addr × Value)) (h : Heap) : Prop :=
  (a == sysModules) = false ∧ xs.length ≤ sizeLine ∧ (xs.map (·.1)).Nodup ∧ ∃ (o : Obj) (es : Array DictEntry) (ep : Nat), h.get? a = some o ∧ o.ExactDict ∧ o.data = .dict es ep ∧ es.toList = xs.map entK
def kfPV : Kf → PV
  | .non => .non
  | .int i => .int i
def kPV (k : List Kf) : PV := .tup (k.map kfPV)
inductive TReps (K : PySem.W.Frag) (m : Pl) (n : Nat) (H : Hp) : List (List Kf × Addr × Value) → List (List Kf × PV) → Prop
  | nil : TReps K m n H [] []
  | cons {k : List Kf} {q : Addr} {u : Value} {v : V} {y : PV} {xs : List (List Kf × Addr × Value)} {kvs : List (List Kf × PV)} : Rep K m n H (.ref q) (kPV k) → RelV v u → Rep K m n H v y → TReps K m n H xs kvs → TReps K m n H ((k, q, u) :: xs) ((k, y) :: kvs)
def ORep (K : PySem.W.Frag) (m : Pl) (n : Nat) (H : Hp) (a : Addr) : PO → Prop
  | .lst xs => ∃ vs, H a = some (.lst vs) ∧ Reps K m n H vs xs
  | .frz xs => ∃ vs, SqF K H a vs ∧ Reps K m n H vs xs
  | .dic kvs => ∃ ws, H a = some (.dK ws) ∧ DReps K m n H ws kvs
  | .dit kvs => ∃ xs, H a = some (.ext (DitAt a xs)) ∧ TReps K m n H xs kvs
def PO.mut : PO → Bool
  | .frz _ => false
  | _ => true
/-- what the store's own objects are -/
def HMut : HO → Prop
  | .lst _ => True
  | .dK _ => True
  | .ext _ => True
  | _ => False
def fits (o : PO) (ho : HO) : Prop := if o.mut = true then HMut ho else ∃ ob u, ho = .frz ob u
theorem Reps.mv {K : PySem.W.Frag} {m m' : Pl} {n n' : Nat} {H H' : Hp} (hR : ∀ p v, Rep K m n H v p → Rep K m' n' H' v p) : ∀ {xs : List PV} {vs : List V}, Reps K m n H vs xs → Reps K m' n' H' vs xs
  | [], _, h => by cases h; exact .nil
  | x :: xs, _, h => by
    cases h with
    | cons h1 h2 => exact .cons (hR _ _ h1) (Reps.mv hR h2)
theorem DReps.mv {K : PySem.W.Frag} {m m' : Pl} {n n' : Nat} {H H' : Hp} (hR : ∀ p v, Rep K m n H v p → Rep K m' n' H' v p) : ∀ {xs : List (PV × PV)} {vs : List (Key × V)}, DReps K m n H vs xs → DReps K m' n' H' vs xs
  | [], _, h => by cases h; exact .nil
  | x :: xs, _, h => by
    cases h with
    | cons h0 h1 h2 => exact .cons h0 (hR _ _ h1) (DReps.mv hR h2)
theorem TReps.mv {K : PySem.W.Frag} {m m' : Pl} {n n' : Nat} {H H' : Hp} (hR : ∀ p v, Rep K m n H v p → Rep K m' n' H' v p) : ∀ {kvs : List (List Kf × PV)} {xs : List (List Kf × Addr × Value)}, TReps K m n H xs kvs → TReps K m' n' H' xs kvs
  | [], _, h => by cases h; exact .nil
  | x :: xs, _, h => by
    cases h with
    | cons h0 h1 h2 h3 => exact .cons (hR _ _ h0) h1 (hR _ _ h2) (TReps.mv hR h3)
theorem ORep.mv {K : PySem.W.Frag} {m m' : Pl} {n n' : Nat} {H H' : Hp} {a a' : Addr} {o : PO} (h : ORep K m n H a o) (ha : a' = a) (hH : ∀ ho, H a = some ho → fits o ho → H' a = some ho) (hR : ∀ p v, Rep K m n H v p → Rep K m' n' H' v p) : ORep K m' n' H' a' o := by
  subst ha
  cases o with
  | lst xs =>
    obtain ⟨vs, h1, h2⟩ := h
    exact ⟨vs, hH _ h1 trivial, h2.mv hR⟩
  | frz xs =>
    obtain ⟨vs, h1, h2⟩ := h
    refine ⟨vs, ?_, h2.mv hR⟩
    rcases h1 with ⟨ob, e⟩ | h1
    · exact .inl ⟨ob, hH _ e ⟨_, _, rfl⟩⟩
    · exact .inr h1
  | dic kvs =>
    obtain ⟨ws, h1, h2⟩ := h
    exact ⟨ws, hH _ h1 trivial, h2.mv hR⟩
  | dit kvs =>
    obtain ⟨xs, h1, h2⟩ := h
    exact ⟨xs, hH _ h1 trivial, h2.mv hR⟩

structure SRep (K : PySem.W.Frag) (m : Pl) (H : Hp) (st : Sto) : Prop where
  ob : ∀ l o, st.get l = some o → l < st.nxt ∧ ORep K m st.nxt H (m l) o
  inj : ∀ l k o u, st.get l = some o → st.get k = some u → o.mut = true → u.mut = true → m l = m k → l = k

/-- the store's own objects -/
def Own (m : Pl) (st : Sto) (a : Addr) : Prop := ∃ l o, st.get l = some o ∧ o.mut = true ∧ m l = a

structure Step (m : Pl) (st : Sto) (H : Hp) (m' : Pl) (st' : Sto) (H' : Hp) : Prop where
  nx : st.nxt ≤ st'.nxt
  mu : ∀ l, l < st.nxt → m' l = m l
  fr : ∀ a o, H a = some o → ¬ Own m st a → H' a = some o
  ow : ∀ a, Own m' st' a → Own m st a ∨ H a = none
theorem Step.refl (m : Pl) (st : Sto) (H : Hp) : Step m st H m st H := ⟨Nat.le_refl _, fun _ _ => rfl, fun _ _ h _ => h, fun _ h => .inl h⟩
theorem Step.trans {m m1 m2 : Pl} {st st1 st2 : Sto} {H H1 H2 : Hp} (a : Step m st H m1 st1 H1) (b : Step m1 st1 H1 m2 st2 H2) : Step m st H m2 st2 H2 := by
  refine ⟨Nat.le_trans a.nx b.nx, fun l h => (b.mu l (Nat.lt_of_lt_of_le h a.nx)).trans (a.mu l h), fun c o h hn => ?_, fun c h => ?_⟩
  · refine b.fr c o (a.fr c o h hn) fun q => ?_
    rcases a.ow c q with z | z
    · exact hn z
    · rw [h] at z; cases z
  · rcases b.ow c h with z | z
    · exact a.ow c z
    · by_cases q : Own m st c
      · exact .inl q
      · cases e : H c with
        | none => exact .inr rfl
        | some o =>
          rw [a.fr c o e q] at z
          cases z

section
variable {K : PySem.W.Frag} {m m' : Pl} {st st' : Sto} {H H' : Hp}
theorem SRep.own (s : SRep K m H st) {a : Addr} (h : Own m st a) : ∃ ho, H a = some ho ∧ HMut ho := by
  obtain ⟨l, o, e, hm, rfl⟩ := h
  obtain ⟨_, h⟩ := s.ob l _ e
  cases o with
  | lst xs => obtain ⟨vs, h, _⟩ := h; exact ⟨_, h, trivial⟩
  | frz xs => cases hm
  | dic kvs => obtain ⟨vs, h, _⟩ := h; exact ⟨_, h, trivial⟩
  | dit kvs => obtain ⟨vs, h, _⟩ := h; exact ⟨_, h, trivial⟩
theorem SRep.own_frz (s : SRep K m H st) {a : Addr} (h : Own m st a) {ob : Obj} {u : HO} (e : H a = some (.frz ob u)) : False := by
  obtain ⟨ho, e2, hm⟩ := s.own h
  rw [e] at e2
  cases e2
  exact hm
/-- tuples stay -/
theorem SRep.sqT (s : SRep K m H st) (t : Step m st H m' st' H') {a : Addr} {vs : List V} (h : SqD K H a vs) : SqD K H' a vs := by
  rcases h with ⟨o, h, d⟩ | h
  · exact .inl ⟨o, t.fr _ _ h fun q => s.own_frz q h, d⟩
  · exact .inr h
theorem SRep.sqF (s : SRep K m H st) (t : Step m st H m' st' H') {a : Addr} {vs : List V} (h : SqF K H a vs) : SqF K H' a vs := by
  rcases h with ⟨o, h⟩ | h
  · exact .inl ⟨o, t.fr _ _ h fun q => s.own_frz q h⟩
  · exact .inr h
mutual
theorem Rep.step (s : SRep K m H st) (t : Step m st H m' st' H') : ∀ (x : PV) (v : V), Rep K m st.nxt H v x → Rep K m' st'.nxt H' v x
  | .non, _, h => by cases h; exact .non
  | .bl b, _, h => by cases h; exact .bl b
  | .int i, _, h => by cases h; exact .int i
  | .str x, _, h => by
    cases h with
    | str _ q => exact .str x q
  | .rp x, _, h => by cases h; exact .rp x
  | .tup xs, _, h => by
    cases h with
    | tup h1 h2 => exact .tup (s.sqT t h1) (Reps.step s t xs _ h2)
  | .loc l, _, h => by
    cases h with
    | loc h =>
      have e := t.mu l h
      rw [← e]
      exact .loc (Nat.lt_of_lt_of_le h t.nx)
  | .lv _, _, h => by cases h
theorem Reps.step (s : SRep K m H st) (t : Step m st H m' st' H') : ∀ (xs : List PV) (vs : List V), Reps K m st.nxt H vs xs → Reps K m' st'.nxt H' vs xs
  | [], _, h => by cases h; exact .nil
  | x :: xs, _, h => by
    cases h with
    | cons h1 h2 => exact .cons (Rep.step s t x _ h1) (Reps.step s t xs _ h2)
end
end

/-- what tuples and places need -/
structure Stp (m : Pl) (n : Nat) (H : Hp) (m' : Pl) (n' : Nat) (H' : Hp) : Prop where
  nx : n ≤ n'
  mu : ∀ l, l < n → m' l = m l
  fz : ∀ a o u, H a = some (.frz o u) → H' a = some (.frz o u)
theorem Stp.refl (m : Pl) (n : Nat) (H : Hp) : Stp m n H m n H := ⟨Nat.le_refl _, fun _ _ => rfl, fun _ _ _ h => h⟩
theorem Stp.trans {m m1 m2 : Pl} {n n1 n2 : Nat} {H H1 H2 : Hp} (a : Stp m n H m1 n1 H1) (b : Stp m1 n1 H1 m2 n2 H2) : Stp m n H m2 n2 H2 :=
  ⟨Nat.le_trans a.nx b.nx, fun l h => (b.mu l (Nat.lt_of_lt_of_le h a.nx)).trans (a.mu l h), fun c o u h => b.fz c o u (a.fz c o u h)⟩
section
variable {K : PySem.W.Frag} {m m' : Pl} {n n' : Nat} {st st' : Sto} {H H' : Hp}
theorem Step.stp (t : Step m st H m' st' H') (s : SRep K m H st) : Stp m st.nxt H m' st'.nxt H' :=
  ⟨t.nx, t.mu, fun a o u h => t.fr a _ h fun q => s.own_frz q h⟩
theorem SqD.stp (t : Stp m n H m' n' H') {a : Addr} {vs : List V} (h : SqD K H a vs) : SqD K H' a vs := by
  rcases h with ⟨o, h, d⟩ | h
  · exact .inl ⟨o, t.fz _ _ _ h, d⟩
  · exact .inr h
mutual
theorem Rep.stp (t : Stp m n H m' n' H') : ∀ (x : PV) (v : V), Rep K m n H v x → Rep K m' n' H' v x
  | .non, _, h => by cases h; exact .non
  | .bl b, _, h => by cases h; exact .bl b
  | .int i, _, h => by cases h; exact .int i
  | .str x, _, h => by
    cases h with
    | str _ q => exact .str x q
  | .rp x, _, h => by cases h; exact .rp x
  | .tup xs, _, h => by
    cases h with
    | tup h1 h2 => exact .tup (h1.stp t) (Reps.stp t xs _ h2)
  | .loc l, _, h => by
    cases h with
    | loc h =>
      have e := t.mu l h
      rw [← e]
      exact .loc (Nat.lt_of_lt_of_le h t.nx)
  | .lv _, _, h => by cases h
theorem Reps.stp (t : Stp m n H m' n' H') : ∀ (xs : List PV) (vs : List V), Reps K m n H vs xs → Reps K m' n' H' vs xs
  | [], _, h => by cases h; exact .nil
  | x :: xs, _, h => by
    cases h with
    | cons h1 h2 => exact .cons (Rep.stp t x _ h1) (Reps.stp t xs _ h2)
end
end

section
variable {K : PySem.W.Frag} {m : Pl} {n : Nat} {H : Hp}
theorem Reps.length : ∀ {xs : List PV} {vs : List V}, Reps K m n H vs xs → vs.length = xs.length
  | [], _, h => by cases h; rfl
  | x :: xs, _, h => by
    cases h with
    | cons _ h => simp only [List.length_cons, Reps.length h]
theorem Reps.get : ∀ {xs : List PV} {vs : List V} {i : Nat} {x : PV}, Reps K m n H vs xs → xs[i]? = some x → ∃ v, vs[i]? = some v ∧ Rep K m n H v x
  | [], _, _, _, h, e => by simp at e
  | x :: xs, _, 0, y, h, e => by
    cases h with
    | cons h1 h2 => simp at e; subst e; exact ⟨_, rfl, h1⟩
  | x :: xs, _, i + 1, y, h, e => by
    cases h with
    | cons h1 h2 =>
      obtain ⟨v, e1, r⟩ := Reps.get (i := i) (x := y) h2 (by simpa using e)
      exact ⟨v, by simpa using e1, r⟩
theorem Reps.append : ∀ {xs ys : List PV} {vs ws : List V}, Reps K m n H vs xs → Reps K m n H ws ys → Reps K m n H (vs ++ ws) (xs ++ ys)
  | [], _, _, _, h, h' => by cases h; exact h'
  | x :: xs, _, _, _, h, h' => by
    cases h with
    | cons h1 h2 => exact .cons h1 (Reps.append h2 h')
theorem Reps.take : ∀ (j : Nat) {xs : List PV} {vs : List V}, Reps K m n H vs xs → Reps K m n H (vs.take j) (xs.take j)
  | 0, _, _, _ => by simp only [List.take_zero]; exact .nil
  | j + 1, [], _, h => by cases h; exact .nil
  | j + 1, x :: xs, _, h => by
    cases h with
    | cons h1 h2 => exact .cons h1 (Reps.take j h2)
theorem Reps.drop : ∀ (j : Nat) {xs : List PV} {vs : List V}, Reps K m n H vs xs → Reps K m n H (vs.drop j) (xs.drop j)
  | 0, _, _, h => h
  | j + 1, [], _, h => by cases h; exact .nil
  | j + 1, x :: xs, _, h => by
    cases h with
    | cons h1 h2 => exact Reps.drop j h2
theorem Reps.set : ∀ (j : Nat) {xs : List PV} {vs : List V} {v : V} {x : PV}, Reps K m n H vs xs → Rep K m n H v x → Reps K m n H (vs.set j v) (xs.set j x)
  | _, [], _, _, _, h, _ => by cases h; exact .nil
  | 0, x :: xs, _, _, _, h, r => by
    cases h with
    | cons h1 h2 => exact .cons r h2
  | j + 1, x :: xs, _, _, _, h, r => by
    cases h with
    | cons h1 h2 => exact .cons h1 (Reps.set j h2 r)
theorem Reps.reverse {xs : List PV} {vs : List V} (h : Reps K m n H vs xs) : Reps K m n H vs.reverse xs.reverse := by
  induction xs generalizing vs with
  | nil => cases h; exact .nil
  | cons x xs ih =>
    cases h with
    | cons h1 h2 =>
      rw [List.reverse_cons, List.reverse_cons]
      exact (ih h2).append (.cons h1 .nil)
theorem Reps.rep {xs : List PV} {vs : List V} (h : Reps K m n H vs xs) : ∀ k : Nat, Reps K m n H (Dp.rep k vs) (Dp.rep k xs)
  | 0 => .nil
  | k + 1 => h.append (Reps.rep h k)
theorem Reps.eraseIdx : ∀ (j : Nat) {xs : List PV} {vs : List V}, Reps K m n H vs xs → Reps K m n H (vs.eraseIdx j) (xs.eraseIdx j)
  | _, [], _, h => by cases h; exact .nil
  | 0, x :: xs, _, h => by
    cases h with
    | cons h1 h2 => exact h2
  | j + 1, x :: xs, _, h => by
    cases h with
    | cons h1 h2 => exact .cons h1 (Reps.eraseIdx j h2)
end

/-! ### a slot's value -/
structure ERep (K : PySem.W.Frag) (m : Pl) (n : Nat) (H : Hp) (σ : L2.St) (r : Env) : Prop where
  len : σ.length = r.length
  at_ : ∀ (i : Nat) (p : PV), r[i]? = some (some p) → ∃ v, σ[i]? = some (some v) ∧ Rep K m n H v p
theorem ERep.step {K : PySem.W.Frag} {m m' : Pl} {st st' : Sto} {H H' : Hp} {σ : L2.St} {r : Env} (e : ERep K m st.nxt H σ r) (s : SRep K m H st) (t : Step m st H m' st' H') : ERep K m' st'.nxt H' σ r :=
  ⟨e.len, fun i p h => let ⟨v, h1, h2⟩ := e.at_ i p h; ⟨v, h1, Rep.step s t p v h2⟩⟩
theorem ERep.set {K : PySem.W.Frag} {m : Pl} {n : Nat} {H : Hp} {σ : L2.St} {r : Env} (e : ERep K m n H σ r) {i : Nat} {v : V} {p : PV} (h : Rep K m n H v p) : ERep K m n H (σ.set i (some v)) (setN i p r) := by
  refine ⟨by rw [List.length_set]; unfold setN; rw [List.length_set]; exact e.len, fun j q hq => ?_⟩
  unfold setN at hq
  by_cases hij : i = j
  · subst hij
    rw [List.getElem?_set] at hq
    by_cases hl : i < r.length
    · simp [hl] at hq
      subst hq
      exact ⟨v, by rw [List.getElem?_set]; simp [e.len, hl], h⟩
    · simp [hl] at hq
  · rw [List.getElem?_set_ne hij] at hq
    obtain ⟨w, h1, h2⟩ := e.at_ j q hq
    exact ⟨w, by rw [List.getElem?_set_ne hij]; exact h1, h2⟩
theorem ERep.clear {K : PySem.W.Frag} {m : Pl} {n : Nat} {H : Hp} {σ : L2.St} {r : Env} (e : ERep K m n H σ r) (i : Nat) : ERep K m n H (σ.set i none) (r.set i none) := by
  refine ⟨by rw [List.length_set, List.length_set]; exact e.len, fun j q hq => ?_⟩
  by_cases hij : i = j
  · subst hij
    rw [List.getElem?_set] at hq
    by_cases hl : i < r.length
    · simp [hl] at hq
    · simp [hl] at hq
  · rw [List.getElem?_set_ne hij] at hq
    obtain ⟨w, h1, h2⟩ := e.at_ j q hq
    exact ⟨w, by rw [List.getElem?_set_ne hij]; exact h1, h2⟩
theorem ERep.wipe {K : PySem.W.Frag} {m : Pl} {n : Nat} {H : Hp} {σ : L2.St} {r : Env} (e : ERep K m n H σ r) : ∀ vs : List Nat, ERep K m n H (L2.wipe σ vs) (wipeE r vs)
  | [] => e
  | v :: vs => by
    show ERep K m n H ((L2.wipe σ vs).set v none) ((wipeE r vs).set v none)
    exact (ERep.wipe e vs).clear v

/-! ### a run's end -/
def FinG {α β : Type} (K : PySem.W.Frag) (rel : Pl → Nat → Hp → β → α → Prop) (m : Pl) (st : Sto) (H : Hp) (r : R α) (Q : β → Hp → Prop) : Prop :=
  match r with
  | .ok p st' => ∀ (v : β) (H' : Hp) (m' : Pl), Step m st H m' st' H' → SRep K m' H' st' → rel m' st'.nxt H' v p → Q v H'
  | .err => False
section
variable {α β γ δ : Type} {K : PySem.W.Frag} {rel : Pl → Nat → Hp → β → α → Prop} {rel2 : Pl → Nat → Hp → δ → γ → Prop} {m : Pl} {st : Sto} {H : Hp}
theorem FinG.mono {r : R α} {Q Q' : β → Hp → Prop} (h : FinG K rel m st H r Q) (q : ∀ v H', Q v H' → Q' v H') : FinG K rel m st H r Q' := by
  cases r with
  | ok p st' => exact fun v H' m' s1 s2 s3 => q _ _ (h v H' m' s1 s2 s3)
  | err => exact h
theorem FinG.seq {g : M α} {f : α → M γ} {Q : δ → Hp → Prop} {Q' : β → Hp → Prop} (h : FinG K rel2 m st H (M.bind g f st) Q)
    (k : ∀ (v : β) (H1 : Hp) (m1 : Pl) (st1 : Sto) (p : α), Step m st H m1 st1 H1 → SRep K m1 H1 st1 → rel m1 st1.nxt H1 v p → FinG K rel2 m1 st1 H1 (f p st1) Q → Q' v H1) : FinG K rel m st H (g st) Q' := by
  unfold M.bind at h
  cases e : g st with
  | err => rw [e] at h; exact h
  | ok p st1 =>
    rw [e] at h
    refine fun v H1 m1 s1 s2 s3 => k v H1 m1 st1 p s1 s2 s3 ?_
    have h : FinG K rel2 m st H (f p st1) Q := h
    show FinG K rel2 m1 st1 H1 (f p st1) Q
    cases e2 : f p st1 with
    | err => rw [e2] at h; exact h
    | ok q st2 =>
      rw [e2] at h
      exact fun w H2 m2 t1 t2 t3 => h w H2 m2 (s1.trans t1) t2 t3
theorem FinG.done {p : α} {Q : β → Hp → Prop} {v : β} (h : FinG K rel m st H (.ok p st) Q) (s : SRep K m H st) (r : rel m st.nxt H v p) : Q v H := h v H m (.refl _ _ _) s r
end
abbrev relB : Pl → Nat → Hp → Bool → Bool → Prop := fun _ _ _ v p => v = p
abbrev relO : Pl → Nat → Hp → Option Int → Option Int → Prop := fun _ _ _ v p => v = p

/-- the reading of an expression, by a run of its own -/
def rd (K : PySem.W.Frag) (f : Env → M PV) : TE := fun σ H Q => ∃ m r st, ERep K m st.nxt H σ r ∧ SRep K m H st ∧ FinG K (Rep K) m st H (f r st) Q
def rdB (K : PySem.W.Frag) (f : Env → M Bool) : TT := fun σ H Q => ∃ m r st, ERep K m st.nxt H σ r ∧ SRep K m H st ∧ FinG K relB m st H (f r st) Q
def rdA (K : PySem.W.Frag) (f : Env → M (List PV)) : TA := fun σ H Q => ∃ m r st, ERep K m st.nxt H σ r ∧ SRep K m H st ∧ FinG K (Reps K) m st H (f r st) Q
/-- operators, by values -/
def rd1 (K : PySem.W.Frag) (f : PV → M PV) : V → Hp → VK → Prop := fun x H Q => ∃ m st p, SRep K m H st ∧ Rep K m st.nxt H x p ∧ FinG K (Rep K) m st H (f p st) Q
def rd2 (K : PySem.W.Frag) (f : PV → PV → M PV) : R2 := fun x y H Q => ∃ m st p q, SRep K m H st ∧ Rep K m st.nxt H x p ∧ Rep K m st.nxt H y q ∧ FinG K (Rep K) m st H (f p q st) Q
def rdL (K : PySem.W.Frag) (f : List PV → M PV) : List V → Hp → VK → Prop := fun xs H Q => ∃ m st ps, SRep K m H st ∧ Reps K m st.nxt H xs ps ∧ FinG K (Rep K) m st H (f ps st) Q
def rdM (K : PySem.W.Frag) (f : PV → List PV → M PV) : V → List V → Hp → VK → Prop := fun x xs H Q => ∃ m st p ps, SRep K m H st ∧ Rep K m st.nxt H x p ∧ Reps K m st.nxt H xs ps ∧ FinG K (Rep K) m st H (f p ps st) Q

theorem PE.conseq {X : Cx} {e : Expr} {t t' : TE} (h : PE X e t) (k : ∀ σ H Q, t' σ H Q → t σ H Q) : PE X e t' := ⟨fun pins s σ H Q I q => h.run pins s σ H Q I (k _ _ _ q)⟩
theorem PT.conseq {X : Cx} {e : Expr} {t t' : TT} (h : PT X e t) (k : ∀ σ H Q, t' σ H Q → t σ H Q) : PT X e t' := ⟨fun pins s σ H Q I q => h.run pins s σ H Q I (k _ _ _ q)⟩
theorem PW.conseq {X : Cx} {e : Expr} {t t' : TT} (h : PW X e t) (k : ∀ σ H Q, t' σ H Q → t σ H Q) : PW X e t' := ⟨fun w pins s σ H Q I q => h.run w pins s σ H Q I (k _ _ _ q)⟩
theorem PA.conseq {X : Cx} {e : List Expr} {t t' : TA} (h : PA X e t) (k : ∀ σ H Q, t' σ H Q → t σ H Q) : PA X e t' := ⟨fun pos pins s σ H Q I q => h.run pos pins s σ H Q I (k _ _ _ q)⟩
theorem PS.conseq {X : Cx} {e : Stmt} {t t' : TS} (h : PS X e t) (k : ∀ D σ H, t' D σ H → t D σ H) : PS X e t' := ⟨fun pins s σ H D I q => h.run pins s σ H D I (k _ _ _ q)⟩
theorem PSs.conseq {X : Cx} {e : List Stmt} {t t' : TS} (h : PSs X e t) (k : ∀ D σ H, t' D σ H → t D σ H) : PSs X e t' := ⟨fun pins s σ H D I q => h.run pins s σ H D I (k _ _ _ q)⟩

/-! ### what makes and changes objects -/
section
variable {K : PySem.W.Frag} {m : Pl} {st : Sto} {H : Hp}
/-- an untracked new object -/
theorem Step.tup (s : SRep K m H st) {p : Addr} (hp : H p = none) (o : HO) : Step m st H m st (upd H p o) :=
  ⟨Nat.le_refl _, fun _ _ => rfl, fun a u h _ => by rw [upd_ne (ne_of_none h hp)]; exact h, fun _ h => .inl h⟩
theorem SRep.tup (s : SRep K m H st) {p : Addr} (hp : H p = none) (o : HO) : SRep K m (upd H p o) st := by
  have t := Step.tup s hp o
  refine ⟨fun l u e => ?_, s.inj⟩
  obtain ⟨h1, h2⟩ := s.ob l u e
  exact ⟨h1, h2.mv rfl (fun ho e _ => by rw [upd_ne (ne_of_none e hp)]; exact e) (Rep.step s t)⟩
/-- the place of a new object -/
def plNew (m : Pl) (n : Nat) (a : Addr) : Pl := fun k => if k = n then a else m k
theorem plNew_old {m : Pl} {n : Nat} {a : Addr} {l : Nat} (h : l < n) : plNew m n a l = m l := by unfold plNew; rw [if_neg (Nat.ne_of_lt h)]
theorem plNew_new {m : Pl} {n : Nat} {a : Addr} : plNew m n a n = a := by unfold plNew; rw [if_pos rfl]
theorem get_new_old {st : Sto} {o u : PO} {l : Nat} (h : l ≠ st.nxt) : (st.new o).get l = st.get l := by
  show getL l ((st.nxt, o) :: st.obs) = getL l st.obs
  rw [getL, if_neg]
  intro q
  exact h (beq_iff_eq.mp q).symm
theorem get_new {st : Sto} {o : PO} : (st.new o).get st.nxt = some o := by
  show getL st.nxt ((st.nxt, o) :: st.obs) = some o
  rw [getL, if_pos (beq_iff_eq.mpr rfl)]
theorem get_newE {st : Sto} {o u : PO} {l : Nat} (h : (st.new o).get l = some u) : (l = st.nxt ∧ u = o) ∨ (l ≠ st.nxt ∧ st.get l = some u) := by
  by_cases e : l = st.nxt
  · subst e
    rw [get_new] at h
    exact .inl ⟨rfl, (Option.some.inj h).symm⟩
  · rw [get_new_old (u := u) e] at h
    exact .inr ⟨e, h⟩
/-- a new object of the store -/
theorem Step.newO (s : SRep K m H st) {p : Addr} (hp : H p = none) (ho : HO) (o : PO) : Step m st H (plNew m st.nxt p) (st.new o) (upd H p ho) := by
  refine ⟨Nat.le_succ _, fun l h => plNew_old h, fun a u h _ => by rw [upd_ne (ne_of_none h hp)]; exact h, fun a h => ?_⟩
  obtain ⟨l, ys, e, hm, rfl⟩ := h
  rcases get_newE e with ⟨rfl, _⟩ | ⟨n1, e⟩
  · rw [plNew_new]
    exact .inr hp
  · rw [plNew_old (s.ob l _ e).1]
    exact .inl ⟨l, ys, e, hm, rfl⟩
theorem SRep.newO (s : SRep K m H st) {p : Addr} (hp : H p = none) {ho : HO} {o : PO} (r : ORep K (plNew m st.nxt p) (st.nxt + 1) (upd H p ho) p o) : SRep K (plNew m st.nxt p) (upd H p ho) (st.new o) := by
  have t := Step.newO s hp ho o
  refine ⟨fun l u e => ?_, fun l k ys zs e1 e2 m1 m2 q => ?_⟩
  · rcases get_newE e with ⟨rfl, rfl⟩ | ⟨n1, e⟩
    · exact ⟨Nat.lt_succ_self _, by rw [plNew_new]; exact r⟩
    · obtain ⟨h1, h2⟩ := s.ob l u e
      exact ⟨Nat.lt_succ_of_lt h1, h2.mv (plNew_old h1) (fun ho e _ => by rw [upd_ne (ne_of_none e hp)]; exact e) (Rep.step s t)⟩
  · have no : ∀ j o2, st.get j = some o2 → o2.mut = true → m j ≠ p := fun j o2 e hm z => by
      obtain ⟨ho2, e2, _⟩ := s.own ⟨j, o2, e, hm, z⟩
      rw [hp] at e2
      cases e2
    rcases get_newE e1 with ⟨rfl, _⟩ | ⟨n1, e1⟩
    · rcases get_newE e2 with ⟨rfl, _⟩ | ⟨n2, e2⟩
      · rfl
      · rw [plNew_new, plNew_old (s.ob k _ e2).1] at q
        exact absurd q.symm (no k _ e2 m2)
    · rcases get_newE e2 with ⟨rfl, _⟩ | ⟨n2, e2⟩
      · rw [plNew_new, plNew_old (s.ob l _ e1).1] at q
        exact absurd q (no l _ e1 m1)
      · rw [plNew_old (s.ob l _ e1).1, plNew_old (s.ob k _ e2).1] at q
        exact s.inj l k _ _ e1 e2 m1 m2 q
theorem Step.newL (s : SRep K m H st) {p : Addr} (hp : H p = none) (vs : List V) (xs : List PV) : Step m st H (plNew m st.nxt p) (st.new (.lst xs)) (upd H p (.lst vs)) := Step.newO s hp _ _
theorem SRep.newL (s : SRep K m H st) {p : Addr} (hp : H p = none) {vs : List V} {xs : List PV} (r : Reps K m st.nxt H vs xs) : SRep K (plNew m st.nxt p) (upd H p (.lst vs)) (st.new (.lst xs)) :=
  SRep.newO s hp ⟨vs, upd_same, Reps.step s (Step.newL s hp vs xs) xs vs r⟩
theorem Step.newD (s : SRep K m H st) {p : Addr} (hp : H p = none) : Step m st H (plNew m st.nxt p) (st.new (.dic [])) (upd H p (.dK [])) := Step.newO s hp _ _
theorem SRep.newD (s : SRep K m H st) {p : Addr} (hp : H p = none) : SRep K (plNew m st.nxt p) (upd H p (.dK [])) (st.new (.dic [])) := SRep.newO s hp ⟨[], upd_same, .nil⟩
/-- writing a list of the store -/
theorem getL_set {l : Nat} {o : PO} : ∀ {obs : List (Nat × PO)} {u : PO}, getL l obs = some u → getL l (setL l o obs) = some o
  | [], _, h => by cases h
  | (k, w) :: r, u, h => by
    rw [setL]
    by_cases e : (k == l) = true
    · rw [if_pos e, getL, if_pos e]
    · rw [if_neg e, getL, if_neg e]
      rw [getL, if_neg e] at h
      exact getL_set h
theorem getL_set_ne {l k : Nat} {o : PO} (hn : k ≠ l) : ∀ {obs : List (Nat × PO)}, getL k (setL l o obs) = getL k obs
  | [] => rfl
  | (j, w) :: r => by
    rw [setL]
    by_cases e : (j == l) = true
    · have ne : ¬ (j == k) = true := fun q => hn ((beq_iff_eq.mp q).symm.trans (beq_iff_eq.mp e))
      rw [if_pos e, getL, getL, if_neg ne, if_neg ne]
    · rw [if_neg e, getL, getL, getL_set_ne hn]
/-- writing an object of the store -/
theorem Step.setO (s : SRep K m H st) {l : Nat} {o o2 : PO} {ho : HO} (e : st.get l = some o) (hm : o.mut = true) : Step m st H m (st.set l o2) (upd H (m l) ho) := by
  refine ⟨Nat.le_refl _, fun _ _ => rfl, fun a u h q => ?_, fun a h => ?_⟩
  · have ne : a ≠ m l := fun z => q ⟨l, o, e, hm, z.symm⟩
    rw [upd_ne ne]; exact h
  · obtain ⟨k, zs, e2, m2, rfl⟩ := h
    by_cases q : k = l
    · subst q; exact .inl ⟨k, o, e, hm, rfl⟩
    · exact .inl ⟨k, zs, by rw [← e2]; exact (getL_set_ne q).symm, m2, rfl⟩
theorem SRep.setO (s : SRep K m H st) {l : Nat} {o o2 : PO} {ho : HO} (e : st.get l = some o) (hm : o.mut = true) (r : ORep K m st.nxt (upd H (m l) ho) (m l) o2) : SRep K m (upd H (m l) ho) (st.set l o2) := by
  have t := Step.setO (o2 := o2) (ho := ho) s e hm
  have isl : ∀ k zs, (st.set l o2).get k = some zs → zs.mut = true → ∃ ws, st.get k = some ws ∧ ws.mut = true := fun k zs h m2 => by
    by_cases q : k = l
    · subst q; exact ⟨o, e, hm⟩
    · exact ⟨zs, by rw [← h]; exact (getL_set_ne q).symm, m2⟩
  refine ⟨fun k u h => ?_, fun a b ys' zs e1 e2 m1 m2 q => ?_⟩
  · by_cases q : k = l
    · subst q
      have h' : (st.set k o2).get k = some o2 := getL_set e
      rw [h'] at h
      cases h
      exact ⟨(s.ob k _ e).1, r⟩
    · have h' : st.get k = some u := by rw [← h]; exact (getL_set_ne q).symm
      obtain ⟨h1, h2⟩ := s.ob k u h'
      refine ⟨h1, h2.mv rfl (fun ho2 e3 hf => ?_) (Rep.step s t)⟩
      have ne : m k ≠ m l := fun z => by
        by_cases hu : u.mut = true
        · exact q (s.inj k l _ _ h' e hu hm z)
        · unfold fits at hf
          rw [if_neg hu] at hf
          obtain ⟨ob, v, rfl⟩ := hf
          exact s.own_frz ⟨l, o, e, hm, z.symm⟩ e3
      rw [upd_ne ne]
      exact e3
  · obtain ⟨w1, f1, g1⟩ := isl a _ e1 m1
    obtain ⟨w2, f2, g2⟩ := isl b _ e2 m2
    exact s.inj a b _ _ f1 f2 g1 g2 q
theorem Step.setL (s : SRep K m H st) {l : Nat} {xs ys : List PV} {vs : List V} (e : st.get l = some (.lst xs)) : Step m st H m (st.set l (.lst ys)) (upd H (m l) (.lst vs)) := Step.setO s e rfl
theorem SRep.setL (s : SRep K m H st) {l : Nat} {xs ys : List PV} {vs : List V} (e : st.get l = some (.lst xs)) (r : Reps K m st.nxt H vs ys) : SRep K m (upd H (m l) (.lst vs)) (st.set l (.lst ys)) :=
  SRep.setO s e rfl ⟨vs, upd_same, Reps.step s (Step.setL (ys := ys) (vs := vs) s e) ys vs r⟩
theorem SRep.at (s : SRep K m H st) {l : Nat} {xs : List PV} (h : st.lstAt l = some xs) : ∃ vs, SqL K H (m l) vs ∧ Reps K m st.nxt H vs xs := by
  unfold Sto.lstAt at h
  cases e : st.get l with
  | none => rw [e] at h; cases h
  | some o =>
    rw [e] at h
    cases o with
    | lst ys =>
      cases h
      obtain ⟨_, vs, h1, h2⟩ := s.ob l _ e
      exact ⟨vs, SqL.of h1, h2⟩
    | frz ys =>
      cases h
      obtain ⟨_, vs, h1, h2⟩ := s.ob l _ e
      exact ⟨vs, h1.sq, h2⟩
    | dic kvs => cases h
    | dit kvs => cases h
end
end Dp


set_option Elab.async false
set_option linter.all false
set_option maxRecDepth 100000
set_option maxHeartbeats 4000000
set_option autoImplicit false
/-! DitRaw: a dict that is made of another one and one entry more: {**d, k: v}, keys that are tuples. -/
namespace Dp
open PySem
section
variable {prog : Program} {w : World} {K : Type} [DecidableEq K] {knd : HeapKind prog w K} {A : Around} {E : Value → Shared → Prop} {s : Shared}
theorem wpAny_dictPut_heap {d a : Addr} {xs : List (K × Addr × Value)} {k : K} {v : Value} {Q : Unit → Shared → Prop} (hu : knd.room A) (hkey : knd.is s.heap k a) (hm : s.heap.DictOfH knd d xs)
    (hQ : ∀ h', h'.DictOfH knd d (storedH xs k a v) → Heap.SameBut d s.heap h' → Q () { s with heap := h' })
    (hsz : xs.length ≤ sizeLine) :
    wpAny (model prog w) A (dictPut d (knd.hash k) (.ref a) v) Q E s := by
  obtain ⟨o, es, ep, ho, hc, hd, he, his, hn⟩ := hm
  unfold dictPut
  refine wpAny_bind (wpAny_dictFind_heap hu hkey ho hd he his hn ?_ ?_)
  · intro hno
    have hnot : k ∉ xs.map (·.1) := not_mem_keys_of_get hno
    refine wpAny_updateDictKeys (hz := by have e := size_of_entries he; omega) ho hd (hQ _ ⟨_, _, ep + 1, Heap.get?_update_self _ ho (Obj.isFreed_of_dict (Obj.data_mapDictKeys hd _)),
      hc.mapDictKeys _, Obj.data_mapDictKeys hd _, ?_, ?_, ?_⟩ (Heap.SameBut.update ..))
    · rw [storedH_new (atKey_none_of_get hno)]
      simp [he, entryOfKey]
    · rw [storedH_new (atKey_none_of_get hno)]
      intro x hx
      rcases List.mem_append.mp hx with hx | hx
      · exact knd.keeps (his x hx) ho hd (Heap.SameBut.update ..)
      · simp only [List.mem_singleton] at hx
        subst hx
        exact knd.keeps hkey ho hd (Heap.SameBut.update ..)
    · rw [storedH_new (atKey_none_of_get hno)]
      rw [List.map_append, List.nodup_append]
      refine ⟨hn, by simp, ?_⟩
      intro x hx y hy
      simp only [List.map_cons, List.map_nil, List.mem_singleton] at hy
      subst hy
      exact fun e => hnot (e ▸ hx)
  · intro j p hj
    refine wpAny_updateDict ho hd (hQ _ ⟨_, _, ep, Heap.get?_update_self _ ho (Obj.isFreed_of_dict (Obj.data_mapDict hd _)),
      hc.mapDict _, Obj.data_mapDict hd _, ?_, ?_, ?_⟩ (Heap.SameBut.update ..))
    · rw [storedH_old (atKey_of_get hn hj)]
      have := modify_map_putAt (entryOfKey knd) (fun e : DictEntry => { e with val := v }) k v (fun _ _ => rfl) hn hj
      rw [← he] at this
      obtain ⟨l⟩ := es
      simpa using this
    · rw [storedH_old (atKey_of_get hn hj)]
      intro x hx
      obtain ⟨y, hy, rfl⟩ := List.mem_map.mp hx
      unfold putAt
      split <;> exact knd.keeps (his y hy) ho hd (Heap.SameBut.update ..)
    · rw [storedH_old (atKey_of_get hn hj)]
      rw [keys_map_putAt]; exact hn
theorem wpAny_mergeMapping_heap {d o : Addr} {kvs more : List (K × Addr × Value)} {Q : Unit → Shared → Prop} (hu : knd.room A) (hdo : d ≠ o) (hoS : (o == sysModules) = false)
    (hd : s.heap.DictOfH knd d kvs) (ho : s.heap.DictOfH knd o more) (hap : kvs ≠ [] ∨ ((∀ x ∈ more, s.TypeIs (.ref x.2.1) "tuple") ∧ (more.map fun x => knd.hash x.1).Nodup))
    (hQ : ∀ h', h'.DictOfH knd d (storedAllH kvs more) → h'.DictOfH knd o more → Heap.SameBut d s.heap h' → Q () { s with heap := h' })
    (hsz : kvs.length + more.length ≤ sizeLine) :
    wpAny (model prog w) A (mergeMapping d (.ref o) false) Q E s := by
  obtain ⟨od, esd, epd, hod, hcd, hdd, hed, hisd, hnd⟩ := id hd
  obtain ⟨oo, eso, epo, hoo, hco, hdo', heo, hiso, hno⟩ := id ho
  have hlen : eso.size = more.length := size_of_entries heo
  unfold mergeMapping
  refine wpAny_bind (wpAny_isInstance ho.typeIs isSubtype_dict_dict ?_)
  simp only [if_true]
  refine wpAny_bind (wpAny_specialOf ho.typeIs F.slot_dict_iter.lookup (wpAny_bind (wpAny_pure ?_)))
  simp only [beq_self_eq_true, Bool.false_eq_true, if_false]
  rw [if_neg (by rw [hoS]; exact Bool.false_ne_true)]
  have loop : wpAny (model prog w) A (do
      let l ← dictEntries o
      let epoch ← dictEpoch o
      forIn (List.range l.size) PUnit.unit fun i (_ : PUnit) => (do
          let l' ← dictEntries o
          match l'[i]? with
            | some e => do
              holding [e.key, e.val] (dictPut d e.hash e.key e.val)
              let ep' ← dictEpoch o
              if (ep' != epoch) = true then do
                  (unsupported "dict.changed-during-merge" : Sem PUnit)
                  pure (ForInStep.yield PUnit.unit)
                else pure (ForInStep.yield PUnit.unit)
            | _ => do
              (unsupported "dict.changed-during-merge" : Sem PUnit)
              pure (ForInStep.yield PUnit.unit) : Sem (ForInStep PUnit))
      pure ()) Q E s := by
    refine wpAny_bind (wpAny_dictEntries hoo hdo' ?_)
    refine wpAny_bind (wpAny_dictEpoch hoo hdo' ?_)
    refine wpAny_bind ?_
    rw [List.range_eq_range']
    refine wpAny_forIn_list _
      (fun rest _ s' => ∃ h' i, s' = { s with heap := h' } ∧ rest = List.range' i (eso.size - i) ∧ i ≤ eso.size ∧ h'.DictOfH knd d (storedAllH kvs (more.take i)) ∧ h'.DictOfH knd o more ∧ h'.get? o = some oo ∧ Heap.SameBut d s.heap h')
      _ ?_ ?_ _ _ ⟨s.heap, 0, rfl, by simp, Nat.zero_le _, by simpa [storedAllH] using hd, ho, hoo, Heap.SameBut.refl _ _⟩
    · rintro x rest b s' ⟨h', i, rfl, hr, hi, hd', ho', hoo', hs'⟩
      have hlt : i < eso.size := by
        rcases Nat.lt_or_ge i eso.size with h | h
        · exact h
        · rw [Nat.sub_eq_zero_of_le h] at hr; simp at hr
      obtain ⟨rfl, hrest⟩ : x = i ∧ rest = List.range' (i + 1) (eso.size - (i + 1)) := by
        have e : eso.size - i = (eso.size - (i + 1)) + 1 := by omega
        rw [e, List.range'_succ] at hr
        injection hr with h1 h2
        exact ⟨h1, h2⟩
      refine wpAny_bind (wpAny_dictEntries hoo' hdo' ?_)
      obtain ⟨⟨k, a, v⟩, hkv⟩ : ∃ kv, more[x]? = some kv := ⟨more[x]'(by rw [← hlen]; exact hlt), List.getElem?_eq_getElem _⟩
      rw [entry_at heo x, hkv]
      show wpAny _ _ (holding [.ref a, v] (dictPut d (knd.hash k) (.ref a) v) >>= _) _ _ _
      have hmx : (storedAllH kvs (more.take x)).length ≤ sizeLine := by
        have e1 := storedAllH_length (more.take x) kvs
        have e2 : (more.take x).length ≤ more.length := by rw [List.length_take]; omega
        omega
      have hkey : knd.is h' k a := by
        obtain ⟨_, _, _, _, _, _, _, his', _⟩ := ho'
        exact his' (k, a, v) (List.mem_of_getElem? hkv)
      refine wpAny_bind (wpAny_holding (wpAny_dictPut_heap (s := { s with heap := h' }) (hsz := hmx) hu hkey hd' fun h'' hd'' hs'' => ?_))
      have hoo'' : h''.get? o = some oo := (hs''.2 o (Ne.symm hdo)).trans hoo'
      refine wpAny_bind (wpAny_dictEpoch hoo'' hdo' ?_)
      rw [if_neg (by simp)]
      exact wpAny_pure ⟨h'', x + 1, rfl, hrest, hlt, by rw [storedAllH_take_succ kvs more x (k, a, v) hkv]; exact hd'', ho'.notHere hd' hdo hs'', hoo'', hs'.trans hs''⟩
    · rintro b s' ⟨h', i, rfl, hr, hi, hd', ho', hoo', hs'⟩
      have hin : i = eso.size := by
        rcases Nat.lt_or_ge i eso.size with h | h
        · have e : eso.size - i = (eso.size - (i + 1)) + 1 := by omega
          rw [e, List.range'_succ] at hr; exact nomatch hr
        · exact Nat.le_antisymm hi h
      refine wpAny_pure (hQ h' ?_ ho' hs')
      rw [hin, hlen, List.take_length] at hd'; exact hd'
  refine wpAny_bind (wpAny_dictEntries hod hdd ?_)
  split
  · rename_i hemp
    have hkvs : kvs = [] := by
      have h0 : esd = #[] := Array.isEmpty_iff.mp hemp
      have := size_of_entries hed
      rw [h0] at this
      exact List.length_eq_zero_iff.mp (by simpa using this.symm)
    have hap' := hap.resolve_left fun h => h hkvs
    have hq := keysApart heo hap'.1 hap'.2
    refine wpAny_bind (wpAny_dictEntries hoo hdo' ?_)
    refine wpAny_bind ?_
    rw [← Array.forIn_toList]
    refine wpAny_forIn_list _ (fun rest _ s' => s' = s ∧ ∀ e ∈ rest, KeyApart s eso e ∧ ∃ a, e.key = .ref a) _ ?_ ?_ _ _ ⟨rfl, fun e he => ⟨hq e he, by
      rw [heo] at he
      obtain ⟨x, _, rfl⟩ := List.mem_map.mp he
      exact ⟨x.2.1, rfl⟩⟩⟩
    · rintro e rest b s' ⟨rfl, hall⟩
      have hrest : ∀ x ∈ rest, KeyApart s' eso x ∧ ∃ a, x.key = .ref a := fun x hx => hall x (List.mem_cons_of_mem _ hx)
      obtain ⟨ha, a0, ka0⟩ := hall e List.mem_cons_self
      rcases ha with hv | ⟨a, hk, hT, h1⟩
      · rw [ka0] at hv; cases hv
      · rw [hk]
        dsimp only
        refine wpAny_bind (wpAny_specialOf hT F.slot_tuple_eq.lookup ?_)
        refine wpAny_ite_split (fun _ => ?_) (fun _ => wpAny_pure ⟨rfl, hrest⟩)
        rw [if_neg (by omega)]
        exact wpAny_pure ⟨rfl, hrest⟩
    · rintro b s' ⟨rfl, _⟩
      exact loop
  · exact loop
end
end Dp


set_option Elab.async false
set_option linter.all false
set_option maxRecDepth 100000
set_option maxHeartbeats 4000000
set_option autoImplicit false
namespace Dp
open PySem
section
variable {prog : Program} {w : World} {K : Type} [DecidableEq K] {knd : HeapKind prog w K} {A : Around} {E : Value → Shared → Prop} {s : Shared}
theorem wpAny_spread {a' k' v' : Sem Value} {Q : Value → Shared → Prop} (hu : knd.room A)
    (h : wpAny (model prog w) A a' (fun m s1 => ∃ o xs, m = .ref o ∧ s.heap.objs.size ≠ o ∧ (o == sysModules) = false ∧ s1.heap.DictOfH knd s.heap.objs.size [] ∧ s1.heap.DictOfH knd o xs ∧ ((∀ x ∈ xs, s1.TypeIs (.ref x.2.1) "tuple") ∧ (xs.map fun x => knd.hash x.1).Nodup) ∧ xs.length + 1 ≤ sizeLine ∧
      ∀ h2, h2.DictOfH knd s.heap.objs.size xs → Heap.SameBut s.heap.objs.size s1.heap h2 →
        wpAny (model prog w) A (evalPairs [(k', v')]) (fun vs s2 => ∃ k b v, vs = [(.ref b, v)] ∧ knd.is s2.heap k b ∧ (∀ h', Heap.SameBut h2.objs.size s2.heap h' → ({ s2 with heap := h' } : Shared).TypeIs (.ref b) "tuple") ∧ s2.heap.DictOfH knd h2.objs.size [] ∧ s2.heap.DictOfH knd s.heap.objs.size xs ∧ s.heap.objs.size ≠ h2.objs.size ∧ (h2.objs.size == sysModules) = false ∧
          ∀ h3 h4 tk, Heap.SameBut h2.objs.size s2.heap h3 → h3.DictOfH knd h2.objs.size [(k, b, v)] → Heap.SameBut s.heap.objs.size h3 h4 → h4.DictOfH knd s.heap.objs.size (storedH xs k b v) → Q (.ref s.heap.objs.size) { s2 with heap := h4, toks := tk }) E
          { s1 with heap := h2.push { cls := .type "dict", data := .dict #[] } }) E
      { s with heap := s.heap.push { cls := .type "dict", data := .dict #[] } }) :
    wpAny (model prog w) A (dictDisplay [(none, a'), (some k', v')]) Q E s := by
  unfold dictDisplay
  dsimp only
  rw [List.forIn_cons]
  dsimp only
  simp only [List.isEmpty_nil, if_true, pure_bind, bind_assoc]
  refine wpAny_bind (wpAny_alloc ?_)
  refine wpAny_bind (wpAny_holding ?_)
  refine wpAny_mono h (fun m s1 hm => ?_) fun _ _ e => e
  obtain ⟨o, xs, rfl, hdo, hoS, hd0, ho, hap, hsz, hq⟩ := hm
  have noE : ∀ (E' : Value → Shared → Prop) (Q' : Unit → Shared → Prop), (∀ h', h'.DictOfH knd s.heap.objs.size xs → Heap.SameBut s.heap.objs.size s1.heap h' → Q' () { s1 with heap := h' }) → wpAny (model prog w) A (mergeMapping s.heap.objs.size (.ref o) false) Q' E' s1 := by
    intro E' Q' hQ
    refine wpAny_mergeMapping_heap hu hdo hoS hd0 ho (.inr hap) (fun h' a b c => hQ h' ?_ c) (by simp; omega)
    rwa [storedAllH_nil_of_nodup xs ho.nodup] at a
  refine wpAny_bind (wpAny_onRaise (wpAny_tryCatch (wpAny_onRaise (wpAny_holding (noE _ _ fun h2 hd2 hs2 => ?_)))))
  try simp only [pure_bind]
  rw [List.forIn_cons]
  dsimp only
  simp only [pure_bind, List.nil_append, List.length_singleton, List.forIn_nil, List.isEmpty_cons, Bool.false_eq_true, if_false]
  simp only [show ((1 : Nat) == 17) = false from rfl, Bool.false_eq_true, if_false, pure_bind, List.isEmpty_cons]
  refine wpAny_bind (wpAny_bind (wpAny_holding (wpAny_subDictH (knd := knd) hu (by simp) ?_)))
  refine wpAny_mono (hq h2 hd2 hs2) (fun vs s2 hv => ?_) fun _ _ e => e
  obtain ⟨k, b, v, rfl, hk, hT, hn, hd3, hne, hsy, hq2⟩ := hv
  refine ⟨[(k, b, v)], ⟨rfl, rfl, hk, trivial⟩, hn, fun h3 tk hd4 hs3 => ?_⟩
  have hd4 : h3.DictOfH knd h2.objs.size [(k, b, v)] := hd4
  have hd5 : h3.DictOfH knd s.heap.objs.size xs := hd3.notHere hn (Ne.symm hne) hs3
  refine wpAny_bind (wpAny_onRaise (wpAny_holding (wpAny_mergeMapping_heap (s := { s2 with heap := h3, toks := tk }) hu hne hsy hd5 hd4 (.inr ⟨fun x hx => ?_, by simp⟩) (fun h4 hd6 hd7 hs4 => ?_) (by simp; omega))))
  · rw [List.mem_singleton.mp hx]
    exact hT h3 hs3
  · refine wpAny_pure (wpAny_pure ?_)
    exact hq2 h3 h4 tk hs3 hd4 hs4 hd6
end
end Dp


set_option Elab.async false
set_option linter.all false
set_option maxRecDepth 100000
set_option maxHeartbeats 4000000
set_option autoImplicit false
/-! DpOps: the operators' rules. -/
namespace Dp
open PySem L2

structure CxOk (X : Cx) : Prop where
  un : X.A.units + 200 < cLine
  gd : X.A.guards = some []
  calm : X.calm = true
  mg : ∀ x, (x = ("isinstance" : Str)) → X.mg x = none
  seer : ∀ h : Heap, (∀ b o, X.base.get? b = some o → h.get? b = some o) → PySem.SeerAt (model X.prog X.w) X.A h
  dp : X.A.depth + Builtin.pylongFrames < recursionLimit
  sm : ∃ (o : Obj) (es : Array DictEntry) (ep : Nat), X.base.get? sysModules = some o ∧ o.data = .dict es ep

section
variable {K : PySem.W.Frag} {m : Pl} {st st' : Sto} {H : Hp}
theorem newLst_fin {xs : List PV} {Q : VK} (h : FinG K (Rep K) m st H (newLst xs st) Q) : xs.length ≤ 16777216 ∧ ∀ (vs : List V) (p : Addr), SRep K m H st → Reps K m st.nxt H vs xs → H p = none → Q (.ref p) (upd H p (.lst vs)) := by
  unfold newLst at h
  by_cases hl : xs.length ≤ 16777216
  · rw [if_pos hl] at h
    refine ⟨hl, fun vs p s r hp => ?_⟩
    have h : ∀ (v : V) (H' : Hp) (m' : Pl), Step m st H m' (st.new (.lst xs)) H' → SRep K m' H' (st.new (.lst xs)) → Rep K m' (st.nxt + 1) H' v (.loc st.nxt) → Q v H' := h
    refine h _ _ (plNew m st.nxt p) (Step.newL s hp vs xs) (SRep.newL s hp r) ?_
    have e : Rep K (plNew m st.nxt p) (st.nxt + 1) (upd H p (.lst vs)) (.ref (plNew m st.nxt p st.nxt)) (.loc st.nxt) := .loc (Nat.lt_succ_self _)
    rw [plNew_new] at e
    exact e
  · rw [if_neg hl] at h
    exact False.elim h
theorem newTup_fin {xs : List PV} {vs : List V} {Q : VK} (h : FinG K (Rep K) m st H (.ok (.tup xs) st) Q) (s : SRep K m H st) (r : Reps K m st.nxt H vs xs) : NewT H vs Q := fun p o hp ho =>
  h _ _ m (Step.tup s hp _) (s.tup hp _) (.tup (SqD.of upd_same ho) (Reps.step s (Step.tup s hp _) xs vs r))
theorem mkTup_fin {xs : List PV} {Q : VK} (h : FinG K (Rep K) m st H (mkTup xs st) Q) : xs.length ≤ 16777216 ∧ FinG K (Rep K) m st H (.ok (.tup xs) st) Q := by
  unfold mkTup at h
  by_cases hl : xs.length ≤ 16777216
  · rw [if_pos hl] at h; exact ⟨hl, h⟩
  · rw [if_neg hl] at h; exact False.elim h
theorem mkStr_fin {xs : List Nat} {Q : VK} (h : FinG K (Rep K) m st H (mkStr xs st) Q) : xs.length ≤ 16777216 ∧ FinG K (Rep K) m st H (.ok (.str xs) st) Q := by
  unfold mkStr at h
  by_cases hl : xs.length ≤ 16777216
  · rw [if_pos hl] at h; exact ⟨hl, h⟩
  · rw [if_neg hl] at h; exact False.elim h
end
theorem S_len (s : List Nat) : (S s).length = s.length := by show (s.toArray).size = _; exact List.size_toArray ..
theorem S_app (s t : List Nat) : S s ++ S t = S (s ++ t) := by
  show (⟨s.toArray ++ t.toArray⟩ : Str) = _
  simp
theorem S_inj {s t : List Nat} (h : S s = S t) : s = t := by
  have := congrArg (fun x : Str => x.cps.toList) h
  simpa using this
theorem sOk.app {s t : List Nat} (a : sOk s) (b : sOk t) : sOk (s ++ t) := fun c h => (List.mem_append.mp h).elim (a c) (b c)
theorem sOk.sub {s t : List Nat} (a : sOk s) (h : ∀ c ∈ t, c ∈ s) : sOk t := fun c q => a c (h c q)
theorem rep_flat {α : Type} (xs : List α) : ∀ k, rep k xs = (List.replicate k xs).flatten
  | 0 => rfl
  | k + 1 => by rw [rep, rep_flat xs k, List.replicate_succ, List.flatten_cons]
theorem ite_fin {α β : Type} {K : PySem.W.Frag} {rel : Pl → Nat → Hp → β → α → Prop} {m : Pl} {st : Sto} {H : Hp} {c : Prop} [Decidable c] {r : R α} {Q : β → Hp → Prop} (h : FinG K rel m st H (if c then r else .err) Q) : c ∧ FinG K rel m st H r Q := by
  by_cases q : c
  · rw [if_pos q] at h; exact ⟨q, h⟩
  · rw [if_neg q] at h; exact False.elim h

section
variable {X : Cx}
theorem add_ok : OpR X (binaryOp .Add) (rd2 X.K (binM .add)) := by
  intro pins s σ H x y v u Q I rx ry h
  obtain ⟨m, st, p, q, S1, rp, rq, F⟩ := h
  cases p <;> cases q <;> first | exact False.elim F | skip
  case int.int i j =>
    cases rp; cases rq
    exact op_add pins s σ H _ _ v u Q I rx ry ⟨i, j, rfl, rfl, FinG.done (p := PV.int (i + j)) F S1 (Rep.int _)⟩
  case str.str a b =>
    obtain ⟨hl, F⟩ := mkStr_fin (xs := a ++ b) F
    cases rp with
    | str _ h1 =>
      cases rq with
      | str _ h2 =>
        refine op_add_str pins s σ H _ _ v u Q I rx ry ⟨S a, S b, rfl, rfl, by rw [S_len, S_len]; rw [List.length_append] at hl; exact hl, ?_⟩
        rw [S_app]
        exact F.done S1 (Rep.str _ (h1.app h2))
  case tup.tup a b =>
    obtain ⟨hl, F⟩ := mkTup_fin (xs := a ++ b) F
    cases rp with
    | tup h1 r1 =>
      cases rq with
      | tup h2 r2 =>
        refine op_catD pins s σ H _ _ v u Q I rx ry ⟨_, _, _, _, rfl, rfl, h1.sq, h2.sq, by rw [Reps.length r1, Reps.length r2]; rw [List.length_append] at hl; exact hl, fun e => ?_, fun _ e => ?_, fun _ _ => ?_⟩
        · subst e; cases r1
          exact F.done S1 (Rep.tup h2 r2)
        · subst e; cases r2
          rw [List.append_nil] at F
          exact F.done S1 (Rep.tup h1 r1)
        · exact newTup_fin F S1 (r1.append r2)
  case loc.loc l k =>
    have F : FinG X.K (Rep X.K) m st H (match st.get l, st.get k with | some (.lst x), some (.lst y) => newLst (x ++ y) st | _, _ => .err) Q := F
    cases e1 : st.get l with
    | none => rw [e1] at F; exact False.elim F
    | some o1 =>
      cases e2 : st.get k with
      | none => rw [e1, e2] at F; cases o1 <;> exact False.elim F
      | some o2 =>
        rw [e1, e2] at F
        cases o1 <;> cases o2 <;> first | exact False.elim F | skip
        case lst.lst a b =>
          obtain ⟨hl, F⟩ := newLst_fin (xs := a ++ b) F
          cases rp; cases rq
          obtain ⟨_, vs, h1, r1⟩ := S1.ob l _ e1
          obtain ⟨_, ws, h2, r2⟩ := S1.ob k _ e2
          exact op_cat pins s σ H _ _ v u Q I rx ry ⟨_, _, vs, ws, rfl, rfl, h1, h2, by rw [Reps.length r1, Reps.length r2]; rw [List.length_append] at hl; exact hl, fun c hc => F _ _ S1 (r1.append r2) hc⟩
theorem sub_ok : OpR X (binaryOp .Sub) (rd2 X.K (binM .sub)) := by
  intro pins s σ H x y v u Q I rx ry h
  obtain ⟨m, st, p, q, S1, rp, rq, F⟩ := h
  cases p <;> cases q <;> first | exact False.elim F | skip
  case int.int i j =>
    cases rp; cases rq
    exact op_sub pins s σ H _ _ v u Q I rx ry ⟨i, j, rfl, rfl, FinG.done (p := PV.int (i - j)) F S1 (Rep.int _)⟩
theorem mulOk_cases {i j : Int} (h : mulOk i j = true) : IntMulOk i j := by
  unfold mulOk small64 at h
  simp only [Bool.or_eq_true, Bool.and_eq_true, decide_eq_true_eq] at h
  rcases h with (h | h) | h
  · exact CMul.ok (.inl h)
  · exact CMul.ok (.inr h)
  · exact CMulW.ok h
theorem fold_app {α : Type} (a : Array α) : ∀ (n : Nat) (b : Array α), (List.replicate n a).foldl (· ++ ·) b = b ++ (rep n a.toList).toArray
  | 0, b => by simp [rep]
  | n + 1, b => by
    rw [List.replicate_succ, List.foldl_cons, fold_app a n]
    apply Array.ext'
    simp [rep]
theorem rep_S (t : List Nat) (n : Nat) : (⟨(List.replicate n (S t).cps).foldl (· ++ ·) #[]⟩ : Str) = S (rep n t) := by
  rw [fold_app]
  show (⟨#[] ++ (rep n t).toArray⟩ : Str) = ⟨(rep n t).toArray⟩
  rw [Array.empty_append]
theorem rep_sub {t : List Nat} : ∀ {n : Nat} {c : Nat}, c ∈ rep n t → c ∈ t
  | 0, _, h => by cases h
  | n + 1, c, h => (List.mem_append.mp h).elim id rep_sub
theorem rep_len {α : Type} (t : List α) : ∀ n : Nat, (rep n t).length = t.length * n
  | 0 => by simp [rep]
  | n + 1 => by rw [rep, List.length_append, rep_len t n, Nat.mul_succ, Nat.add_comm]
theorem mul_ok : OpR X (binaryOp .Mult) (rd2 X.K (binM .mul)) := by
  intro pins s σ H x y v u Q I rx ry h
  obtain ⟨m, st, p, q, S1, rp, rq, F⟩ := h
  cases p <;> cases q <;> first | exact False.elim F | skip
  case int.int i j =>
    obtain ⟨hc, F⟩ := ite_fin (c := mulOk i j = true) (r := R.ok (PV.int (i * j)) st) F
    cases rp; cases rq
    have rule : OpR X (binaryOp .Mult) (rI (fun i j => mulOk i j = true) fun i j => .int (i * j)) := opI fun _ _ _ _ _ _ _ hc q => PyProof.Rows.mul_int q (mulOk_cases hc)
    exact rule pins s σ H _ _ v u Q I rx ry ⟨i, j, rfl, rfl, hc, F.done S1 (Rep.int _)⟩
  case tup.int a n =>
    obtain ⟨⟨h2, h3, h4⟩, F⟩ := ite_fin (r := R.ok (PV.tup (rep n.toNat a)) st) F
    cases rq
    cases rp with
    | tup h5 r5 =>
      rename_i l vs
      have hl := Reps.length r5
      by_cases c1 : vs = [] ∨ n = 1
      · refine op_repE pins s σ H _ _ v u Q I rx ry ⟨_, n, _, rfl, rfl, h5.sq, by omega, by omega, c1, ?_⟩
        have e : rep n.toNat a = a := by
          rcases c1 with e | e
          · subst e
            cases r5
            exact List.eq_nil_of_length_eq_zero (by rw [rep_len]; simp)
          · subst e; show a ++ [] = a; rw [List.append_nil]
        rw [e] at F
        exact F.done S1 (Rep.tup h5 r5)
      · by_cases c2 : n ≤ 0
        · refine op_repN pins s σ H _ _ v u Q I rx ry ⟨_, n, _, rfl, rfl, h5.sq, by omega, c2, fun z => c1 (.inl z), ?_⟩
          have e : n.toNat = 0 := by omega
          rw [e] at F
          exact newTup_fin F S1 .nil
        · refine op_repD pins s σ H _ _ v u Q I rx ry ⟨_, n, _, rfl, rfl, h5.sq, fun z => c1 (.inl z), by omega, h3, by rw [hl]; exact h4, ?_⟩
          rw [← rep_flat]
          exact newTup_fin F S1 (r5.rep _)
  case str.int t n =>
    obtain ⟨⟨h2, h3, h4⟩, F⟩ := ite_fin (r := R.ok (PV.str (rep n.toNat t)) st) F
    cases rp with
    | str _ hs =>
      obtain ⟨tk, rfl⟩ := rx
      cases rq
      obtain ⟨tk2, rfl⟩ := ry
      have b1 : ((t.length : Nat) : Int) * n ≤ 16777216 := by
        by_cases c2 : n ≤ 0
        · have := Int.mul_nonpos_of_nonneg_of_nonpos (Int.natCast_nonneg t.length) c2
          omega
        · have e : ((t.length * n.toNat : Nat) : Int) = (t.length : Int) * n := by rw [Int.natCast_mul, Int.toNat_of_nonneg (by omega)]
          omega
      have hz : (S (rep n.toNat t)).length ≤ sizeLine := by
        rw [S_len, rep_len, sizeLine_eq]
        exact h4
      refine PySem.P.mul_str (by rw [decide_eq_false (by omega), decide_eq_false (by omega)]; rfl) (fun q1 _ => ?_) (fun q1 _ => ?_) ?_
      · rw [S_len]
        intro z
        have z2 : (2 ^ 63 - 1 : Int) / n < t.length := z
        have z3 := (Int.ediv_lt_iff_lt_mul (by omega)).mp z2
        omega
      · rw [S_len]
        unfold Builtin.Str.tooLong
        rw [decide_eq_false_iff_not, sizeLine_eq]
        omega
      · by_cases c2 : n < 1
        · rw [if_pos c2]
          have e : n.toNat = 0 := by omega
          rw [e] at F hz
          exact ⟨hz, .str (S []), H, I.tok _, ⟨_, rfl⟩, F.done S1 (Rep.str [] (fun c hc => by cases hc))⟩
        · rw [if_neg c2]
          by_cases c1 : (n == 1 || (S t).length == 0) = true
          · rw [if_pos c1]
            have e : rep n.toNat t = t := by
              rw [Bool.or_eq_true, beq_iff_eq, beq_iff_eq, S_len] at c1
              rcases c1 with e | e
              · subst e; show t ++ [] = t; rw [List.append_nil]
              · have := List.eq_nil_of_length_eq_zero e
                subst this
                exact List.eq_nil_of_length_eq_zero (by rw [rep_len]; simp)
            rw [e] at F
            exact ⟨.str (S t), H, I, ⟨_, rfl⟩, F.done S1 (Rep.str _ hs)⟩
          · rw [if_neg c1, rep_S]
            exact ⟨hz, .str (S (rep n.toNat t)), H, I.tok _, ⟨_, rfl⟩, F.done S1 (Rep.str _ (hs.sub fun c hc => rep_sub hc))⟩
  case loc.int l n =>
    have F : FinG X.K (Rep X.K) m st H (match st.get l with | some (.lst x) => if 0 ≤ n ∧ n ≤ 16777216 ∧ x.length * n.toNat ≤ 16777216 then newLst (rep n.toNat x) st else .err | _ => .err) Q := F
    cases e1 : st.get l with
    | none => rw [e1] at F; exact False.elim F
    | some o1 =>
      rw [e1] at F
      cases o1 <;> first | exact False.elim F | skip
      case lst a =>
        obtain ⟨⟨h1, h2, h3⟩, F⟩ := ite_fin (r := newLst (rep n.toNat a) st) F
        obtain ⟨hl, F⟩ := newLst_fin F
        cases rq; cases rp
        obtain ⟨_, vs, h4, r1⟩ := S1.ob l _ e1
        refine op_rep pins s σ H _ _ v u Q I rx ry ⟨_, n, vs, rfl, rfl, h4, by omega, by omega, by rw [Reps.length r1]; exact h3, fun c hc => ?_⟩
        rw [← rep_flat]
        exact F _ _ S1 (r1.rep _) hc
theorem fdiv_ok (c0 : CxOk X) : OpR X (binaryOp .FloorDiv) (rd2 X.K (binM .fdiv)) := by
  intro pins s σ H x y v u Q I rx ry h
  obtain ⟨m, st, p, q, S1, rp, rq, F⟩ := h
  have rule : OpR X (binaryOp .FloorDiv) (rI (fun _ j => j ≠ 0) fun i j => .int (i.fdiv j)) := fun pins s σ H x y v u Q I rx ry ⟨i, j, e1, e2, hc, q⟩ => by
    subst e1; subst e2
    obtain ⟨t, rfl⟩ := (show ∃ t, v = Value.int i t from rx)
    obtain ⟨t2, rfl⟩ := (show ∃ t, u = Value.int j t from ry)
    exact PyProof.Rows.floordiv_int hc ⟨V.int (i.fdiv j), H, I.tok _, ⟨_, rfl⟩, q⟩ (.inr (PylongRoom.of I.nolimit c0.dp (c0.seer _ I.bk)))
  cases p <;> cases q <;> first | exact False.elim F | skip
  case int.int i j =>
    have F : FinG X.K (Rep X.K) m st H (if 0 < j then .ok (.int (i / j)) st else if j ≠ 0 then .ok (.int (i.fdiv j)) st else .err) Q := F
    cases rp; cases rq
    by_cases hc : 0 < j
    · rw [if_pos hc] at F
      exact rule pins s σ H _ _ v u Q I rx ry ⟨i, j, rfl, rfl, by omega, by show Q (V.int (i.fdiv j)) H; rw [Int.fdiv_eq_ediv_of_nonneg i (by omega)]; exact F.done S1 (Rep.int _)⟩
    · rw [if_neg hc] at F
      obtain ⟨h2, F⟩ := ite_fin F
      exact rule pins s σ H _ _ v u Q I rx ry ⟨i, j, rfl, rfl, h2, F.done S1 (Rep.int _)⟩
theorem mod_ok : OpR X (binaryOp .Mod) (rd2 X.K (binM .mod)) := by
  intro pins s σ H x y v u Q I rx ry h
  obtain ⟨m, st, p, q, S1, rp, rq, F⟩ := h
  cases p <;> cases q <;> first | exact False.elim F | skip
  case int.int i j =>
    obtain ⟨hc, F⟩ := ite_fin (c := 0 < j) (r := R.ok (PV.int (i % j)) st) F
    cases rp; cases rq
    exact op_mod pins s σ H _ _ v u Q I rx ry ⟨i, j, rfl, rfl, hc, F.done S1 (Rep.int _)⟩
theorem pow_ok : OpR X (binaryOp .Pow) (rd2 X.K (binM .pow)) := by
  intro pins s σ H x y v u Q I rx ry h
  obtain ⟨m, st, p, q, S1, rp, rq, F⟩ := h
  cases p <;> cases q <;> first | exact False.elim F | skip
  case int.int i j =>
    obtain ⟨⟨h1, h2, h3⟩, F⟩ := ite_fin (r := R.ok (PV.int (i ^ j.toNat)) st) F
    cases rp; cases rq
    exact op_pow pins s σ H _ _ v u Q I rx ry ⟨i, j, rfl, rfl, ⟨h1, h2, of_decide_eq_true h3⟩, F.done S1 (Rep.int _)⟩
def opOf : BO → Operator
  | .add => .Add | .sub => .Sub | .mul => .Mult | .fdiv => .FloorDiv | .mod => .Mod | .pow => .Pow
theorem bin_ok (c0 : CxOk X) : ∀ o : BO, OpR X (binaryOp (opOf o)) (rd2 X.K (binM o))
  | .add => add_ok | .sub => sub_ok | .mul => mul_ok | .fdiv => fdiv_ok c0 | .mod => mod_ok | .pow => pow_ok

/-! ### snapshots are data -/
mutual
/-- no place, no repr within -/
def plainS : PV → Prop
  | .str s => sOk s
  | .tup xs => plainSs xs
  | .lv xs => plainSs xs
  | .loc _ => False
  | .rp _ => False
  | _ => True
def plainSs : List PV → Prop
  | [] => True
  | x :: xs => plainS x ∧ plainSs xs
end
section
variable {K : PySem.W.Frag} {m : Pl} {n : Nat} {H : Hp} {d : Nat → Option PV}
mutual
theorem snapW_ok (hd : ∀ l x, l < n → d l = some x → L2.Dp K H (.ref (m l)) (toD x) ∧ plainS x) : ∀ (p : PV) (v : V) (x : PV), Rep K m n H v p → snapW d p = some x → L2.Dp K H v (toD x) ∧ plainS x
  | .non, _, _, r, e => by cases r; cases e; exact ⟨.non, trivial⟩
  | .bl b, _, _, r, e => by cases r; cases e; exact ⟨.bl b, trivial⟩
  | .int b, _, _, r, e => by cases r; cases e; exact ⟨.int b, trivial⟩
  | .str b, _, _, r, e => by
    cases e
    cases r with
    | str _ h => exact ⟨.str _, h⟩
  | .rp b, _, _, r, e => by cases e
  | .lv b, _, _, r, e => by cases e
  | .loc l, _, _, r, e => by
    cases r with
    | loc h => exact hd l _ h e
  | .tup xs, _, _, r, e => by
    cases r with
    | tup h1 h2 =>
      unfold snapW at e
      cases q : snapsW d xs with
      | none => rw [q] at e; cases e
      | some ys =>
        rw [q] at e
        cases e
        obtain ⟨a, b⟩ := snapsW_ok hd xs _ ys h2 q
        exact ⟨.tup h1.sq a, b⟩
theorem snapsW_ok (hd : ∀ l x, l < n → d l = some x → L2.Dp K H (.ref (m l)) (toD x) ∧ plainS x) : ∀ (ps : List PV) (vs : List V) (xs : List PV), Reps K m n H vs ps → snapsW d ps = some xs → L2.DpAll K H vs (toDs xs) ∧ plainSs xs
  | [], _, _, r, e => by cases r; cases e; exact ⟨.nil, trivial⟩
  | p :: ps, _, _, r, e => by
    cases r with
    | cons r1 r2 =>
      unfold snapsW at e
      cases q1 : snapW d p with
      | none => rw [q1] at e; cases e
      | some y =>
        cases q2 : snapsW d ps with
        | none => rw [q1, q2] at e; cases e
        | some ys =>
          rw [q1, q2] at e
          cases e
          obtain ⟨a1, b1⟩ := snapW_ok hd p _ y r1 q1
          obtain ⟨a2, b2⟩ := snapsW_ok hd ps _ ys r2 q2
          exact ⟨.cons a1 a2, b1, b2⟩
end
end
theorem snapL_ok {K : PySem.W.Frag} {m : Pl} {st : Sto} {H : Hp} (S1 : SRep K m H st) : ∀ (k l : Nat) (x : PV), l < st.nxt → snapL st k l = some x → L2.Dp K H (.ref (m l)) (toD x) ∧ plainS x
  | 0, _, _, _, e => by cases e
  | k + 1, l, x, hl, e => by
    unfold snapL at e
    cases q : st.lstAt l with
    | none => rw [q] at e; cases e
    | some xs =>
      rw [q] at e
      cases q2 : snapsW (snapL st k) xs with
      | none => simp only [q2] at e; cases e
      | some ys =>
        simp only [q2] at e
        cases e
        obtain ⟨vs, h1, h2⟩ := S1.at q
        obtain ⟨a, b⟩ := snapsW_ok (fun l x hl e => snapL_ok S1 k l x hl e) xs vs ys h2 q2
        exact ⟨.lst h1 a, b⟩
theorem snap_ok {K : PySem.W.Frag} {m : Pl} {st : Sto} {H : Hp} (S1 : SRep K m H st) {v : V} {p x : PV} (r : Rep K m st.nxt H v p) (e : snap st p = some x) : L2.Dp K H v (toD x) ∧ plainS x :=
  snapW_ok (fun l x hl e => snapL_ok S1 8 l x hl e) p v x r e
mutual
theorem dep_toD : ∀ x : PV, plainS x → (toD x).depth = dep x
  | .non, _ => rfl
  | .bl _, _ => rfl
  | .int _, _ => rfl
  | .str _, _ => rfl
  | .tup xs, h => by simp only [toD, PyData.depth, dep, deps_toD xs h]
  | .lv xs, h => by simp only [toD, PyData.depth, dep, deps_toD xs h]
theorem deps_toD : ∀ xs : List PV, plainSs xs → PyData.depthAll (toDs xs) = deps xs
  | [], _ => rfl
  | x :: xs, h => by simp only [toDs, PyData.depthAll, deps, dep_toD x h.1, deps_toD xs h.2]
end
mutual
theorem lay_toD : ∀ x : PV, plainS x → (toD x).canLay0 = true
  | .non, _ => rfl
  | .bl _, _ => rfl
  | .int _, _ => rfl
  | .str s, h => by
    show PyData.strOk (S s) = true
    unfold PyData.strOk
    rw [Array.all_eq_true_iff_forall_mem]
    intro c hc
    have := h c (by simpa using hc)
    exact decide_eq_true this
  | .tup xs, h => by simp only [toD, PyData.canLay0]; exact lays_toD xs h
  | .lv xs, h => by simp only [toD, PyData.canLay0]; exact lays_toD xs h
theorem lays_toD : ∀ xs : List PV, plainSs xs → PyData.canLayAll0 (toDs xs) = true
  | [], _ => rfl
  | x :: xs, h => by simp only [toDs, PyData.canLayAll0, lay_toD x h.1, lays_toD xs h.2, Bool.and_self]
end
theorem shaped_toD {x : PV} (h : plainS x) (hd : dep x ≤ 60) : SeqAt.shaped (toD x) = true := by
  unfold SeqAt.shaped
  rw [lay_toD x h, dep_toD x h, Bool.true_and]
  exact decide_eq_true (by omega)
theorem S_beq (s t : List Nat) : ((S s : Str) == S t) = (s == t) := by
  by_cases h : s = t
  · subst h; simp
  · have h' : ¬ (S s : Str) = S t := fun q => h (S_inj q)
    rw [beq_eq_false_iff_ne.mpr h, beq_eq_false_iff_ne.mpr h']
mutual
theorem peq_toD : ∀ x y : PV, plainS x → plainS y → peq x y = PyData.eqv (toD x) (toD y)
  | .non, y, _, h => by cases y <;> first | rfl | exact False.elim h
  | .bl a, y, _, h => by cases y <;> first | rfl | exact False.elim h
  | .int i, y, _, h => by cases y <;> first | rfl | exact False.elim h
  | .str s, y, _, h => by
    cases y <;> first | rfl | exact False.elim h | skip
    case str t => exact (S_beq s t).symm
  | .tup xs, y, g, h => by
    cases y <;> first | rfl | exact False.elim h | skip
    case tup ys =>
      have := peqs_toD xs ys g h
      simpa only [peq, toD, PyData.eqv] using this
  | .lv xs, y, g, h => by
    cases y <;> first | rfl | exact False.elim h | skip
    case lv ys =>
      have := peqs_toD xs ys g h
      simpa only [peq, toD, PyData.eqv] using this
theorem peqs_toD : ∀ xs ys : List PV, plainSs xs → plainSs ys → peqs xs ys = PyData.eqvAll (toDs xs) (toDs ys)
  | [], ys, _, _ => by cases ys <;> rfl
  | x :: xs, ys, g, h => by
    cases ys with
    | nil => rfl
    | cons y ys => simp only [peqs, toDs, PyData.eqvAll, peq_toD x y g.1 h.1, peqs_toD xs ys g.2 h.2]
end
mutual
theorem sam_eq : ∀ x y : PV, sam x y = true → x = y
  | .non, y, h => by cases y <;> first | rfl | (unfold sam at h; cases h)
  | .bl a, y, h => by
    cases y <;> first | (unfold sam at h; rw [beq_iff_eq.mp h]; done) | (unfold sam at h; cases h)
  | .int a, y, h => by
    cases y <;> first | (unfold sam at h; rw [beq_iff_eq.mp h]; done) | (unfold sam at h; cases h)
  | .str a, y, h => by
    cases y <;> first | (unfold sam at h; rw [beq_iff_eq.mp h]; done) | (unfold sam at h; cases h)
  | .tup a, y, h => by
    cases y <;> first | (unfold sam at h; rw [sams_eq a _ h]; done) | (unfold sam at h; cases h)
  | .lv a, y, h => by
    cases y <;> first | (unfold sam at h; rw [sams_eq a _ h]; done) | (unfold sam at h; cases h)
  | .rp a, y, h => by
    cases y <;> first | (unfold sam at h; rw [sam_eq a _ h]; done) | (unfold sam at h; cases h)
  | .loc a, y, h => by unfold sam at h; cases y <;> cases h
theorem sams_eq : ∀ xs ys : List PV, sams xs ys = true → xs = ys
  | [], ys, h => by cases ys <;> first | rfl | (unfold sams at h; cases h)
  | x :: xs, ys, h => by
    cases ys with
    | nil => unfold sams at h; cases h
    | cons y ys =>
      unfold sams at h
      rw [Bool.and_eq_true] at h
      rw [sam_eq x y h.1, sams_eq xs ys h.2]
end
end
end Dp


set_option Elab.async false
set_option linter.all false
set_option maxRecDepth 100000
set_option maxHeartbeats 4000000
set_option autoImplicit false
namespace PySem.SeqAt
open AutoSeq1 (wpAny_loadPart')
open MeetsSeq MeetsSeq2 MeetsSeq3
theorem tuple_ne_declines_dict (l b : Addr) (items : Array Value) (es : Array DictEntry) (n ep : Nat) (dd dd2 : Option Addr) (sl sl2 : Array (Option Value)) :
    Meets (Builtin.«tuple.__ne__» ⟨[.ref l, .ref b], []⟩) (fun _ R s => s.heap.get? l = some { cls := .type "tuple", dict := dd, data := .seq items n, slots := sl } ∧ s.heap.get? b = some { cls := .type "dict", dict := dd2, data := .dict es ep, slots := sl2 } ∧ R (.ok (.ret .notImplemented)) s) :=
  .of_wp fun prog w A R s h => by obtain ⟨hp, g, d, tk, os⟩ := s; obtain ⟨hl, hb, h⟩ := h; have f1 := F.sub_dict_tuple; wp_walk using wpAny_loadPart' hl, wpAny_loadPart' hb; exact ⟨_, rfl, h⟩
theorem RcNeAt.dict_tuple {a b : Addr} {items : Array Value} {o : Obj} {es : Array DictEntry} {ep : Nat} {A : Around} {s : Shared} (ho : s.heap.get? a = some o) (hc : o.cls = .type "dict") (hd : o.data = .dict es ep) (hb : s.heap.IsTuple b items) (hu : A.units < cLine) : RcNeAt A s (.ref a) (.ref b) true := fun prog w E Q h => by
  obtain ⟨⟨cls2, dd2, data2, sl2⟩, ho2, hc2, n2, hd2⟩ := id hb
  obtain ⟨cls, dd, data, sl⟩ := o
  simp only at hc hd hc2 hd2
  subst hc hd hc2 hd2
  have hne : a ≠ b := fun z => by subst z; rw [ho] at ho2; injection ho2 with e; injection e with e1; exact absurd e1 (by decide)
  have ta : s.TypeIs (.ref a) "dict" := ⟨_, ho, rfl⟩
  have tb : s.TypeIs (.ref b) "tuple" := ⟨_, ho2, rfl⟩
  exact (rc_ne_decline_or (k := false) ta tb (by decide) F.sub_tuple_dict F.slot_dict_ne F.slot_tuple_ne_refl
    (fun Q' hq => wpAny_call_entry PySem.F.slot_dict_ne ta PySem.F.entry_dict_ne (by
      show wpAny _ _ (Builtin.Dict.dictSlotArgs "__ne__" ⟨[.ref a, .ref b], []⟩ >>= _) _ _ s
      refine wpAny_bind ?_
      unfold Builtin.Dict.dictSlotArgs
      refine wpAny_bind (wpAny_notOrdered_dict ta ?_)
      show wpAny _ _ (pure (Value.ref a, Value.ref b)) _ _ s
      refine wpAny_pure ?_
      refine wpAny_bind (wpAny_isInstance (T := "tuple") tb PySem.F.sub_tuple_dict ?_)
      simp only [Bool.not_false, if_true]
      refine wpAny_bind (wpAny_rule ?_)
      exact wpAny_pure ⟨_, rfl, hq⟩) (PySem.F.args_dict_ne_2 _ _))
    (fun _ hq => call_meets F.slot_tuple_ne_refl tb F.entry_tuple_ne (F.args_tuple_ne_2 _ _) (tuple_ne_declines_dict b a items es n2 ep dd2 dd sl2 sl) ⟨ho2, ho, hq⟩)
    (fun _ hq => wpAny_isSame_ref_other hne ho ho2 (by simp) hq) (.inr hu) h)
end PySem.SeqAt
/-! DpOps2: comparisons, truth, subscripts, built-ins. -/
namespace Dp
open PySem L2

def eqG (a b : PV) (s : Sto) : R Bool := match snap s a, snap s b with
  | some x, some y => if dep x ≤ 60 ∧ dep y ≤ 60 then .ok (peq x y) s else .err
  | _, _ => .err
theorem eqM_cases (a b : PV) (s : Sto) : (∃ x y, a = .rp x ∧ b = .rp y) ∨ (∃ x y, a = .str x ∧ b = .str y) ∨ (∃ xs, a = .tup xs ∧ b = .tup []) ∨ eqM a b s = eqG a b s := by
  cases a <;> cases b <;> first | exact .inr (.inr (.inr rfl)) | exact .inl ⟨_, _, rfl, rfl⟩ | exact .inr (.inl ⟨_, _, rfl, rfl⟩) | skip
  rename_i xs ys
  cases ys with
  | nil => exact .inr (.inr (.inl ⟨_, rfl, rfl⟩))
  | cons y ys => exact .inr (.inr (.inr rfl))
def EqIs (K : PySem.W.Frag) (H : Hp) (x y : V) (c : Bool) : Prop :=
  (∃ z w, x = V.str z ∧ y = V.str w ∧ c = decide (z = w)) ∨ (∃ a b vs, x = V.ref a ∧ y = V.ref b ∧ SqD K H a vs ∧ SqD K H b [] ∧ c = vs.isEmpty) ∨ (∃ d e, L2.Dp K H x d ∧ L2.Dp K H y e ∧ SeqAt.shaped d = true ∧ SeqAt.shaped e = true ∧ c = PyData.eqv d e)
theorem eq_val {K : PySem.W.Frag} {m : Pl} {st st' : Sto} {H : Hp} (S1 : SRep K m H st) {x y : V} {p q : PV} {c : Bool} (rp : Rep K m st.nxt H x p) (rq : Rep K m st.nxt H y q) (e : eqM p q st = .ok c st') : st' = st ∧ EqIs K H x y c := by
  rcases eqM_cases p q st with ⟨a, b, rfl, rfl⟩ | ⟨a, b, rfl, rfl⟩ | ⟨xs, rfl, rfl⟩ | h
  · cases rp; cases rq
    have e : R.ok (if sam a b then true else decide ((toD a).shown = (toD b).shown)) st = R.ok c st' := e
    injection e with e1 e2
    refine ⟨e2.symm, .inl ⟨_, _, rfl, rfl, ?_⟩⟩
    by_cases hs : sam a b = true
    · rw [if_pos hs] at e1
      rw [← e1, sam_eq a b hs]
      exact (decide_eq_true rfl).symm
    · rw [if_neg hs] at e1
      exact e1.symm
  · cases rp; cases rq
    have e : R.ok (a == b) st = R.ok c st' := e
    injection e with e1 e2
    refine ⟨e2.symm, .inl ⟨_, _, rfl, rfl, ?_⟩⟩
    rw [← e1, ← S_beq]
    exact Bool.beq_eq_decide_eq (S a) (S b)
  · have e : R.ok xs.isEmpty st = R.ok c st' := e
    injection e with e1 e2
    cases rp with
    | tup h1 h2 =>
      cases rq with
      | tup h3 h4 =>
        cases h4
        refine ⟨e2.symm, .inr (.inl ⟨_, _, _, rfl, rfl, h1, h3, ?_⟩)⟩
        rw [← e1]
        cases h2 <;> rfl
  · rw [h] at e
    unfold eqG at e
    cases q1 : snap st p with
    | none => rw [q1] at e; cases e
    | some a =>
      cases q2 : snap st q with
      | none => rw [q1, q2] at e; cases e
      | some b =>
        simp only [q1, q2] at e
        by_cases hd : dep a ≤ 60 ∧ dep b ≤ 60
        · rw [if_pos hd] at e
          injection e with e1 e2
          obtain ⟨d1, p1⟩ := snap_ok S1 rp q1
          obtain ⟨d2, p2⟩ := snap_ok S1 rq q2
          exact ⟨e2.symm, .inr (.inr ⟨_, _, d1, d2, shaped_toD p1 hd.1, shaped_toD p2 hd.2, by rw [← e1]; exact peq_toD a b p1 p2⟩)⟩
        · rw [if_neg hd] at e; cases e
/-- a comparison as a value -/
def cmpV (o : CO) (a b : PV) : M PV := M.bind (cmpM o a b) fun c => M.pure (.bl c)
theorem bind_ok {α β : Type} {g : M α} {f : α → M β} {s : Sto} {r : R β} (h : M.bind g f s = r) (hr : r ≠ .err) : ∃ a s', g s = .ok a s' ∧ f a s' = r := by
  unfold M.bind at h
  cases e : g s with
  | err => rw [e] at h; exact absurd h.symm hr
  | ok a s' => rw [e] at h; exact ⟨a, s', rfl, h⟩
theorem fin_ok {α β : Type} {K : PySem.W.Frag} {rel : Pl → Nat → Hp → β → α → Prop} {m : Pl} {st : Sto} {H : Hp} {r : R α} {Q : β → Hp → Prop} (h : FinG K rel m st H r Q) : ∃ a s', r = .ok a s' := by
  cases r with
  | ok a s' => exact ⟨a, s', rfl⟩
  | err => exact False.elim h
/-- the run of a bind, in two -/
theorem fin_bind {α β γ : Type} {K : PySem.W.Frag} {rel : Pl → Nat → Hp → β → γ → Prop} {m : Pl} {st : Sto} {H : Hp} {g : M α} {f : α → M γ} {Q : β → Hp → Prop} (h : FinG K rel m st H (M.bind g f st) Q) : ∃ a s', g st = .ok a s' ∧ FinG K rel m st H (f a s') Q := by
  cases e : g st with
  | err => unfold M.bind at h; rw [e] at h; exact False.elim h
  | ok a s' => unfold M.bind at h; rw [e] at h; exact ⟨a, s', rfl, h⟩
section
variable {X : Cx}
theorem bl_done {m : Pl} {st : Sto} {H : Hp} {c : Bool} {Q : VK} (F : FinG X.K (Rep X.K) m st H (M.pure (.bl c) st) Q) (S1 : SRep X.K m H st) : Q (.bl c) H := FinG.done (p := PV.bl c) F S1 (Rep.bl _)
theorem eq_ok (c0 : CxOk X) : OpR X (compareOp .Eq) (rd2 X.K (cmpV .eq)) := by
  intro pins s σ H x y v u Q I rx ry h
  obtain ⟨m, st, p, q, S1, rp, rq, F⟩ := h
  obtain ⟨c, s', e, F⟩ := fin_bind (g := cmpM .eq p q) F
  obtain ⟨rfl, h | h | h⟩ := eq_val S1 rp rq e
  rotate_left
  · obtain ⟨a, b, vs, rfl, rfl, h1, h2, rfl⟩ := h
    obtain ⟨its, r2, pl, _⟩ := I.tuple h1.sq
    obtain ⟨its2, r3, pl2, _⟩ := I.tuple h2.sq
    cases r3
    cases rx
    cases ry
    have := SeqAt.RcAt.tuples (A := X.A) (e := fun _ => true) pl pl2 (by have := c0.un; omega) (fun j h1 h2 => absurd h2 (by simp))
    refine this _ _ _ _ ⟨.bl _, H, I, ?_, bl_done F S1⟩
    cases r2 <;> simp [RelV]
  rotate_left
  · obtain ⟨z, w, rfl, rfl, rfl⟩ := h
    refine op_eq pins s σ H _ _ v u Q I rx ry ⟨rfl, ?_⟩
    have := bl_done F S1
    rwa [show decide (V.str z = V.str w) = decide (z = w) from by by_cases q : z = w <;> simp [q]]
  · obtain ⟨d, e2, h1, h2, h3, h4, rfl⟩ := h
    exact op_eqD (by have := c0.un; omega) pins s σ H _ _ v u Q I rx ry ⟨d, e2, h1, h2, h3, h4, bl_done F S1⟩
theorem dicTup_inv {st : Sto} {p q : PV} (h : dicTup st p q = true) : ∃ l ys, p = .loc l ∧ q = .tup ys ∧ ((∃ kvs, st.get l = some (.dic kvs)) ∨ ∃ xs, st.lstAt l = some xs) := by
  cases p <;> first | (cases h; done) | skip
  cases q <;> first | (cases h; done) | skip
  rename_i l ys
  have h : isObAt st l = true := h
  unfold isObAt at h
  unfold Sto.lstAt
  cases e : st.get l with
  | none => rw [e] at h; cases h
  | some o =>
    rw [e] at h
    cases o <;> first | (cases h; done) | skip
    · rename_i xs; exact ⟨l, ys, rfl, rfl, .inr ⟨xs, by rw [e]⟩⟩
    · rename_i xs; exact ⟨l, ys, rfl, rfl, .inr ⟨xs, by rw [e]⟩⟩
    · exact ⟨l, ys, rfl, rfl, .inl ⟨_, e⟩⟩
theorem ne_ok (c0 : CxOk X) : OpR X (compareOp .NotEq) (rd2 X.K (cmpV .ne)) := by
  intro pins s σ H x y v u Q I rx ry h
  obtain ⟨m, st, p, q, S1, rp, rq, F⟩ := h
  obtain ⟨c, s', e0, F⟩ := fin_bind (g := cmpM .ne p q) F
  by_cases hd : dicTup st p q = true
  · have e1 : (if dicTup st p q = true then R.ok true st else M.bind (eqM p q) (fun r => M.pure (!r)) st) = R.ok c s' := e0
    rw [if_pos hd] at e1
    injection e1 with ec es'
    subst ec es'
    have F9 := bl_done F S1
    obtain ⟨l, ys, rfl, rfl, ⟨kvs, e⟩ | ⟨xs, e⟩⟩ := dicTup_inv hd
    rotate_left
    · cases rp
      cases rq with
      | tup ht hr =>
        obtain ⟨vs, h1, _⟩ := S1.at e
        obtain ⟨its, r2, pl, hz2⟩ := I.tuple ht.sq
        obtain ⟨its3, r3, pl3, hz3⟩ := I.list h1
        cases rx
        cases ry
        exact (SeqAt.RcNeAt.list_tuple pl3.isList pl (by have := c0.un; omega)) _ _ _ _ ⟨.bl true, H, I, rfl, F9⟩
    cases rp
    cases rq with
    | tup ht hr =>
      obtain ⟨_, ws, h1, _⟩ := S1.ob l _ e
      obtain ⟨hz, hsm, vs, r, o, es, ep, ho, hc, hdat, _⟩ := dk_of I.hok h1
      obtain ⟨its, r2, pl, hz2⟩ := I.tuple ht.sq
      cases rx
      cases ry
      exact (SeqAt.RcNeAt.dict_tuple ho hc.1 hdat pl (by have := c0.un; omega)) _ _ _ _ ⟨.bl true, H, I, rfl, F9⟩
  have e0 : (if dicTup st p q = true then R.ok true st else M.bind (eqM p q) (fun r => M.pure (!r)) st) = R.ok c s' := e0
  rw [if_neg hd] at e0
  obtain ⟨k, s2, e, e3⟩ := bind_ok (g := eqM p q) (f := fun r => M.pure (!r)) e0 (fun z => nomatch z)
  cases e3
  obtain ⟨rfl, h | h | h⟩ := eq_val S1 rp rq e
  rotate_left
  · obtain ⟨a, b, vs, rfl, rfl, h1, h2, rfl⟩ := h
    obtain ⟨its, r2, pl, _⟩ := I.tuple h1.sq
    obtain ⟨its2, r3, pl2, _⟩ := I.tuple h2.sq
    cases r3
    cases rx
    cases ry
    have := SeqAt.RcNeAt.tuples (A := X.A) (e := fun _ => true) pl pl2 (by have := c0.un; omega) (fun j h1 h2 => absurd h2 (by simp))
    refine this _ _ _ _ ⟨.bl _, H, I, ?_, bl_done F S1⟩
    cases r2 <;> simp [RelV]
  rotate_left
  · obtain ⟨z, w, rfl, rfl, rfl⟩ := h
    refine op_ne pins s σ H _ _ v u Q I rx ry ⟨rfl, ?_⟩
    have := bl_done F S1
    rwa [show decide (V.str z = V.str w) = decide (z = w) from by by_cases q : z = w <;> simp [q]]
  · obtain ⟨d, e2, h1, h2, h3, h4, rfl⟩ := h
    exact op_neD (by have := c0.un; omega) pins s σ H _ _ v u Q I rx ry ⟨d, e2, h1, h2, h3, h4, bl_done F S1⟩
theorem ordM_ok (c0 : CxOk X) {op : CmpOp} {f : PyData → PyData → Bool} (rule : ∀ {s : Shared} {a b : Value} {da db : PyData} {as bs : List Addr} {Q : Value → Shared → Prop}, Reads s.heap a da as → Reads s.heap b db bs → PySem.W.alike da db = true → da ≠ .none → X.A.units + min da.depth db.depth < cLine → Q (.bool (f da db)) s → wpAny (model X.prog X.w) X.A (compareOp op a b) Q X.xe s)
    {pins : List (Addr × Obj)} {s : Shared} {σ : L2.St} {H : Hp} {x y : V} {v u : Value} {Q : VK} {m : Pl} {st : Sto} {xs ys : List PV} (I : L2.Inv X pins σ H s) (rx : RelV x v) (ry : RelV y u) (S1 : SRep X.K m H st) (rp : Rep X.K m st.nxt H x (.tup xs)) (rq : Rep X.K m st.nxt H y (.tup ys))
    (F : FinG X.K (Rep X.K) m st H (M.bind (ordM f (.tup xs) (.tup ys)) (fun c => M.pure (.bl c)) st) Q) : wpAny (model X.prog X.w) X.A (compareOp op v u) (EP X pins σ Q) X.xe s := by
  obtain ⟨c, s', e, F⟩ := fin_bind F
  unfold ordM at e
  cases e1 : snap st (.tup xs) with
  | none => rw [e1] at e; cases e
  | some p =>
    cases e2 : snap st (.tup ys) with
    | none => rw [e1, e2] at e; cases e
    | some q =>
      rw [e1, e2] at e
      simp only at e
      by_cases hc : PySem.W.alike (toD p) (toD q) = true ∧ dep p ≤ 60 ∧ dep q ≤ 60
      · rw [if_pos hc] at e
        cases e
        obtain ⟨d1, p1⟩ := snap_ok S1 rp e1
        obtain ⟨d2, p2⟩ := snap_ok S1 rq e2
        obtain ⟨as, ra⟩ := L2.Dp.reads I (toD p) x v d1 rx
        obtain ⟨bs, rb⟩ := L2.Dp.reads I (toD q) y u d2 ry
        refine rule ra rb hc.1 ?_ ?_ ⟨.bl _, H, I, rfl, bl_done F S1⟩
        · have : ∃ zs, p = .tup zs := by
            unfold snap at e1
            rw [snapW] at e1
            cases e3 : snapsW (snapL st 8) xs with
            | none => rw [e3] at e1; cases e1
            | some zs => rw [e3] at e1; cases e1; exact ⟨_, rfl⟩
          obtain ⟨zs, rfl⟩ := this
          intro z
          cases z
        · have := c0.un
          rw [dep_toD p p1, dep_toD q p2]
          omega
      · rw [if_neg hc] at e; cases e
theorem lt_ok (c0 : CxOk X) : OpR X (compareOp .Lt) (rd2 X.K (cmpV .lt)) := by
  intro pins s σ H x y v u Q I rx ry h
  obtain ⟨m, st, p, q, S1, rp, rq, F⟩ := h
  cases p <;> cases q <;> first | exact False.elim F | skip
  case int.int i j =>
    cases rp; cases rq
    exact op_lt pins s σ H _ _ v u Q I rx ry ⟨i, j, rfl, rfl, bl_done F S1⟩
  case tup.tup xs ys => exact ordM_ok c0 (fun a b c d e f => PySem.W.lt_data a b c d e f) I rx ry S1 rp rq F
theorem le_ok (c0 : CxOk X) : OpR X (compareOp .LtE) (rd2 X.K (cmpV .le)) := by
  intro pins s σ H x y v u Q I rx ry h
  obtain ⟨m, st, p, q, S1, rp, rq, F⟩ := h
  cases p <;> cases q <;> first | exact False.elim F | skip
  case int.int i j =>
    cases rp; cases rq
    exact op_le pins s σ H _ _ v u Q I rx ry ⟨i, j, rfl, rfl, bl_done F S1⟩
  case tup.tup xs ys => exact ordM_ok c0 (fun a b c d e f => PySem.W.le_data a b c d e f) I rx ry S1 rp rq F
theorem gt_ok (c0 : CxOk X) : OpR X (compareOp .Gt) (rd2 X.K (cmpV .gt)) := by
  intro pins s σ H x y v u Q I rx ry h
  obtain ⟨m, st, p, q, S1, rp, rq, F⟩ := h
  cases p <;> cases q <;> first | exact False.elim F | skip
  case int.int i j =>
    cases rp; cases rq
    exact op_gt pins s σ H _ _ v u Q I rx ry ⟨i, j, rfl, rfl, bl_done F S1⟩
  case tup.tup xs ys => exact ordM_ok c0 (fun a b c d e f => PySem.W.gt_data a b c d e f) I rx ry S1 rp rq F
theorem ge_ok (c0 : CxOk X) : OpR X (compareOp .GtE) (rd2 X.K (cmpV .ge)) := by
  intro pins s σ H x y v u Q I rx ry h
  obtain ⟨m, st, p, q, S1, rp, rq, F⟩ := h
  cases p <;> cases q <;> first | exact False.elim F | skip
  case int.int i j =>
    cases rp; cases rq
    exact op_ge pins s σ H _ _ v u Q I rx ry ⟨i, j, rfl, rfl, bl_done F S1⟩
  case tup.tup xs ys => exact ordM_ok c0 (fun a b c d e f => PySem.W.ge_data a b c d e f) I rx ry S1 rp rq F
theorem isN_ok : OpR X (compareOp .Is) (rd2 X.K (cmpV .isN)) := by
  intro pins s σ H x y v u Q I rx ry h
  obtain ⟨m, st, p, q, S1, rp, rq, F⟩ := h
  cases q <;> first | exact False.elim F | skip
  case non =>
    cases rq
    refine op_isN pins s σ H _ _ v u Q I rx ry ⟨rfl, ?_⟩
    cases p <;> first | exact False.elim F | (cases rp; exact bl_done F S1)
  case bl c =>
    cases rq
    cases ry
    cases p <;> first | exact False.elim F | skip
    case bl d => cases rp; cases rx; exact wpAny_is_plain rfl ⟨.bl (d == c), H, I, by cases c <;> cases d <;> rfl, bl_done F S1⟩
    all_goals first
      | (cases rp; cases rx; exact wpAny_is_other rfl (fun z => by cases z) ⟨.bl false, H, I, rfl, bl_done F S1⟩)
      | (cases rp; obtain ⟨t, rfl⟩ := rx; exact wpAny_is_other rfl (fun z => by cases z) ⟨.bl false, H, I, rfl, bl_done F S1⟩)
theorem notN_ok : OpR X (compareOp .IsNot) (rd2 X.K (cmpV .notN)) := by
  intro pins s σ H x y v u Q I rx ry h
  obtain ⟨m, st, p, q, S1, rp, rq, F⟩ := h
  cases q <;> first | exact False.elim F | skip
  case non =>
    cases rq
    refine op_notN pins s σ H _ _ v u Q I rx ry ⟨rfl, ?_⟩
    cases p <;> first | exact False.elim F | (cases rp; exact bl_done F S1)
  case bl c =>
    cases rq
    cases ry
    cases p <;> first | exact False.elim F | skip
    case bl d => cases rp; cases rx; exact wpAny_isNot_plain rfl ⟨.bl (!(d == c)), H, I, by cases c <;> cases d <;> rfl, bl_done F S1⟩
    all_goals first
      | (cases rp; cases rx; exact wpAny_isNot_other rfl (fun z => by cases z) ⟨.bl true, H, I, rfl, bl_done F S1⟩)
      | (cases rp; obtain ⟨t, rfl⟩ := rx; exact wpAny_isNot_other rfl (fun z => by cases z) ⟨.bl true, H, I, rfl, bl_done F S1⟩)

/-! ### in -/
theorem snaps_ok {K : PySem.W.Frag} {m : Pl} {st : Sto} {H : Hp} (S1 : SRep K m H st) {vs : List V} {ps xs : List PV} (r : Reps K m st.nxt H vs ps) (e : snaps st ps = some xs) : L2.DpAll K H vs (toDs xs) ∧ plainSs xs :=
  snapsW_ok (fun l x hl e => snapL_ok S1 8 l x hl e) ps vs xs r e
theorem seek_val {α : Type} {f : PV → List PV → Option α} {K : PySem.W.Frag} {m : Pl} {st st' : Sto} {H : Hp} (S1 : SRep K m H st) {x : V} {vs : List V} {p : PV} {ps : List PV} {c : α} (rp : Rep K m st.nxt H x p) (rq : Reps K m st.nxt H vs ps) (e : seekM f p ps st = .ok c st') :
    st' = st ∧ ∃ a bs, L2.Dp K H x (toD a) ∧ L2.DpAll K H vs (toDs bs) ∧ plainS a ∧ plainSs bs ∧ dep a ≤ 60 ∧ deps bs ≤ 60 ∧ f a bs = some c := by
  unfold seekM at e
  cases q1 : snap st p with
  | none => rw [q1] at e; cases e
  | some a =>
    cases q2 : snaps st ps with
    | none => rw [q1, q2] at e; cases e
    | some bs =>
      simp only [q1, q2] at e
      by_cases hd : dep a ≤ 60 ∧ deps bs ≤ 60
      · rw [if_pos hd] at e
        cases q3 : f a bs with
        | none => simp only [q3] at e; cases e
        | some r =>
          simp only [q3] at e
          injection e with e1 e2
          subst e1
          obtain ⟨d1, p1⟩ := snap_ok S1 rp q1
          obtain ⟨d2, p2⟩ := snaps_ok S1 rq q2
          exact ⟨e2.symm, a, bs, d1, d2, p1, p2, hd.1, hd.2, q3⟩
      · rw [if_neg hd] at e; cases e
theorem toDs_map : ∀ xs : List PV, toDs xs = xs.map toD
  | [] => rfl
  | x :: xs => by rw [toDs, List.map_cons, toDs_map xs]
theorem any_toDs {a : PV} (ha : plainS a) : ∀ bs : List PV, plainSs bs → ((toDs bs).any fun z => PyData.eqv z (toD a)) = bs.any fun b => peq b a
  | [], _ => rfl
  | b :: bs, h => by rw [toDs, List.any_cons, List.any_cons, any_toDs ha bs h.2, peq_toD b a h.1 ha]
theorem cnt_toDs {a : PV} (ha : plainS a) : ∀ bs : List PV, plainSs bs → ((toDs bs).countP fun z => PyData.eqv z (toD a)) = bs.countP fun b => peq b a
  | [], _ => rfl
  | b :: bs, h => by rw [toDs, List.countP_cons, List.countP_cons, cnt_toDs ha bs h.2, peq_toD b a h.1 ha]
theorem find_toDs {a : PV} (ha : plainS a) : ∀ bs : List PV, plainSs bs → ((toDs bs).findIdx? fun z => PyData.eqv z (toD a)) = bs.findIdx? fun b => peq b a
  | [], _ => rfl
  | b :: bs, h => by
    rw [toDs, List.findIdx?_cons, List.findIdx?_cons, find_toDs ha bs h.2, peq_toD b a h.1 ha]
theorem shapedL {bs : List PV} (h : plainSs bs) (hd : deps bs ≤ 60) : SeqAt.shaped (.list (toDs bs)) = true := by
  unfold SeqAt.shaped
  rw [show (PyData.list (toDs bs)).canLay0 = true from by simp only [PyData.canLay0]; exact lays_toD bs h, Bool.true_and]
  refine decide_eq_true ?_
  simp only [PyData.depth, deps_toD bs h]
  omega
/-- the items' answers against data, at a state -/
theorem items_at {X : Cx} {pins : List (Addr × Obj)} {σ : L2.St} {H : Hp} {s : Shared} (I : Inv X pins σ H s) (hu : X.A.units + 200 < cLine) {x : V} {u : Value} {a : PV} {bs : List PV} {vs : List V} {its : List Value} (rx : RelV x u) (rv : Vals vs its) (d1 : L2.Dp X.K H x (toD a)) (d2 : L2.DpAll X.K H vs (toDs bs)) (p1 : plainS a) (p2 : plainSs bs) (h1 : dep a ≤ 60) :
    (∀ y ∈ its.toArray, SeqAt.EqAt X.A.in1 s y u (PyData.eqv (SeqAt.readOf s.heap y) (toD a))) ∧ its.map (SeqAt.readOf s.heap) = toDs bs := by
  obtain ⟨as, r1⟩ := L2.Dp.reads I (toD a) x u d1 rx
  obtain ⟨cs, r2⟩ := L2.Dp.readsAll I (toDs bs) vs its d2 rv
  refine ⟨SeqAt.items_eqAt (vs := its.toArray) (show ReadsAll s.heap its.toArray.toList (toDs bs) cs from r2) r1 (lays_toD bs p2) (lay_toD a p1) ?_, SeqAt.readsAll_map (toDs bs) its cs (lays_toD bs p2) r2⟩
  rw [dep_toD a p1]
  have : min (PyData.depthAll (toDs bs)) (dep a) ≤ dep a := Nat.min_le_right _ _
  omega
theorem any_arr {its : List Value} {f : Value → PyData} {g : PyData → Bool} {ds : List PyData} (h : its.map f = ds) : its.toArray.any (fun y => g (f y)) = ds.any g := by
  rw [← h, List.any_map, List.any_toArray]
  rfl
theorem in_ok (c0 : CxOk X) : OpR X (compareOp .In) (rd2 X.K (cmpV .isin)) := by
  intro pins s σ H x y v u Q I rx ry h
  obtain ⟨m, st, p, q, S1, rp, rq, F⟩ := h
  obtain ⟨c, s', e0, F⟩ := fin_bind (g := cmpM .isin p q) F
  cases q <;> first | (cases e0; done) | skip
  case tup ys =>
    cases rq with
    | tup ht hr =>
      obtain ⟨rfl, a, bs, d1, d2, p1, p2, h1, h2, h3⟩ := seek_val S1 rp hr (show seekM anyEq p ys st = R.ok c s' from e0)
      cases ry
      obtain ⟨its, r, pl, hz⟩ := I.tuple ht.sq
      obtain ⟨k1, k2⟩ := items_at I c0.un rx r d1 d2 p1 p2 h1
      refine SeqAt.in_tupleAt _ pl k1 ⟨.bl _, H, I, rfl, ?_⟩
      rw [any_arr (g := fun d => PyData.eqv d (toD a)) k2, any_toDs p1 bs p2]
      cases h3
      exact bl_done F S1
  case loc l =>
    cases rq
    cases e1 : st.lstAt l with
    | none =>
      have e0 : (match st.lstAt l with | some ys => seekM anyEq p ys st | none => .err) = R.ok c s' := e0
      rw [e1] at e0; cases e0
    | some ys =>
      have e0 : (match st.lstAt l with | some ys => seekM anyEq p ys st | none => .err) = R.ok c s' := e0
      rw [e1] at e0
      obtain ⟨vs, ht, hr⟩ := S1.at e1
      obtain ⟨rfl, a, bs, d1, d2, p1, p2, h1, h2, h3⟩ := seek_val S1 rp hr e0
      cases ry
      obtain ⟨its, r, pl, hz⟩ := I.list ht
      obtain ⟨k1, k2⟩ := items_at I c0.un rx r d1 d2 p1 p2 h1
      refine SeqAt.in_listAt _ pl.isList k1 ⟨.bl _, H, I, rfl, ?_⟩
      rw [any_arr (g := fun d => PyData.eqv d (toD a)) k2, any_toDs p1 bs p2]
      cases h3
      exact bl_done F S1
  case str t =>
    cases p <;> first | (cases e0; done) | skip
    case str z =>
      cases z with
      | nil => cases e0
      | cons a z =>
        cases z with
        | cons b z => cases e0
        | nil =>
          have e0 : (if t.length ≤ 16777216 then R.ok (t.contains a) st else .err) = R.ok c s' := e0
          by_cases hl : t.length ≤ 16777216
          · rw [if_pos hl] at e0
            cases e0
            cases rp; cases rq
            refine op_in_sign pins s σ H _ _ v u Q I rx ry ⟨a, S t, rfl, rfl, ?_⟩
            have := bl_done F S1
            rwa [List.contains_eq_mem] at this
          · rw [if_neg hl] at e0; cases e0
theorem notIn_ok (c0 : CxOk X) : OpR X (compareOp .NotIn) (rd2 X.K (cmpV .notin)) := by
  intro pins s σ H x y v u Q I rx ry h
  obtain ⟨m, st, p, q, S1, rp, rq, F⟩ := h
  obtain ⟨c, s', e9, F⟩ := fin_bind (g := cmpM .notin p q) F
  obtain ⟨k, s2, e0, e3⟩ := bind_ok (g := inM p q) (f := fun r => M.pure (!r)) e9 (fun z => nomatch z)
  cases e3
  cases q <;> first | (cases e0; done) | skip
  case tup ys =>
    cases rq with
    | tup ht hr =>
      obtain ⟨rfl, a, bs, d1, d2, p1, p2, h1, h2, h3⟩ := seek_val S1 rp hr (show seekM anyEq p ys st = R.ok k s' from e0)
      cases ry
      obtain ⟨its, r, pl, hz⟩ := I.tuple ht.sq
      obtain ⟨k1, k2⟩ := items_at I c0.un rx r d1 d2 p1 p2 h1
      refine SeqAt.notIn_tupleAt _ pl k1 ⟨.bl _, H, I, rfl, ?_⟩
      rw [any_arr (g := fun d => PyData.eqv d (toD a)) k2, any_toDs p1 bs p2]
      cases h3
      exact bl_done F S1
  case loc l =>
    cases rq
    cases e1 : st.lstAt l with
    | none =>
      have e0 : (match st.lstAt l with | some ys => seekM anyEq p ys st | none => .err) = R.ok k s' := e0
      rw [e1] at e0; cases e0
    | some ys =>
      have e0 : (match st.lstAt l with | some ys => seekM anyEq p ys st | none => .err) = R.ok k s' := e0
      rw [e1] at e0
      obtain ⟨vs, ht, hr⟩ := S1.at e1
      obtain ⟨rfl, a, bs, d1, d2, p1, p2, h1, h2, h3⟩ := seek_val S1 rp hr e0
      cases ry
      obtain ⟨its, r, pl, hz⟩ := I.list ht
      obtain ⟨k1, k2⟩ := items_at I c0.un rx r d1 d2 p1 p2 h1
      refine SeqAt.notIn_listAt _ pl.isList k1 ⟨.bl _, H, I, rfl, ?_⟩
      rw [any_arr (g := fun d => PyData.eqv d (toD a)) k2, any_toDs p1 bs p2]
      cases h3
      exact bl_done F S1
  case str t =>
    cases p <;> first | (cases e0; done) | skip
    case str z =>
      cases z with
      | nil => cases e0
      | cons a z =>
        cases z with
        | cons b z => cases e0
        | nil =>
          have e0 : (if t.length ≤ 16777216 then R.ok (t.contains a) st else .err) = R.ok k s' := e0
          by_cases hl : t.length ≤ 16777216
          · rw [if_pos hl] at e0
            cases e0
            cases rp; cases rq
            refine op_notIn_sign pins s σ H _ _ v u Q I rx ry ⟨a, S t, rfl, rfl, ?_⟩
            have := bl_done F S1
            rwa [List.contains_eq_mem] at this
          · rw [if_neg hl] at e0; cases e0
def copOf : CO → CmpOp
  | .eq => .Eq | .ne => .NotEq | .lt => .Lt | .le => .LtE | .gt => .Gt | .ge => .GtE | .isN => .Is | .notN => .IsNot | .isin => .In | .notin => .NotIn
theorem cmp_ok (c0 : CxOk X) : ∀ o : CO, OpR X (compareOp (copOf o)) (rd2 X.K (cmpV o))
  | .eq => eq_ok c0 | .ne => ne_ok c0 | .lt => lt_ok c0 | .le => le_ok c0 | .gt => gt_ok c0 | .ge => ge_ok c0 | .isN => isN_ok | .notN => notN_ok | .isin => in_ok c0 | .notin => notIn_ok c0

/-! ### truth -/
theorem truth_val {K : PySem.W.Frag} {m : Pl} {st st' : Sto} {H : Hp} (S1 : SRep K m H st) {x : V} {p : PV} {c : Bool} (r : Rep K m st.nxt H x p) (e : truth p st = .ok c st') : st' = st ∧ TruV K x H c := by
  cases p with
  | non => cases r; cases e; exact ⟨rfl, rfl⟩
  | bl b => cases r; cases e; exact ⟨rfl, rfl⟩
  | int i => cases r; cases e; exact ⟨rfl, rfl⟩
  | str t =>
    cases r
    have e : (if t.length ≤ 16777216 then R.ok (!t.isEmpty) st else .err) = R.ok c st' := e
    by_cases hl : t.length ≤ 16777216
    · rw [if_pos hl] at e
      injection e with e1 e2
      refine ⟨e2.symm, by rw [S_len]; exact hl, ?_⟩
      rw [← e1, S_len]
      cases t with
      | nil => rfl
      | cons a t =>
        have : ((((a :: t).length : Nat) : Int) != 0) = true := by
          rw [bne_iff_ne]
          simp only [List.length_cons]
          omega
        rw [this]
        rfl
    · rw [if_neg hl] at e; cases e
  | tup xs =>
    cases r with
    | tup h1 h2 =>
      cases e
      refine ⟨rfl, .inr (.inl ⟨_, h1.sq, ?_⟩)⟩
      cases h2 <;> rfl
  | loc l =>
    cases r
    have e : (match st.lstAt l with | some xs => R.ok (!xs.isEmpty) st | none => .err) = R.ok c st' := e
    cases q : st.lstAt l with
    | none => rw [q] at e; cases e
    | some xs =>
      rw [q] at e
      injection e with e1 e2
      obtain ⟨vs, h1, h2⟩ := S1.at q
      refine ⟨e2.symm, .inl ⟨_, h1, ?_⟩⟩
      rw [← e1]
      cases h2 <;> rfl
  | lv xs => cases r
  | rp xs => cases e
end
end Dp


set_option Elab.async false
set_option linter.all false
set_option maxRecDepth 100000
set_option maxHeartbeats 4000000
set_option autoImplicit false
/-! DpSub: subscripts, slices, a[::-1]. -/
namespace Dp
open PySem L2 PySem.Spec PyProof.Rows

/-! ### t[::-1], s[::-1] at the library's level -/
section
variable {prog : Program} {w : World} {A : Around} {E : Value → Shared → Prop} {s : Shared}
theorem adjRev (n : Nat) : Builtin.Slice.sliceAdjust none none (-1) (n : Int) = ((n : Int) - 1, -1) := by
  unfold Builtin.Slice.sliceAdjust
  simp
theorem placesRev (n : Nat) : Builtin.Slice.slicePlaces ((n : Int) - 1) (-1) (-1) = n := by
  unfold Builtin.Slice.slicePlaces
  have h1 : ¬ ((-1 : Int) > 0) := by decide
  simp only [h1, if_false]
  by_cases h : (n : Int) - 1 > -1
  · rw [if_pos h]
    have e : (- -1 : Int) = 1 := by decide
    rw [e, Int.ediv_one]
    omega
  · rw [if_neg h]
    omega
theorem fm_congr {α β : Type} {f g : α → Option β} : ∀ {l : List α}, (∀ x ∈ l, f x = g x) → l.filterMap f = l.filterMap g
  | [], _ => rfl
  | x :: l, h => by
    rw [List.filterMap_cons, List.filterMap_cons, h x (List.mem_cons_self ..), fm_congr fun y hy => h y (List.mem_cons_of_mem _ hy)]
theorem pickRev (xs : Array Value) : ((List.range xs.size).filterMap fun (k : Nat) => xs[((xs.size : Int) - 1 + (k : Int) * -1).toNat]?).toArray = xs.toList.reverse.toArray := by
  obtain ⟨l⟩ := xs
  simp only [List.size_toArray, List.getElem?_toArray]
  refine congrArg List.toArray ?_
  have key : ∀ r : List Value, r = l.reverse → (List.range l.length).filterMap (fun (k : Nat) => l[((l.length : Int) - 1 + (k : Int) * -1).toNat]?) = r := fun r hr => by
    have e1 : (List.range l.length).filterMap (fun (k : Nat) => l[((l.length : Int) - 1 + (k : Int) * -1).toNat]?) = (List.range l.length).filterMap (fun (k : Nat) => r[k]?) := by
      refine fm_congr fun k hk => ?_
      have hk' := List.mem_range.mp hk
      rw [hr, List.getElem?_reverse hk']
      refine congrArg (fun j => l[j]?) ?_
      omega
    have e2 : l.length = r.length := by rw [hr, List.length_reverse]
    rw [e1, e2]
    clear e1 e2 hr
    induction r with
    | nil => rfl
    | cons a r ih =>
      rw [List.length_cons, List.range_succ_eq_map, List.filterMap_cons]
      simp only [List.getElem?_cons_zero, List.filterMap_map]
      refine congrArg (a :: ·) ?_
      exact (fm_congr fun k _ => by simp).trans ih
  exact key _ rfl
theorem appliedRev {sl : Addr} {vl vu vs : Value} {n : Nat} {Q : Int × Int × Nat → Shared → Prop} (hs : s.heap.IsSliceOf sl vl vu vs) (pl : IsPart vl none) (pu : IsPart vu none) (ps : IsPart vs (some (-1)))
    (h : Q ((n : Int) - 1, -1, n) s) : wpAny (model prog w) A (Builtin.Slice.sliceApplied (.ref sl) (pure (n : Int))) Q E s := by
  obtain ⟨os, hos, hcs, hds⟩ := id hs
  unfold Builtin.Slice.sliceApplied Builtin.Slice.sliceFields
  refine wpAny_bind (wpAny_bind (wpAny_field hos hds (x := vl) rfl (wpAny_bind (wpAny_field hos hds (x := vu) rfl
    (wpAny_bind (wpAny_field hos hds (x := vs) rfl (wpAny_pure ?_)))))))
  refine wpAny_bind (HT.slicePart_ ps ?_)
  show wpAny _ _ (if ((-1 : Int) == 0) = true then _ else _) _ _ s
  rw [if_neg (by decide)]
  refine wpAny_bind (HT.slicePart_ pl
    (wpAny_bind (HT.slicePart_ pu (wpAny_bind (wpAny_pure ?_)))))
  show wpAny _ _ (match Builtin.Slice.sliceAdjust none none (-1) (n : Int) with | (lo, hi) => pure (lo, (-1 : Int), Builtin.Slice.slicePlaces lo hi (-1))) _ _ s
  rw [adjRev]
  show wpAny _ _ (pure ((n : Int) - 1, (-1 : Int), Builtin.Slice.slicePlaces ((n : Int) - 1) (-1) (-1))) _ _ s
  rw [placesRev]
  exact wpAny_pure h
theorem itemTupRev {t sl : Addr} {items : Array Value} {vl vu vs : Value} {Q : Value → Shared → Prop} (ht : PyProof.Rows.IsTup s.heap t items) (hs : s.heap.IsSliceOf sl vl vu vs)
    (pl : IsPart vl none) (pu : IsPart vu none) (ps : IsPart vs (some (-1)))
    (h : Q (.ref s.heap.objs.size) { s with heap := s.heap.push { cls := .type "tuple", data := .seq items.toList.reverse.toArray } }) (hsz : items.size ≤ sizeLine) :
    wpAny (model prog w) A (getItem (.ref t) (.ref sl)) Q E s := by
  have hok : sizeOk (.seq items.toList.reverse.toArray) := by
    show items.toList.reverse.toArray.size ≤ sizeLine
    rw [List.size_toArray, List.length_reverse, Array.length_toList]
    exact hsz
  obtain ⟨os, hos, hcs, hds⟩ := id hs
  have hTs : s.TypeIs (.ref sl) "slice" := ⟨os, hos, hcs⟩
  unfold getItem
  try with_reducible refine wpAny_holding ?_
  first | refine wpAny_bind (wpAny_pure ?_) | skip
  refine wpAny_bind (wpAny_sequenceKey ht.typeIs (by decide) ?_)
  refine wpAny_bind (wpAny_callSpecial?_slot (name := Str.ofString "__getitem__") ht.typeIs PyProof.Rows.slot_tuple_getitem
    (wpAny_call_entry PyProof.Rows.slot_tuple_getitem ht.typeIs PyProof.Rows.entry_tuple_getitem ?_
      (PyProof.Rows.args_tuple_getitem _ _)))
  show wpAny _ _ (Builtin.Tuple.tupleItemsOf (.ref t) >>= _) _ _ s
  refine wpAny_bind (PyProof.Rows.tupleItemsOf_ ht ?_)
  refine wpAny_bind (wpAny_typeOf hTs ?_)
  rw [if_pos (by decide)]
  refine wpAny_bind (appliedRev hs pl pu ps ?_)
  have hno : ¬ (((items.size : Int) - 1 == 0 && (-1 : Int) == 1 && items.size == items.size) = true) := by
    intro q
    rw [Bool.and_eq_true, Bool.and_eq_true] at q
    exact absurd q.1.2 (by decide)
  show wpAny _ _ (if ((items.size : Int) - 1 == 0 && (-1 : Int) == 1 && items.size == items.size) = true then _ else _) _ _ s
  rw [if_neg hno, pickRev]
  first
    | exact wpAny_bind (m := Builtin.Tuple.tupleExact _) (wpAny_newObj_type (wpAny_pure ⟨_, rfl, wpAny_pure h⟩) hok)
    | exact wpAny_bind (m := Builtin.Tuple.tupleExact _) (wpAny_newObj_type (wpAny_bind (wpAny_pure (wpAny_pure ⟨_, rfl, wpAny_pure h⟩))) hok)
    | exact wpAny_bind (wpAny_bind (m := Builtin.Tuple.tupleExact _) (wpAny_newObj_type (wpAny_pure (wpAny_pure ⟨_, rfl, wpAny_pure h⟩)) hok))
    | exact wpAny_bind (wpAny_bind (m := Builtin.Tuple.tupleExact _) (wpAny_newObj_type (wpAny_pure ⟨_, rfl, wpAny_pure h⟩) hok))
end

/-! ### e[::-1] -/
theorem ixN_of {n : Nat} {i : Int} {j : Nat} (h : ixOf n i = some j) : L2.ixN n i = some j := by
  unfold ixOf at h
  unfold L2.ixN
  by_cases h0 : 0 ≤ i
  · rw [if_pos h0] at h ⊢
    by_cases h1 : i.toNat < n
    · rw [if_pos h1] at h
      rw [if_pos (show i < (n : Int) by omega)]
      exact h
    · rw [if_neg h1] at h; cases h
  · rw [if_neg h0] at h ⊢
    by_cases h1 : 0 ≤ i + n
    · rw [if_pos h1] at h
      rw [if_pos (show -(n : Int) ≤ i by omega)]
      exact h
    · rw [if_neg h1] at h; cases h
theorem atI_reps {K : PySem.W.Frag} {m : Pl} {n : Nat} {H : Hp} {vs : List V} {xs : List PV} {i : Int} {x : PV} (r : Reps K m n H vs xs) (h : atIx xs i = some x) : ∃ v, L2.atI vs i = some v ∧ Rep K m n H v x := by
  unfold atIx at h
  cases e : ixOf xs.length i with
  | none => rw [e] at h; cases h
  | some j =>
    rw [e] at h
    obtain ⟨v, h1, h2⟩ := r.get h
    refine ⟨v, ?_, h2⟩
    unfold L2.atI
    rw [Reps.length r, ixN_of e]
    exact h1
theorem sIx_some (n d : Nat) (i : Int) : HT.sIx n d (some i) = slIx n i := by
  show (if i < 0 then (i + (n : Int)).toNat else min i.toNat n) = slIx n i
  unfold slIx
  by_cases h : 0 ≤ i
  · rw [if_neg (by omega), if_pos h]
  · rw [if_pos (by omega), if_neg h]
theorem sIx_lo (n : Nat) (o : Option Int) : HT.sIx n 0 o = slLo n o := by
  cases o with
  | none => rfl
  | some i => exact sIx_some n 0 i
theorem sIx_hi (n : Nat) (o : Option Int) : HT.sIx n n o = slHi n o := by
  cases o with
  | none => rfl
  | some i => exact sIx_some n n i
theorem cut_V (vs : List V) (lo hi : Option Int) : cutV vs lo hi = cut vs lo hi := by
  unfold cutV cut
  rw [sIx_lo, sIx_hi]
theorem cut_reps {K : PySem.W.Frag} {m : Pl} {n : Nat} {H : Hp} {vs : List V} {xs : List PV} (r : Reps K m n H vs xs) (lo hi : Option Int) : Reps K m n H (cut vs lo hi) (cut xs lo hi) := by
  unfold cut
  rw [Reps.length r]
  exact (r.drop _).take _
theorem cut_all {α : Type} (xs : List α) (lo hi : Option Int) (h1 : HT.sIx xs.length 0 lo = 0) (h2 : HT.sIx xs.length xs.length hi = xs.length) : cut xs lo hi = xs := by
  rw [sIx_lo] at h1
  rw [sIx_hi] at h2
  unfold cut
  rw [h1, h2, List.drop_zero, Nat.sub_zero, List.take_length]
section
variable {X : Cx}
theorem ix_ok : IxR X (rd2 X.K idxM) := by
  intro value slice pins s σ H x y v u Q I rx ry h hs
  obtain ⟨m, st, p, q, S1, rp, rq, F⟩ := h
  cases p <;> cases q <;> first | exact False.elim F | skip
  case tup.int xs i =>
    cases rq
    cases rp with
    | tup h1 h2 =>
      have F : FinG X.K (Rep X.K) m st H (ofO (atIx xs i) st) Q := F
      cases e : atIx xs i with
      | none => rw [e] at F; exact False.elim F
      | some x =>
        rw [e] at F
        obtain ⟨w, e1, e2⟩ := atI_reps h2 e
        exact ix_tup value slice pins s σ H _ _ v u Q I rx ry ⟨_, _, i, w, rfl, rfl, h1.sq, e1, FinG.done (p := x) F S1 e2⟩ hs
  case loc.int l i =>
    cases rq; cases rp
    have F : FinG X.K (Rep X.K) m st H (match st.lstAt l with | some xs => ofO (atIx xs i) st | none => .err) Q := F
    cases e0 : st.lstAt l with
    | none => rw [e0] at F; exact False.elim F
    | some xs =>
      rw [e0] at F
      have F : FinG X.K (Rep X.K) m st H (ofO (atIx xs i) st) Q := F
      cases e : atIx xs i with
      | none => rw [e] at F; exact False.elim F
      | some x =>
        rw [e] at F
        obtain ⟨vs, h1, h2⟩ := S1.at e0
        obtain ⟨w, e1, e2⟩ := atI_reps h2 e
        exact ix_list value slice pins s σ H _ _ v u Q I rx ry ⟨_, _, i, w, rfl, rfl, h1, e1, FinG.done (p := x) F S1 e2⟩ hs
  case str.int t i =>
    cases rq
    cases rp with
    | str _ ho =>
      obtain ⟨hl, F⟩ := ite_fin (r := (match atIx t i with | some c => R.ok (PV.str [c]) st | none => .err)) F
      cases e : atIx t i with
      | none => rw [e] at F; exact False.elim F
      | some c =>
        rw [e] at F
        have ec : L2.atI (S t).cps.toList i = some c := by
          unfold atIx at e
          cases q : ixOf t.length i with
          | none => rw [q] at e; cases e
          | some j =>
            rw [q] at e
            unfold L2.atI
            show (L2.ixN t.length i).bind _ = _
            rw [ixN_of q]
            exact e
        have hc : c < 1114112 := by
          unfold atIx at e
          cases q : ixOf t.length i with
          | none => rw [q] at e; cases e
          | some j => rw [q] at e; exact ho c (List.mem_of_getElem? e)
        refine ix_str value slice pins s σ H _ _ v u Q I rx ry ⟨S t, i, c, rfl, rfl, by rw [S_len]; exact hl, ec, ?_⟩ hs
        exact F.done S1 (Rep.str [c] fun d hd => by rw [List.mem_singleton.mp hd]; exact hc)
/-- a slice -/
def rdSl (K : PySem.W.Frag) (f : PV → Option Int → Option Int → M PV) : V → Option Int → Option Int → Hp → VK → Prop := fun x lo hi H Q => ∃ m st p, SRep K m H st ∧ Rep K m st.nxt H x p ∧ FinG K (Rep K) m st H (f p lo hi st) Q
theorem sl_ok : SlR X (rdSl X.K slM) := by
  intro pins s σ H x v vl vu lo hi sl Q I rx hs pl pu h
  obtain ⟨m, st, p, S1, rp, F⟩ := h
  cases p <;> first | exact False.elim F | skip
  case tup xs =>
    cases rp with
    | tup h1 h2 =>
      refine sl_tupD pins s σ H _ v vl vu lo hi sl Q I rx hs pl pu ⟨_, _, rfl, h1.sq, fun hw => ?_, fun _ => ?_⟩
      · have F : FinG X.K (Rep X.K) m st H (.ok (.tup (cut xs lo hi)) st) Q := F
        rw [Reps.length h2] at hw
        rw [cut_all xs lo hi hw.1 hw.2] at F
        exact F.done S1 (Rep.tup h1 h2)
      · rw [cut_V]
        exact newTup_fin F S1 (cut_reps h2 lo hi)
  case str t =>
    cases rp with
    | str _ ho =>
      obtain ⟨hl, F⟩ := ite_fin (r := R.ok (PV.str (cut t lo hi)) st) F
      refine sl_str pins s σ H _ v vl vu lo hi sl Q I rx hs pl pu ⟨S t, rfl, by rw [S_len]; exact hl, ?_⟩
      have e : cutS (S t) lo hi = S (cut t lo hi) := by
        unfold cutS cut
        rw [sIx_lo, sIx_hi, S_len]
      rw [e]
      exact F.done S1 (Rep.str _ (ho.sub fun c hc => List.mem_of_mem_drop (List.mem_of_mem_take hc)))
  case loc l =>
    cases rp
    have F : FinG X.K (Rep X.K) m st H (match st.lstAt l with | some xs => newLst (cut xs lo hi) st | none => .err) Q := F
    cases e0 : st.lstAt l with
    | none => rw [e0] at F; exact False.elim F
    | some xs =>
      rw [e0] at F
      obtain ⟨hl, F⟩ := newLst_fin F
      obtain ⟨vs, h1, h2⟩ := S1.at e0
      refine sl_list pins s σ H _ v vl vu lo hi sl Q I rx hs pl pu ⟨_, vs, rfl, h1, fun c hc => ?_⟩
      rw [cut_V]
      exact F _ _ S1 (cut_reps h2 lo hi) hc
/-- o[i] = v -/
def rdSet (K : PySem.W.Frag) : V → V → V → Hp → (Hp → Prop) → Prop := fun o i v H Q => ∃ m st po pi pv, SRep K m H st ∧ Rep K m st.nxt H o po ∧ Rep K m st.nxt H i pi ∧ Rep K m st.nxt H v pv ∧
  FinG (β := Unit) K (fun _ _ _ _ _ => True) m st H (setIx po pi pv st) (fun _ => Q)
theorem set_ok : PSet X (rdSet X.K) := by
  intro pins s σ H o i v ov iv u Q I ro ri rv h
  obtain ⟨m, st, po, pi, pv, S1, rpo, rpi, rpv, F⟩ := h
  cases po <;> cases pi <;> first | exact False.elim F | skip
  case loc.int l k =>
    cases rpi; cases rpo
    have F : FinG (β := Unit) X.K (fun _ _ _ _ _ => True) m st H (match st.get l with | some (.lst xs) => (match ixOf xs.length k with | some j => .ok () (st.set l (.lst (xs.set j pv))) | none => .err) | _ => .err) (fun _ => Q) := F
    cases e : st.get l with
    | none => rw [e] at F; exact False.elim F
    | some o1 =>
      rw [e] at F
      cases o1 <;> first | exact False.elim F | skip
      case lst xs =>
        cases e2 : ixOf xs.length k with
        | none => simp only [e2] at F; exact False.elim F
        | some j =>
          simp only [e2] at F
          obtain ⟨_, vs, h1, h2⟩ := S1.ob l _ e
          refine set_list pins s σ H _ _ v ov iv u Q I ro ri rv ⟨_, vs, k, j, rfl, rfl, h1, by rw [Reps.length h2]; exact ixN_of e2, ?_⟩
          exact F () _ m (Step.setL S1 e) (SRep.setL S1 e (h2.set j rpv)) trivial
end

section
variable {X : Cx} {e : Expr} {k : Nat} {p1 p2 p3 pos : Pos}
theorem pe_rev {f : Env → M PV} (he : PE X e (rd X.K f)) : PE X (.Subscript e (.Slice none none (some (.UnaryOp .USub (.Constant (.int 1) k p1) p2)) p3) pos) (rd X.K fun r => M.bind (f r) revM) := by
  refine ⟨fun pins s σ H Q I h => ?_⟩
  obtain ⟨m, r, st, E1, S1, F⟩ := h
  refine Subscript_ (thn (he.run pins s σ H (fun x H1 => rd1 X.K revM x H1 Q) I ⟨m, r, st, E1, S1, F.seq fun v H1 m1 st1 p s1 S2 r1 F1 => ⟨m1, st1, p, S2, r1, F1⟩⟩) fun v s1 ⟨x, H1, I1, r1, q1⟩ => ?_)
  obtain ⟨m1, st1, p, S2, rp, F1⟩ := q1
  have hst : L2.PO X (some (.UnaryOp .USub (.Constant (.int 1) k p1) p2)) (tPart (tUn (rU fun i => .int (-i)) (tC (.int 1)))) := po_some (pe_un un_neg pe_int)
  refine wpAny_Slice (thn (po_none.run pins s1 σ H1 (fun o H2 => o = none ∧ H2 = H1) I1 ⟨rfl, rfl⟩) fun vl s2 ⟨l, H2, I2, pl, el, e2⟩ => ?_)
  subst el e2
  refine thn (po_none.run pins s2 σ H2 (fun o H3 => o = none ∧ H3 = H2) I2 ⟨rfl, rfl⟩) fun vu s3 ⟨u, H3, I3, pu, eu, e3⟩ => ?_
  subst eu e3
  refine thn (hst.run pins s3 σ H3 (fun o H4 => o = some (-1) ∧ H4 = H3) I3 ⟨1, rfl, -1, rfl, rfl, rfl⟩) fun vs s4 ⟨o, H4, I4, ps, eo, e4⟩ => ?_
  subst eo e4
  have I5 : L2.Inv X pins σ H4 { s4 with heap := s4.heap.push { cls := .type "slice", data := .fields #[vl, vu, vs] } } :=
    I4.kept (t' := s4.toks) fun b ob q => Heap.get?_push_of_some _ q
  show wpAny (model X.prog X.w) X.A (subscriptTail e (.Slice none none (some (.UnaryOp .USub (.Constant (.int 1) k p1) p2)) p3) v (.ref s4.heap.objs.size)) (EP X pins σ Q) X.xe
    { s4 with heap := s4.heap.push { cls := .type "slice", data := .fields #[vl, vu, vs] } }
  cases p <;> first | exact False.elim F1 | skip
  case tup xs =>
    cases rp with
    | tup h1 h2 =>
      cases r1
      obtain ⟨its, r, ht, hz⟩ := I5.tuple h1.sq
      refine tail_any (ops := [.ref _, .ref s4.heap.objs.size]) ht.typeIs (PyProof.Rows.slot_tuple_getitem.lookup) ?_ (by with_unfolding_all rfl)
      refine itemTupRev ht (Heap.IsSliceOf.new _ vl vu vs) pl pu ps ?_ (by rw [List.size_toArray, ← r.length]; exact hz)
      exact ⟨.ref _, _, laidT (t' := s4.toks) I5 (fun b ob q => Heap.get?_push_of_some _ q) (Nat.le_refl _) (Heap.get?_push_size _ rfl) r.reverse (by rw [List.length_reverse]; exact hz), rfl,
        newTup_fin F1 S2 h2.reverse _ _ (I5.hok.fresh (Nat.le_refl _)) rfl⟩
  case str t =>
    cases rp with
    | str _ ho =>
      obtain ⟨hl, F1⟩ := ite_fin (r := R.ok (PV.str t.reverse) st1) F1
      obtain ⟨tk, rfl⟩ := r1
      cases pl; cases pu
      obtain ⟨tk2, e5⟩ : ∃ tk2, vs = .int (-1) tk2 := by cases ps; exact ⟨_, rfl⟩
      subst e5
      refine tail_any (ops := [.str _ _, .ref s4.heap.objs.size]) (PySem.typeIs_str _ _ _) (PySem.F.slot_str_getitem.lookup) ?_ (by with_unfolding_all rfl)
      refine wpAny_getItem_str_slice (l := none) (u := none) (st := some (-1, tk2)) ⟨_, Heap.get?_push_size _ rfl, rfl, rfl⟩ rfl ?_
      have e6 : Txt.sliceBy (S t) none none (-1, tk2) = S t.reverse := by
        have h := PyProof.Rows.step_rev_list (S t) tk2
        generalize Txt.sliceBy (S t) none none (-1, tk2) = z at h
        obtain ⟨c⟩ := z
        refine congrArg Str.mk ?_
        have hc : c.toList = t.reverse := by
          rw [show c.toList = _ from h]
          refine List.ext_getElem (by simp [S_len]) fun i h1 h2 => ?_
          rw [List.length_map, List.length_range, S_len] at h1
          rw [List.getElem_map, List.getElem_range, S_len, List.getElem_reverse]
          show t.toArray.getD (t.length - 1 - i) 0 = _
          have hb : t.length - 1 - i < t.length := by omega
          simp [Array.getD, hb]
        rw [← hc]
      have e7 : sliceMade (S t) tk none none (some (-1, tk2)) = .str (Txt.sliceBy (S t) none none (-1, tk2)) := by
        unfold sliceMade Txt.sliceBy
        have h1 : ¬ (((((some ((-1 : Int), tk2)).map (·.1)).getD 1 == 1) && ((slicePicked (S t) none none (some (-1, tk2))).length == (S t).length)) = true) := by
          rw [Bool.and_eq_true]
          exact fun q => absurd q.1 (by simp)
        rw [if_neg h1, if_neg h1]
      rw [e7, e6]
      have hz : (S t.reverse).length ≤ sizeLine := by rw [S_len, List.length_reverse, sizeLine_eq]; exact hl
      exact ⟨hz, .str _, H4, I5.tok _, ⟨_, rfl⟩, F1.done S2 (Rep.str _ (ho.sub fun c hc => List.mem_reverse.mp hc))⟩
  case loc l =>
    cases rp
    have F1 : FinG X.K (Rep X.K) m1 st1 H4 (match st1.lstAt l with | some xs => newLst xs.reverse st1 | none => .err) Q := F1
    cases e0 : st1.lstAt l with
    | none => rw [e0] at F1; exact False.elim F1
    | some xs =>
      rw [e0] at F1
      obtain ⟨hl, F1⟩ := newLst_fin F1
      obtain ⟨ws, h1, h2⟩ := S2.at e0
      cases r1
      obtain ⟨its, r, ht, hz⟩ := I5.list h1
      refine tail_any (ops := [.ref _, .ref s4.heap.objs.size]) ht.isList.typeIs (PySem.slot_list_getitem.lookup) ?_ (by with_unfolding_all rfl)
      refine wpAny_getItem_list_slice ht.isList (Heap.IsSliceOf.new _ vl vu vs) pl pu ps (by decide) ?_ (by rw [List.size_toArray, ← r.length]; exact hz)
      rw [PySem.W.krv_pick]
      refine ⟨.ref _, _, I5.laid (t' := s4.toks) (o := .lst ws.reverse) (fun b ob q => Heap.get?_push_of_some _ q) (Nat.le_refl _) ?_, rfl, F1 _ _ S2 h2.reverse (I5.hok.fresh (Nat.le_refl _))⟩
      exact ⟨by rw [List.length_reverse]; exact hz, _, 0, r.reverse, Heap.get?_push_size _ rfl⟩
end
end Dp


set_option Elab.async false
set_option linter.all false
set_option maxRecDepth 100000
set_option maxHeartbeats 4000000
set_option autoImplicit false
/-! DpSrt: the letters of a text in order. -/
namespace Dp
open PySem L2
theorem insN_perm (c : Nat) : ∀ r : List Nat, (insN c r).Perm (c :: r)
  | [] => List.Perm.refl _
  | x :: r => by
    unfold insN
    split
    · exact List.Perm.refl _
    · exact ((insN_perm c r).cons x).trans (List.Perm.swap c x r)
theorem srtN_perm : ∀ t : List Nat, (srtN t).Perm t
  | [] => List.Perm.refl _
  | c :: r => (insN_perm c (srtN r)).trans ((srtN_perm r).cons c)
theorem srtN_len (t : List Nat) : (srtN t).length = t.length := (srtN_perm t).length_eq
theorem insN_sorted (c : Nat) : ∀ r : List Nat, r.Pairwise (· ≤ ·) → (insN c r).Pairwise (· ≤ ·)
  | [], _ => by simp [insN]
  | x :: r, h => by
    have hx := List.pairwise_cons.mp h
    unfold insN
    split
    · next hc =>
      refine List.pairwise_cons.mpr ⟨fun y hy => ?_, h⟩
      rcases List.mem_cons.mp hy with rfl | z
      · exact hc
      · exact Nat.le_trans hc (hx.1 y z)
    · next hc =>
      refine List.pairwise_cons.mpr ⟨fun y hy => ?_, insN_sorted c r hx.2⟩
      rcases List.mem_cons.mp ((insN_perm c r).mem_iff.mp hy) with rfl | z
      · omega
      · exact hx.1 y z
theorem srtN_sorted : ∀ t : List Nat, (srtN t).Pairwise (· ≤ ·)
  | [] => List.Pairwise.nil
  | c :: r => insN_sorted c _ (srtN_sorted r)
theorem sorted_unique {a b : List Nat} (h : a.Perm b) (ha : a.Pairwise (· ≤ ·)) (hb : b.Pairwise (· ≤ ·)) : a = b :=
  List.Perm.eq_of_pairwise (le := fun x y : Nat => x ≤ y) (fun x y _ _ p q => Nat.le_antisymm p q) ha hb h
theorem srtN_congr {t u : List Nat} (h : t.Perm u) : srtN t = srtN u :=
  sorted_unique ((srtN_perm t).trans (h.trans (srtN_perm u).symm)) (srtN_sorted t) (srtN_sorted u)
/-- one letter -/
def sgn (c : Nat) : Str := ⟨#[c]⟩
def sg1 (s : Str) : Nat := s.cps.toList.headD 0
theorem sg1_sgn (c : Nat) : sg1 (sgn c) = c := rfl
theorem rising_le : ∀ (t : List Nat) (a : Nat), PyProof.Rows.risingS (sgn a) (t.map sgn) = true → (∀ x ∈ t, a ≤ x) ∧ t.Pairwise (· ≤ ·)
  | [], _, _ => ⟨fun x hx => (nomatch hx), List.Pairwise.nil⟩
  | x :: t, a, h => by
    have h2 : (!PySem.Spec.ltCps [x] [a] && PyProof.Rows.risingS (sgn x) (t.map sgn)) = true := h
    rw [Bool.and_eq_true] at h2
    obtain ⟨h3, h4⟩ := h2
    obtain ⟨i1, i2⟩ := rising_le t x h4
    have hx : a ≤ x := by
      simp [PySem.Spec.ltCps] at h3
      exact h3
    refine ⟨fun y hy => ?_, List.pairwise_cons.mpr ⟨i1, i2⟩⟩
    rcases List.mem_cons.mp hy with rfl | z
    · exact hx
    · exact Nat.le_trans hx (i1 y z)
theorem sorted_le {t : List Nat} (h : PyProof.Rows.sortedS (t.map sgn) = true) : t.Pairwise (· ≤ ·) := by
  cases t with
  | nil => exact List.Pairwise.nil
  | cons x t =>
    obtain ⟨a, b⟩ := rising_le t x h
    exact List.pairwise_cons.mpr ⟨a, b⟩
theorem sorted_out {ss : List Str} {t : List Nat} (hp : ss.Perm (t.map sgn)) (hs : PyProof.Rows.sortedS ss = true) : ss = (srtN t).map sgn := by
  have e1 : (ss.map sg1).map sgn = ss := by
    rw [List.map_map]
    have : ∀ x ∈ ss, (sgn ∘ sg1) x = id x := fun x hx => by
      obtain ⟨c, _, rfl⟩ := List.mem_map.mp (hp.mem_iff.mp hx)
      rfl
    rw [List.map_congr_left this, List.map_id]
  have e2 : (ss.map sg1).Perm t := by
    have := hp.map sg1
    rw [List.map_map] at this
    have e : t.map (sg1 ∘ sgn) = t := by
      have : ∀ x ∈ t, (sg1 ∘ sgn) x = id x := fun x _ => rfl
      rw [List.map_congr_left this, List.map_id]
    rwa [e] at this
  rw [← e1] at hs
  have h3 := sorted_le hs
  have h4 := sorted_unique (e2.trans (srtN_perm t).symm) h3 (srtN_sorted t)
  rw [← h4, e1]
theorem strs_are {x : Str} : ∀ (l : List Value) (i : Nat), (∀ (j : Nat) (v : Value), l[j]? = some v → SignAt x (i + j) v) → PyProof.Rows.StrsAre l ((x.cps.toList.drop i).take l.length |>.map sgn)
  | [], i, _ => by simpa using PyProof.Rows.StrsAre.nil
  | v :: l, i, h => by
    obtain ⟨c, u, hc, rfl⟩ := h 0 v rfl
    have ih := strs_are l (i + 1) fun j w hj => by
      have := h (j + 1) w hj
      rwa [show i + (j + 1) = i + 1 + j by omega] at this
    have hd : x.cps.toList.drop i = c :: x.cps.toList.drop (i + 1) := by
      have hi : i < x.cps.toList.length := by
        have := (Array.getElem?_eq_some_iff.mp hc).1
        simpa using this
      rw [List.drop_eq_getElem_cons hi]
      congr 1
      have := (Array.getElem?_eq_some_iff.mp hc).2
      simpa using this
    rw [hd, List.length_cons, List.take_succ_cons, List.map_cons]
    exact .cons (sgn c) u ih
section
variable {prog : Program} {w : World} {A : Around} {E : Value → Shared → Prop} {s : Shared}
theorem sorted_str {x : Str} {t : Tok} {Q : Value → Shared → Prop} (hh : A.handled = none) (hn : x.cps.size ≤ sizeLine)
    (h : ∀ (h1 h' : Heap) (tk : Nat) (p : Addr) (out : List Value) (e : Nat), (∀ b o, s.heap.get? b = some o → h1.get? b = some o) → h1.objs.size ≤ p → (∀ b o, h1.get? b = some o → h'.get? b = some o) → h'.get? p = some (PyProof.Rows.seqObj "list" out.toArray e) → PyProof.Rows.StrsAre out ((srtN x.cps.toList).map sgn) → Q (.ref p) { s with heap := h', toks := tk }) :
    wpAny (model prog w) A (call (.builtin "sorted") [.str x t]) Q E s := by
  refine PySem.Calls.call_function_entry PyProof.Rows.kind_sorted PyProof.Rows.plain_sorted PyProof.Rows.entry_sorted (PyProof.Rows.args_sorted1 _) ?_
  unfold Builtin.«sorted»
  refine wpAny_bind (m := checkCount "sorted" 1 1 _) (wpAny_pure ?_)
  refine wpAny_bind (wpAny_collect_str (A := A.in1) hh x t (fun s' acc hk hg hd ho hi => ?_) hn)
  obtain ⟨hp', g', d', tk', os'⟩ := s'
  simp only at hk hg hd ho
  subst hg hd ho
  have hS : PyProof.Rows.StrsAre acc.toList (x.cps.toList.map sgn) := by
    have := strs_are (x := x) acc.toList 0 fun j v hj => by
      rw [Nat.zero_add]
      exact hi.2 j v (by rw [← Array.getElem?_toList]; exact hj)
    have hl : acc.toList.length = x.cps.toList.length := by rw [Array.length_toList, Array.length_toList]; exact hi.1
    rwa [List.drop_zero, hl, List.take_length] at this
  have hL : acc.toList.length ≤ sizeLine := by rw [Array.length_toList, hi.1]; exact hn
  refine wpAny_bind (wpAny_newList ?_)
  have hoL : (hp'.push (PyProof.Rows.seqObj "list" acc.toList.toArray 0)).get? hp'.objs.size = some (PyProof.Rows.seqObj "list" acc.toList.toArray 0) := Heap.get?_push_size _ rfl
  refine wpAny_bind (wpAny_holding (wpAny_call_entry PyProof.Rows.slot_list_sort ⟨_, hoL, rfl⟩ PyProof.Rows.entry_list_sort (PyProof.Rows.list_sort_treeKAny PyProof.Rows.strKind_oneLt hoL hS.keysOf (fun v₁ v₂ rest e => PyProof.Rows.keyKind_strs (by rw [← e]; exact hS)) hL fun st' a1 a2 => ⟨_, rfl, ?_⟩) (PyProof.Rows.args_list_sort _)))
  obtain ⟨ss', h1, h2, h3⟩ := PyProof.Rows.sorted_out_str hS a1 a2
  obtain ⟨e, he⟩ := PyProof.Rows.sortedHeap_at (vs := acc.toList) (out := (PyProof.Rows.arrOf st').map (·.2)) hoL
  refine wpAny_pure ⟨_, rfl, ?_⟩
  have es := sorted_out h2 h3
  subst es
  refine h hp' _ _ hp'.objs.size _ e hk (Nat.le_refl _) (fun b o q => ?_) (by rw [Array.toArray_toList]; exact he) h1
  have hlt : b < hp'.objs.size := Heap.lt_size q
  rw [PyProof.Rows.sortedHeap_old (Nat.ne_of_lt hlt) (by rw [PyProof.Rows.size_push']; exact Nat.lt_succ_of_lt hlt), Heap.get?_push_ne _ _ _ (Nat.ne_of_lt hlt)]
  exact q
section
variable {X : Cx}
def rSrt : List V → Hp → VK → Prop := fun vs H Q => ∃ t : List Nat, vs = [V.str (S t)] ∧ t.length ≤ 16777216 ∧ ∀ q, H q = none → Q (.ref q) (upd H q (.lst (((srtN t).map sgn).map V.str)))
theorem cr_srt (hc : X.calm = true) : CallR X (.builtin "sorted") rSrt := by
  intro pins s σ H vs us Q I r h
  obtain ⟨t, rfl, hl, q⟩ := h
  obtain ⟨u, rfl, rx⟩ := vals1 r
  obtain ⟨tk, rfl⟩ := rx
  refine sorted_str (I.ok.hd hc) (by show t.toArray.size ≤ _; rw [List.size_toArray, sizeLine_eq]; exact hl) fun h1 h' tk p out e k1 hp k2 ho hs => ?_
  have I1 : L2.Inv X pins σ H { s with heap := h1 } := I.kept (t' := s.toks) k1
  refine ⟨.ref p, upd H p (.lst (((srtN t).map sgn).map V.str)), I1.laid (t' := tk) k2 hp ⟨?_, out, e, vals_of_strs (by simpa using hs), ho⟩, rfl, q p (I1.hok.fresh hp)⟩
  rw [List.length_map, List.length_map, srtN_len, sizeLine_eq]
  exact hl
end
end
theorem reps_sgn {K : PySem.W.Frag} {m : Pl} {n : Nat} {H : Hp} : ∀ (t : List Nat), sOk t → Reps K m n H ((t.map sgn).map V.str) (chars t)
  | [], _ => .nil
  | c :: t, h => .cons (.str [c] fun d hd => by rw [List.mem_singleton.mp hd]; exact h c (List.mem_cons_self ..)) (reps_sgn t fun d hd => h d (List.mem_cons_of_mem _ hd))
end Dp


set_option Elab.async false
set_option linter.all false
set_option maxRecDepth 100000
set_option maxHeartbeats 4000000
set_option autoImplicit false
/-! DpBi: built-in functions. -/
namespace Dp
open PySem L2

theorem Reps.one {K : PySem.W.Frag} {m : Pl} {n : Nat} {H : Hp} {vs : List V} {x : PV} (h : Reps K m n H vs [x]) : ∃ v, vs = [v] ∧ Rep K m n H v x := by
  cases h with
  | cons a b => cases b; exact ⟨_, rfl, a⟩
theorem Reps.two {K : PySem.W.Frag} {m : Pl} {n : Nat} {H : Hp} {vs : List V} {x y : PV} (h : Reps K m n H vs [x, y]) : ∃ v w, vs = [v, w] ∧ Rep K m n H v x ∧ Rep K m n H w y := by
  cases h with
  | cons a b =>
    obtain ⟨w, e, r⟩ := b.one
    subst e
    exact ⟨_, _, rfl, a, r⟩
theorem ints_reps {K : PySem.W.Frag} {m : Pl} {n : Nat} {H : Hp} : ∀ {xs : List PV} {vs : List V} {is : List Int}, Reps K m n H vs xs → intsP xs = some is → vs = is.map V.int
  | [], _, _, r, e => by cases r; cases e; rfl
  | x :: xs, _, is, r, e => by
    cases r with
    | cons r1 r2 =>
      cases x <;> first | (cases e; done) | skip
      case int i =>
        unfold intsP at e
        cases q : intsP xs with
        | none => rw [q] at e; cases e
        | some js =>
          rw [q] at e
          cases e
          cases r1
          rw [List.map_cons, ints_reps r2 q]
theorem bools_reps {K : PySem.W.Frag} {m : Pl} {n : Nat} {H : Hp} : ∀ {xs : List PV} {vs : List V} {is : List Bool}, Reps K m n H vs xs → boolsP xs = some is → vs = is.map V.bl
  | [], _, _, r, e => by cases r; cases e; rfl
  | x :: xs, _, is, r, e => by
    cases r with
    | cons r1 r2 =>
      cases x <;> first | (cases e; done) | skip
      case bl i =>
        unfold boolsP at e
        cases q : boolsP xs with
        | none => rw [q] at e; cases e
        | some js =>
          rw [q] at e
          cases e
          cases r1
          rw [List.map_cons, bools_reps r2 q]
theorem strs_reps {K : PySem.W.Frag} {m : Pl} {n : Nat} {H : Hp} : ∀ {xs : List PV} {vs : List V} {ss : List (List Nat)}, Reps K m n H vs xs → strsP xs = some ss → vs = (ss.map S).map V.str ∧ ∀ s ∈ ss, sOk s
  | [], _, _, r, e => by cases r; cases e; exact ⟨rfl, fun s h => by cases h⟩
  | x :: xs, _, is, r, e => by
    cases r with
    | cons r1 r2 =>
      cases x <;> first | (cases e; done) | skip
      case str i =>
        unfold strsP at e
        cases q : strsP xs with
        | none => rw [q] at e; cases e
        | some js =>
          rw [q] at e
          cases e
          cases r1 with
          | str _ ho =>
            obtain ⟨h1, h2⟩ := strs_reps r2 q
            refine ⟨by rw [List.map_cons, List.map_cons, h1], fun s hs => ?_⟩
            rcases List.mem_cons.mp hs with rfl | hs
            · exact ho
            · exact h2 s hs
theorem fold_max : ∀ (r : List Int) (i : Int), let m := r.foldl (fun m j => if j > m then j else m) i; m ∈ i :: r ∧ ∀ y ∈ i :: r, y ≤ m
  | [], i => ⟨List.mem_cons_self .., fun y h => by rw [List.mem_singleton.mp h]; exact Int.le_refl _⟩
  | j :: r, i => by
    obtain ⟨h1, h2⟩ := fold_max r (if j > i then j else i)
    refine ⟨?_, fun y hy => ?_⟩
    · rcases List.mem_cons.mp h1 with e | h
      · show List.foldl _ _ r ∈ _
        rw [show List.foldl (fun m j => if j > m then j else m) (if j > i then j else i) r = if j > i then j else i from e]
        by_cases q : j > i
        · rw [if_pos q]; exact List.mem_cons_of_mem _ (List.mem_cons_self ..)
        · rw [if_neg q]; exact List.mem_cons_self ..
      · exact List.mem_cons_of_mem _ (List.mem_cons_of_mem _ h)
    · have key : (if j > i then j else i) ≤ List.foldl (fun m j => if j > m then j else m) (if j > i then j else i) r := h2 _ (List.mem_cons_self ..)
      show y ≤ List.foldl _ _ r
      rcases List.mem_cons.mp hy with rfl | hy
      · refine Int.le_trans ?_ key
        split <;> omega
      · rcases List.mem_cons.mp hy with rfl | hy
        · refine Int.le_trans ?_ key
          split <;> omega
        · exact h2 y (List.mem_cons_of_mem _ hy)
theorem fold_min : ∀ (r : List Int) (i : Int), let m := r.foldl (fun m j => if j < m then j else m) i; m ∈ i :: r ∧ ∀ y ∈ i :: r, m ≤ y
  | [], i => ⟨List.mem_cons_self .., fun y h => by rw [List.mem_singleton.mp h]; exact Int.le_refl _⟩
  | j :: r, i => by
    obtain ⟨h1, h2⟩ := fold_min r (if j < i then j else i)
    refine ⟨?_, fun y hy => ?_⟩
    · rcases List.mem_cons.mp h1 with e | h
      · show List.foldl _ _ r ∈ _
        rw [show List.foldl (fun m j => if j < m then j else m) (if j < i then j else i) r = if j < i then j else i from e]
        by_cases q : j < i
        · rw [if_pos q]; exact List.mem_cons_of_mem _ (List.mem_cons_self ..)
        · rw [if_neg q]; exact List.mem_cons_self ..
      · exact List.mem_cons_of_mem _ (List.mem_cons_of_mem _ h)
    · have key : List.foldl (fun m j => if j < m then j else m) (if j < i then j else i) r ≤ (if j < i then j else i) := h2 _ (List.mem_cons_self ..)
      show List.foldl _ _ r ≤ y
      rcases List.mem_cons.mp hy with rfl | hy
      · refine Int.le_trans key ?_
        split <;> omega
      · rcases List.mem_cons.mp hy with rfl | hy
        · refine Int.le_trans key ?_
          split <;> omega
        · exact h2 y (List.mem_cons_of_mem _ hy)

/-! ### the built-ins of a sequence, by its items: a rule at an address -/
/-- what b does of a list at a -/
def rdSq (K : PySem.W.Frag) (b : Bi) : List V → Hp → VK → Prop := fun us H Q => ∃ m st a vs xs, SRep K m H st ∧ us = [V.ref a] ∧ SqL K H a vs ∧ Reps K m st.nxt H vs xs ∧ FinG K (Rep K) m st H (biSeq b xs st) Q
def seqBi : Bi → Option Value
  | .len => some (.builtin "len") | .maxL => some (.builtin "max") | .minL => some (.builtin "min") | .sum => some (.builtin "sum")
  | .all => some (.builtin "all") | .any => some (.builtin "any") | .tuple => some (.type "tuple") | .list => some (.type "list")
  | _ => none
section
variable {X : Cx}
theorem bi_seq (c0 : CxOk X) : ∀ (b : Bi) (f : Value), seqBi b = some f → CallR X f (rdSq X.K b)
  | .len, _, e => by
    cases e
    intro pins s σ H xs us Q I r h
    obtain ⟨m, st, a, vs, ps, S1, rfl, hs, rr, F⟩ := h
    refine call_len_seq pins s σ H _ us Q I r ⟨a, vs, rfl, .inl hs, ?_⟩
    rw [Reps.length rr]
    exact FinG.done (p := PV.int ps.length) F S1 (Rep.int _)
  | .tuple, _, e => by
    cases e
    intro pins s σ H xs us Q I r h
    obtain ⟨m, st, a, vs, ps, S1, rfl, hs, rr, F⟩ := h
    obtain ⟨_, F⟩ := mkTup_fin (xs := ps) F
    exact call_tupleD pins s σ H _ us Q I r ⟨a, vs, rfl, .inl ⟨hs, newTup_fin F S1 rr⟩⟩
  | .list, _, e => by
    cases e
    intro pins s σ H xs us Q I r h
    obtain ⟨m, st, a, vs, ps, S1, rfl, hs, rr, F⟩ := h
    obtain ⟨_, F⟩ := newLst_fin (xs := ps) F
    exact call_list_of pins s σ H _ us Q I r ⟨a, vs, rfl, .inl hs, fun l hl => F _ _ S1 rr hl⟩
  | .sum, _, e => by
    cases e
    intro pins s σ H xs us Q I r h
    obtain ⟨m, st, a, vs, ps, S1, rfl, hs, rr, F⟩ := h
    have F : FinG X.K (Rep X.K) m st H (match intsP ps with | some is => .ok (.int is.sum) st | none => .err) Q := F
    cases q : intsP ps with
    | none => rw [q] at F; exact False.elim F
    | some is =>
      rw [q] at F
      have e := ints_reps rr q
      subst e
      exact cr_sum c0.calm pins s σ H _ us Q I r ⟨a, is, rfl, hs, FinG.done (p := PV.int is.sum) F S1 (Rep.int _)⟩
  | .maxL, _, e => by
    cases e
    intro pins s σ H xs us Q I r h
    obtain ⟨m, st, a, vs, ps, S1, rfl, hs, rr, F⟩ := h
    have F : FinG X.K (Rep X.K) m st H (match intsP ps with | some is => (match maxOf is with | some m => .ok (.int m) st | none => .err) | none => .err) Q := F
    cases q : intsP ps with
    | none => rw [q] at F; exact False.elim F
    | some is =>
      simp only [q] at F
      have e := ints_reps rr q
      subst e
      cases is with
      | nil => exact False.elim F
      | cons i is =>
        obtain ⟨h1, h2⟩ := fold_max is i
        refine cr_max c0.calm pins s σ H _ us Q I r ⟨a, i :: is, rfl, hs, Nat.succ_pos _, fun k hk hm => ?_⟩
        have e : k = is.foldl (fun m j => if j > m then j else m) i := Int.le_antisymm (h2 k hk) (hm _ h1)
        rw [e]
        exact FinG.done (p := PV.int _) F S1 (Rep.int _)
  | .minL, _, e => by
    cases e
    intro pins s σ H xs us Q I r h
    obtain ⟨m, st, a, vs, ps, S1, rfl, hs, rr, F⟩ := h
    have F : FinG X.K (Rep X.K) m st H (match intsP ps with | some is => (match minOf is with | some m => .ok (.int m) st | none => .err) | none => .err) Q := F
    cases q : intsP ps with
    | none => rw [q] at F; exact False.elim F
    | some is =>
      simp only [q] at F
      have e := ints_reps rr q
      subst e
      cases is with
      | nil => exact False.elim F
      | cons i is =>
        obtain ⟨h1, h2⟩ := fold_min is i
        refine cr_min c0.calm pins s σ H _ us Q I r ⟨a, i :: is, rfl, hs, Nat.succ_pos _, fun k hk hm => ?_⟩
        have e : k = is.foldl (fun m j => if j < m then j else m) i := Int.le_antisymm (hm _ h1) (h2 k hk)
        rw [e]
        exact FinG.done (p := PV.int _) F S1 (Rep.int _)
  | .all, _, e => by
    cases e
    intro pins s σ H xs us Q I r h
    obtain ⟨m, st, a, vs, ps, S1, rfl, hs, rr, F⟩ := h
    have F : FinG X.K (Rep X.K) m st H (match boolsP ps with | some bs => .ok (.bl (bs.all id)) st | none => .err) Q := F
    cases q : boolsP ps with
    | none => rw [q] at F; exact False.elim F
    | some is =>
      rw [q] at F
      have e := bools_reps rr q
      subst e
      exact cr_all c0.calm pins s σ H _ us Q I r ⟨a, is, rfl, hs, FinG.done (p := PV.bl (is.all id)) F S1 (Rep.bl _)⟩
  | .any, _, e => by
    cases e
    intro pins s σ H xs us Q I r h
    obtain ⟨m, st, a, vs, ps, S1, rfl, hs, rr, F⟩ := h
    have F : FinG X.K (Rep X.K) m st H (match boolsP ps with | some bs => .ok (.bl (bs.any id)) st | none => .err) Q := F
    cases q : boolsP ps with
    | none => rw [q] at F; exact False.elim F
    | some is =>
      rw [q] at F
      have e := bools_reps rr q
      subst e
      exact cr_any c0.calm pins s σ H _ us Q I r ⟨a, is, rfl, hs, FinG.done (p := PV.bl (is.any id)) F S1 (Rep.bl _)⟩
  | .abs, _, e => by cases e
  | .int, _, e => by cases e
  | .ord, _, e => by cases e
  | .max2, _, e => by cases e
  | .min2, _, e => by cases e
  | .repr, _, e => by cases e
  | .sorted, _, e => by cases e
  | .isinst _, _, e => by cases e

/-! ### the repr of data -/
mutual
theorem shown_len : ∀ x : PV, plainS x → shW x ≤ 16777216 → (toD x).shown.length ≤ shW x
  | .non, _, _ => by show ("None" : Str).length ≤ 4; decide
  | .bl b, _, _ => by cases b <;> (show Str.length _ ≤ 5; decide)
  | .int i, _, _ => by
    have h := int_text_length_le (a := i) (k := i.natAbs.log2 + 1) (Nat.succ_pos _) (Nat.lt_succ_self _)
    show (Str.ofString (toString i)).length ≤ i.natAbs.log2 + 3
    rw [ofString_length]
    omega
  | .str s, h, _ => by
    show (reprText (S s)).length ≤ 10 * s.length + 2
    have := StrLaws.reprText_len (S s) fun c hc => Nat.lt_trans (h c (by simpa using hc)) (by decide)
    rwa [S_len] at this
  | .tup xs, h, q => by
    simp only [toD, PyData.shown, shW] at q ⊢
    have := showns_len xs h (by omega)
    have h2 := tupleText_len_le (PyData.shownAll (toDs xs))
    omega
  | .lv xs, h, q => by
    simp only [toD, PyData.shown, shW] at q ⊢
    have := showns_len xs h (by omega)
    have h2 := listText_len_le (PyData.shownAll (toDs xs))
    omega
theorem showns_len : ∀ xs : List PV, plainSs xs → shWs xs ≤ 16777216 → ((PyData.shownAll (toDs xs)).map (·.length)).sum + 2 * (PyData.shownAll (toDs xs)).length ≤ shWs xs
  | [], _, _ => by simp [toDs, PyData.shownAll, shWs]
  | x :: xs, h, q => by
    simp only [toDs, PyData.shownAll, List.map_cons, List.sum_cons, List.length_cons, shWs] at q ⊢
    have h1 := shown_len x h.1 (by omega)
    have h2 := showns_len xs h.2 (by omega)
    omega
end
mutual
theorem showable_toD : ∀ x : PV, plainS x → shK x = true → (toD x).showable = true
  | .non, _, _ => rfl
  | .bl _, _, _ => rfl
  | .int _, _, h => h
  | .str _, _, _ => rfl
  | .tup xs, p, h => by simp only [toD, PyData.showable]; exact showables_toD xs p (by simpa only [shK] using h)
  | .lv xs, p, h => by simp only [toD, PyData.showable]; exact showables_toD xs p (by simpa only [shK] using h)
theorem showables_toD : ∀ xs : List PV, plainSs xs → shKs xs = true → PyData.showableAll (toDs xs) = true
  | [], _, _ => rfl
  | x :: xs, p, h => by
    simp only [shKs, Bool.and_eq_true] at h
    simp only [toDs, PyData.showableAll, showable_toD x p.1 h.1, showables_toD xs p.2 h.2, Bool.and_self]
end
/-! .. with empty dicts among them -/
mutual
def plainR : PV → Prop
  | .str s => sOk s
  | .tup xs => plainRs xs
  | .lv xs => plainRs xs
  | .rp _ => False
  | _ => True
def plainRs : List PV → Prop
  | [] => True
  | x :: xs => plainR x ∧ plainRs xs
end
mutual
theorem shown_lenR : ∀ x : PV, plainR x → shW x ≤ 16777216 → (toD x).shown.length ≤ shW x
  | .non, _, _ => by show ("None" : Str).length ≤ 4; decide
  | .bl b, _, _ => by cases b <;> (show Str.length _ ≤ 5; decide)
  | .int i, _, _ => by
    have h := int_text_length_le (a := i) (k := i.natAbs.log2 + 1) (Nat.succ_pos _) (Nat.lt_succ_self _)
    show (Str.ofString (toString i)).length ≤ i.natAbs.log2 + 3
    rw [ofString_length]
    omega
  | .str s, h, _ => by
    show (reprText (S s)).length ≤ 10 * s.length + 2
    have := StrLaws.reprText_len (S s) fun c hc => Nat.lt_trans (h c (by simpa using hc)) (by decide)
    rwa [S_len] at this
  | .loc _, _, _ => by
    show (PyData.dict []).shown.length ≤ 4
    decide +kernel
  | .tup xs, h, q => by
    simp only [toD, PyData.shown, shW] at q ⊢
    have := showns_lenR xs h (by omega)
    have h2 := tupleText_len_le (PyData.shownAll (toDs xs))
    omega
  | .lv xs, h, q => by
    simp only [toD, PyData.shown, shW] at q ⊢
    have := showns_lenR xs h (by omega)
    have h2 := listText_len_le (PyData.shownAll (toDs xs))
    omega
theorem showns_lenR : ∀ xs : List PV, plainRs xs → shWs xs ≤ 16777216 → ((PyData.shownAll (toDs xs)).map (·.length)).sum + 2 * (PyData.shownAll (toDs xs)).length ≤ shWs xs
  | [], _, _ => by simp [toDs, PyData.shownAll, shWs]
  | x :: xs, h, q => by
    simp only [toDs, PyData.shownAll, List.map_cons, List.sum_cons, List.length_cons, shWs] at q ⊢
    have h1 := shown_lenR x h.1 (by omega)
    have h2 := showns_lenR xs h.2 (by omega)
    omega
end
mutual
theorem showableR : ∀ x : PV, plainR x → shK x = true → (toD x).showable = true
  | .non, _, _ => rfl
  | .bl _, _, _ => rfl
  | .int _, _, h => h
  | .str _, _, _ => rfl
  | .loc _, _, _ => show (PyData.dict []).showable = true by decide +kernel
  | .tup xs, p, h => by simp only [toD, PyData.showable]; exact showablesR xs p (by simpa only [shK] using h)
  | .lv xs, p, h => by simp only [toD, PyData.showable]; exact showablesR xs p (by simpa only [shK] using h)
theorem showablesR : ∀ xs : List PV, plainRs xs → shKs xs = true → PyData.showableAll (toDs xs) = true
  | [], _, _ => rfl
  | x :: xs, p, h => by
    simp only [shKs, Bool.and_eq_true] at h
    simp only [toDs, PyData.showableAll, showableR x p.1 h.1, showablesR xs p.2 h.2, Bool.and_self]
end
mutual
theorem depR : ∀ x : PV, plainR x → (toD x).depth ≤ dep x + 1
  | .non, _ => Nat.zero_le _
  | .bl _, _ => Nat.zero_le _
  | .int _, _ => Nat.zero_le _
  | .str _, _ => Nat.zero_le _
  | .loc _, _ => Nat.le_refl _
  | .tup xs, h => by have := depsR xs h; simp only [toD, PyData.depth, dep]; omega
  | .lv xs, h => by have := depsR xs h; simp only [toD, PyData.depth, dep]; omega
theorem depsR : ∀ xs : List PV, plainRs xs → PyData.depthAll (toDs xs) ≤ deps xs + 1
  | [], _ => Nat.zero_le _
  | x :: xs, h => by
    have h1 := depR x h.1
    have h2 := depsR xs h.2
    simp only [toDs, PyData.depthAll, deps]
    omega
end
mutual
theorem plainS_R : ∀ x : PV, plainS x → plainR x
  | .non, _ => trivial
  | .bl _, _ => trivial
  | .int _, _ => trivial
  | .str _, h => h
  | .loc _, _ => trivial
  | .rp _, h => h
  | .tup xs, h => plainSs_Rs xs h
  | .lv xs, h => plainSs_Rs xs h
theorem plainSs_Rs : ∀ xs : List PV, plainSs xs → plainRs xs
  | [], _ => trivial
  | x :: xs, h => ⟨plainS_R x h.1, plainSs_Rs xs h.2⟩
end
/-- data that can be read, sys.modules not among them -/
def RdOk (s : Shared) (v : V) (x : PV) : Prop := plainR x ∧ ∀ u, RelV v u → ∃ as, Reads s.heap u (toD x) as ∧ sysModules ∉ as
def RdsOk (s : Shared) (vs : List V) (xs : List PV) : Prop := plainRs xs ∧ ∀ us, Vals vs us → ∃ as, ReadsAll s.heap us (toDs xs) as ∧ sysModules ∉ as
section
variable {X : Cx} {pins : List (Addr × Obj)} {σ : L2.St} {H : Hp} {s : Shared} {m : Pl} {n : Nat} {d : Nat → Option PV}
theorem noSm (c0 : CxOk X) (I : L2.Inv X pins σ H s) {a : Addr} {o : Obj} {vs : Array Value} {k : Nat} (ho : s.heap.get? a = some o) (hd : o.data = .seq vs k) : a ≠ sysModules := fun e => by
  obtain ⟨o2, es, ep, e2, e3⟩ := c0.sm
  have := I.bk _ _ e2
  rw [← e, ho] at this
  cases this
  rw [hd] at e3
  cases e3
mutual
theorem snapR_ok (c0 : CxOk X) (I : L2.Inv X pins σ H s) (hd : ∀ l x, l < n → d l = some x → RdOk s (.ref (m l)) x) : ∀ (p : PV) (v : V) (x : PV), Rep X.K m n H v p → snapW d p = some x → RdOk s v x
  | .non, _, _, r, e => by cases r; cases e; exact ⟨trivial, fun u h => by cases h; exact ⟨_, Reads.none, by simp⟩⟩
  | .bl b, _, _, r, e => by cases r; cases e; exact ⟨trivial, fun u h => by cases h; exact ⟨_, Reads.bool b, by simp⟩⟩
  | .int b, _, _, r, e => by cases r; cases e; exact ⟨trivial, fun u h => by obtain ⟨t, rfl⟩ := h; exact ⟨_, Reads.int b t, by simp⟩⟩
  | .str b, _, _, r, e => by
    cases e
    cases r with
    | str _ h => exact ⟨h, fun u h => by obtain ⟨t, rfl⟩ := h; exact ⟨_, Reads.str _ t, by simp⟩⟩
  | .rp b, _, _, r, e => by cases e
  | .lv b, _, _, r, e => by cases e
  | .loc l, _, _, r, e => by
    cases r with
    | loc h => exact hd l _ h e
  | .tup xs, _, _, r, e => by
    cases r with
    | tup h1 h2 =>
      unfold snapW at e
      cases q : snapsW d xs with
      | none => rw [q] at e; cases e
      | some ys =>
        rw [q] at e
        cases e
        obtain ⟨a, b⟩ := snapsR_ok c0 I hd xs _ ys h2 q
        refine ⟨a, fun u h => ?_⟩
        cases h
        obtain ⟨its, rv, ⟨o, ho, hc, k, hdt⟩, _⟩ := I.tuple h1.sq
        obtain ⟨as, hr, hn⟩ := b its rv
        exact ⟨_, Reads.tuple ho hc hdt hr, hn⟩
theorem snapsR_ok (c0 : CxOk X) (I : L2.Inv X pins σ H s) (hd : ∀ l x, l < n → d l = some x → RdOk s (.ref (m l)) x) : ∀ (ps : List PV) (vs : List V) (xs : List PV), Reps X.K m n H vs ps → snapsW d ps = some xs → RdsOk s vs xs
  | [], _, _, r, e => by cases r; cases e; exact ⟨trivial, fun us h => by cases h; exact ⟨_, ReadsAll.nil, by simp⟩⟩
  | p :: ps, _, _, r, e => by
    cases r with
    | cons r1 r2 =>
      unfold snapsW at e
      cases q1 : snapW d p with
      | none => rw [q1] at e; cases e
      | some y =>
        cases q2 : snapsW d ps with
        | none => rw [q1, q2] at e; cases e
        | some ys =>
          rw [q1, q2] at e
          cases e
          obtain ⟨a1, b1⟩ := snapR_ok c0 I hd p _ y r1 q1
          obtain ⟨a2, b2⟩ := snapsR_ok c0 I hd ps _ ys r2 q2
          refine ⟨⟨a1, a2⟩, fun us h => ?_⟩
          cases h with
          | cons h1 h2 =>
            obtain ⟨as, c1, n1⟩ := b1 _ h1
            obtain ⟨bs, c2, n2⟩ := b2 _ h2
            exact ⟨_, ReadsAll.cons c1 c2, by simp [n1, n2]⟩
end
theorem snapLD_ok (c0 : CxOk X) (I : L2.Inv X pins σ H s) {st : Sto} (S1 : SRep X.K m H st) : ∀ (k l : Nat) (x : PV), l < st.nxt → snapLD st k l = some x → RdOk s (.ref (m l)) x
  | 0, _, _, _, e => by cases e
  | k + 1, l, x, hl, e => by
    unfold snapLD at e
    cases q : st.lstAt l with
    | none =>
      simp only [q] at e
      cases q3 : st.get l with
      | none => rw [q3] at e; cases e
      | some o =>
        rw [q3] at e
        cases o <;> first | (cases e; done) | skip
        rename_i kvs
        cases kvs with
        | cons _ _ => cases e
        | nil =>
          cases e
          obtain ⟨_, ws, h1, h2⟩ := S1.ob l _ q3
          cases h2
          obtain ⟨hz, hsm, vs, r, o, es, ep, ho, hc, hdat, _, hp, _⟩ := dk_of I.hok h1
          cases r
          refine ⟨trivial, fun u hu => ?_⟩
          cases hu
          have e0 : es.toList = [] := by
            cases h : es.toList with
            | nil => rfl
            | cons a r => rw [h] at hp; cases hp
          exact ⟨_, Reads.dict (kvs := []) ho hc.1 hdat (by rw [e0]; exact ReadsAll.nil) (by rw [e0]; exact ReadsAll.nil), by simpa using fun z => absurd z.symm (beq_eq_false_iff_ne.mp hsm)⟩
    | some xs =>
      rw [q] at e
      cases q2 : snapsW (snapLD st k) xs with
      | none => simp only [q2] at e; cases e
      | some ys =>
        simp only [q2] at e
        cases e
        obtain ⟨vs, h1, h2⟩ := S1.at q
        obtain ⟨a, b⟩ := snapsR_ok c0 I (fun l x hl e => snapLD_ok c0 I S1 k l x hl e) xs vs ys h2 q2
        refine ⟨a, fun u hu => ?_⟩
        cases hu
        obtain ⟨its, rv, ⟨o, k2, ho, hc, _, hdt⟩, _⟩ := I.list h1
        obtain ⟨as, hr, hn⟩ := b its rv
        exact ⟨_, Reads.list ho hc hdt hr, by
          have := noSm c0 I ho hdt
          simp only [List.mem_cons, not_or]
          exact ⟨fun z => this z.symm, hn⟩⟩
end
theorem noDict_toD {x : PV} (h : plainS x) : (toD x).hasDict = false := PyData.hasDict_of_canLay _ (lay_toD x h)
theorem repr_ok (c0 : CxOk X) : CallR X (.builtin "repr") (rdL X.K (biM .repr)) := by
  intro pins s σ H xs us Q I r h
  obtain ⟨m, st, ps, S1, rr, F⟩ := h
  match ps, F, rr with
  | [], F, _ => exact False.elim F
  | _ :: _ :: _, F, _ => exact False.elim F
  | [p], F, rr =>
    obtain ⟨v, rfl, rp⟩ := rr.one
    have F : FinG X.K (Rep X.K) m st H (match snap st p with | some x => if shK x = true ∧ dep x ≤ 60 ∧ shW x ≤ 16777216 then .ok (.rp x) st else .err | none => (match snapD st p with | some x => if shK x = true ∧ dep x ≤ 60 ∧ shW x ≤ 16777216 then .ok (.rp x) st else .err | none => .err)) Q := F
    obtain ⟨u, rfl, ru⟩ := vals1 r
    have un := c0.un
    have key : ∀ x, plainR x → shK x = true → dep x ≤ 60 → shW x ≤ 16777216 → (∃ as, Reads s.heap u (toD x) as ∧ ((toD x).hasDict = true → sysModules ∉ as)) → FinG X.K (Rep X.K) m st H (R.ok (.rp x) st) Q → wpAny (model X.prog X.w) X.A (call (.builtin "repr") [u]) (EP X pins σ Q) X.xe s := fun x p1 h1 h2 h3 ⟨as, rd, ns⟩ F => by
      have hz : (toD x).shown.length ≤ sizeLine := by
        rw [sizeLine_eq]
        exact Nat.le_trans (shown_lenR x p1 h3) h3
      have fin : Q (.str (toD x).shown) H := FinG.done (p := PV.rp x) F S1 (Rep.rp x)
      have sh := showableR x p1 h1
      have dq := depR x p1
      generalize hd : toD x = d at rd sh hz fin ns dq
      cases rd with
      | none => exact PySem.P.repr_of_none ⟨.str _, H, I.tok _, ⟨_, rfl⟩, fin⟩
      | bool b => exact PySem.P.repr_of_bool ⟨.str _, H, I.tok _, ⟨_, rfl⟩, fin⟩
      | int i t => exact PySem.P.repr_of_int (by simpa [PyData.showable] using sh) ⟨.str _, H, I.tok _, ⟨_, rfl⟩, fin⟩
      | str z t => exact PySem.P.repr_of_str ⟨.str _, H, I.tok _, ⟨_, rfl⟩, fin⟩ hz
      | list g1 g2 g3 g4 => exact repr_of_reads' (Reads.list g1 g2 g3 g4) sh ns c0.gd (by omega) (fun _ _ e => e) (fun h' u tk hk => ⟨.str _, H, I.kept hk, ⟨_, rfl⟩, fin⟩) hz
      | tuple g1 g2 g3 g4 => exact repr_of_reads' (Reads.tuple g1 g2 g3 g4) sh ns c0.gd (by omega) (fun _ _ e => e) (fun h' u tk hk => ⟨.str _, H, I.kept hk, ⟨_, rfl⟩, fin⟩) hz
      | dict g1 g2 g3 g4 g5 => exact repr_of_reads' (Reads.dict g1 g2 g3 g4 g5) sh ns c0.gd (by omega) (fun _ _ e => e) (fun h' u tk hk => ⟨.str _, H, I.kept hk, ⟨_, rfl⟩, fin⟩) hz
    cases q : snap st p with
    | none =>
      simp only [q] at F
      cases q2 : snapD st p with
      | none => rw [q2] at F; exact False.elim F
      | some x =>
        simp only [q2] at F
        obtain ⟨⟨h1, h2, h3⟩, F⟩ := ite_fin F
        obtain ⟨p1, hr⟩ := snapR_ok c0 I (fun l x hl e => snapLD_ok c0 I S1 8 l x hl e) p v x rp q2
        obtain ⟨as, r1, r2⟩ := hr u ru
        exact key x p1 h1 h2 h3 ⟨as, r1, fun _ => r2⟩ F
    | some x =>
      simp only [q] at F
      obtain ⟨⟨h1, h2, h3⟩, F⟩ := ite_fin F
      obtain ⟨d1, p1⟩ := snap_ok S1 rp q
      obtain ⟨as, rd⟩ := L2.Dp.reads I (toD x) v u d1 ru
      exact key x (plainS_R x p1) h1 h2 h3 ⟨as, rd, fun z => by rw [noDict_toD p1] at z; cases z⟩ F

/-! ### the built-ins of values -/
def fnOf : Bi → Option Value
  | .len => some (.builtin "len") | .maxL => some (.builtin "max") | .minL => some (.builtin "min") | .sum => some (.builtin "sum")
  | .all => some (.builtin "all") | .any => some (.builtin "any") | .tuple => some (.type "tuple") | .list => some (.type "list")
  | .abs => some (.builtin "abs") | .int => some (.type "int") | .ord => some (.builtin "ord") | .max2 => some (.builtin "max") | .min2 => some (.builtin "min") | .repr => some (.builtin "repr") | .sorted => some (.builtin "sorted") | .minT => some (.builtin "min") | .dictC => some (.type "dict")
  | _ => none
/-- a list's own -/
theorem of_lst {K : PySem.W.Frag} {b : Bi} {m : Pl} {st : Sto} {H : Hp} {Q : VK} {l : Nat} {v : V} (S1 : SRep K m H st) (rp : Rep K m st.nxt H v (.loc l)) (F : FinG K (Rep K) m st H (M.bind (lstOf l) (biSeq b) st) Q) : rdSq K b [v] H Q := by
  obtain ⟨xs, s', e, F⟩ := fin_bind F
  unfold lstOf at e
  cases q : st.lstAt l with
  | none => rw [q] at e; cases e
  | some ys =>
    rw [q] at e
    cases e
    obtain ⟨vs, h1, h2⟩ := S1.at q
    cases rp
    exact ⟨m, _, _, vs, _, S1, rfl, h1, h2, F⟩
theorem argB_fold (xs : List PV) (x : PV) : (x :: xs).getD (argBest (fun i j => PySem.W.dataLt (toD ((x :: xs).getD i .non)) (toD ((x :: xs).getD j .non))) xs.length) .non = minP x xs := by
  have := (PySem.W.argBest_fold (fun a b => PySem.W.dataLt (toD a) (toD b)) PV.non x xs xs.length (Nat.le_refl _)).2
  rw [List.take_length] at this
  exact this
theorem toDs_getD : ∀ (xs : List PV) (i : Nat), (toDs xs).getD i .none = toD (xs.getD i .non)
  | [], i => by simp [toDs, toD]
  | x :: xs, 0 => by simp [toDs]
  | x :: xs, i + 1 => by
    have := toDs_getD xs i
    simpa [toDs] using this
/-- dict(d): a copy -/
theorem cr_dictC : CallR X (.type "dict") (rdL X.K (biM .dictC)) := by
  intro pins s σ H xs us Q I r h
  obtain ⟨m, st, ps, S1, rr, F⟩ := h
  match ps, F, rr with
  | [.loc l], F, rr =>
    obtain ⟨v, rfl, rp⟩ := rr.one
    have F : FinG X.K (Rep X.K) m st H (match st.dicAt l with | some kvs => alloc (.dic kvs) st | none => .err) Q := F
    have hg : ∀ kvs, st.dicAt l = some kvs → st.get l = some (.dic kvs) := fun kvs h => by
      unfold Sto.dicAt at h
      cases e : st.get l with
      | none => rw [e] at h; cases h
      | some o => rw [e] at h; cases o <;> cases h; rfl
    cases e : st.dicAt l with
    | none => rw [e] at F; exact F.elim
    | some kvs =>
      rw [e] at F
      obtain ⟨_, ws, h1, h2⟩ := S1.ob l _ (hg kvs e)
      cases rp
      refine call_dictD pins s σ H _ us Q I r ⟨m l, ws, rfl, .inl h1, fun p hp => ?_⟩
      have t4 := Step.newO S1 hp (.dK ws) (.dic kvs)
      have S4 : SRep X.K (plNew m st.nxt p) (upd H p (.dK ws)) (st.new (.dic kvs)) := SRep.newO S1 hp ⟨ws, upd_same, DReps.mv (Rep.step S1 t4) h2⟩
      have rl := Rep.loc (K := X.K) (m := plNew m st.nxt p) (n := (st.new (.dic kvs)).nxt) (H := upd H p (.dK ws)) (l := st.nxt) (Nat.lt_succ_self _)
      rw [plNew_new] at rl
      exact F (.ref p) _ _ t4 S4 rl
/-- min of a list of tuples -/
theorem cr_minT (c0 : CxOk X) : CallR X (.builtin "min") (rdL X.K (biM .minT)) := by
  intro pins s σ H xs us Q I r h
  obtain ⟨m, st, ps, S1, rr, F⟩ := h
  match ps, F, rr with
  | [.loc l], F, rr =>
    obtain ⟨v, rfl, rp⟩ := rr.one
    have F : FinG X.K (Rep X.K) m st H (M.bind (lstOf l) minTM st) Q := F
    obtain ⟨qs, s', e, F⟩ := fin_bind F
    unfold lstOf at e
    cases q : st.lstAt l with
    | none => rw [q] at e; cases e
    | some ys =>
      rw [q] at e
      cases e
      obtain ⟨vs, h1, h2⟩ := S1.at q
      cases rp
      cases qs with
      | nil => exact False.elim F
      | cons x ys =>
        have F : FinG X.K (Rep X.K) m st H ((if tupsOk (x :: ys) = true then M.pure (minP x ys) else M.err) st) Q := F
        by_cases hc : tupsOk (x :: ys) = true
        · rw [if_pos hc] at F
          unfold tupsOk at hc
          rw [Bool.and_eq_true, Bool.and_eq_true, Bool.and_eq_true, decide_eq_true_eq] at hc
          obtain ⟨⟨⟨hp, hd⟩, ht⟩, ha⟩ := hc
          obtain ⟨its, rv, pl, hz⟩ := I.list h1
          obtain rfl := Vals.ref1 r
          have es : snaps st (x :: ys) = some (x :: ys) := snaps_pln _ hp
          obtain ⟨dA, pS⟩ := snaps_ok S1 h2 es
          obtain ⟨cs, r2⟩ := L2.Dp.readsAll I (toDs (x :: ys)) vs its dA rv
          have al : PySem.W.AlikeAll (toDs (x :: ys)) := by
            rw [toDs_map]
            refine ⟨fun a ha' b hb' => ?_, fun a ha' => ?_⟩
            · obtain ⟨a', h3, rfl⟩ := List.mem_map.mp ha'
              obtain ⟨b', h4, rfl⟩ := List.mem_map.mp hb'
              exact List.all_eq_true.mp (List.all_eq_true.mp ha a' h3) b' h4
            · obtain ⟨a', h3, rfl⟩ := List.mem_map.mp ha'
              have := List.all_eq_true.mp ht a' h3
              cases a' <;> first | (cases this; done) | (intro z; cases z)
          have un := c0.un
          have hl : its.toArray.size = ys.length + 1 := by
            have h3 := rv.length
            have h4 := Reps.length h2
            rw [List.size_toArray]
            rw [List.length_cons] at h4
            omega
          refine PySem.call_min_walkH (PySem.W.iter_listW (A := X.A.in1) (I.ok.hd c0.calm) pl.isList fun s₂ e W st2 hfp hw hk => ?_)
          refine ⟨_, _, _, _, _, _, _, s.heap, _, rfl, W, st2, hfp, by omega, hw, hk, PySem.W.cmpIn_lt (A := X.A.in1) (vs := its.toArray) r2 al (by rw [deps_toD _ pS]; show X.A.units + 1 + _ < _; omega), fun u s3 hP mv => ?_⟩
          obtain ⟨h', tk, rfl, hk'⟩ := PySem.W.moved_old e rfl mv
          have ei : (fun i j => PySem.W.dataLt ((toDs (x :: ys)).getD i .none) ((toDs (x :: ys)).getD j .none)) = fun i j => PySem.W.dataLt (toD ((x :: ys).getD i .non)) (toD ((x :: ys).getD j .non)) := by
            funext i j
            rw [toDs_getD, toDs_getD]
          have en : its.toArray.size - 1 = ys.length := by omega
          rw [ei, en] at hP
          have eb := argB_fold ys x
          generalize argBest (fun i j => PySem.W.dataLt (toD ((x :: ys).getD i .non)) (toD ((x :: ys).getD j .non))) ys.length = k at hP eb
          have hk1 : its[k]? = some u := by
            have hP : its.toArray[k]? = some u := hP
            rw [List.getElem?_toArray] at hP
            exact hP
          have kl : k < (x :: ys).length := by
            have := (List.getElem?_eq_some_iff.mp hk1).1
            rw [List.size_toArray] at hl
            rw [List.length_cons]
            omega
          have hk2 : (x :: ys)[k]? = some (minP x ys) := by
            rw [List.getElem?_eq_getElem kl, ← eb, List.getD_eq_getElem?_getD, List.getElem?_eq_getElem kl]
            rfl
          obtain ⟨w, ew, rw'⟩ := h2.get hk2
          have ru : RelV w u := by
            obtain ⟨u', e1, e2⟩ := L2.Vals.get rv ew
            rw [hk1] at e1
            cases e1
            exact e2
          exact ⟨w, H, I.kept hk', ru, FinG.done (p := minP x ys) F S1 rw'⟩
        · rw [if_neg hc] at F; exact False.elim F
theorem bi_val (c0 : CxOk X) : ∀ (b : Bi) (f : Value), fnOf b = some f → CallR X f (rdL X.K (biM b))
  | .repr, _, e => by cases e; exact repr_ok c0
  | .abs, _, e => by
    cases e
    intro pins s σ H xs us Q I r h
    obtain ⟨m, st, ps, S1, rr, F⟩ := h
    match ps, F, rr with
    | [.int i], F, rr =>
      obtain ⟨v, rfl, rp⟩ := rr.one
      cases rp
      exact call_abs pins s σ H _ us Q I r ⟨i, rfl, FinG.done (p := PV.int _) F S1 (Rep.int _)⟩
  | .int, _, e => by
    cases e
    intro pins s σ H xs us Q I r h
    obtain ⟨m, st, ps, S1, rr, F⟩ := h
    match ps, F, rr with
    | [.int i], F, rr =>
      obtain ⟨v, rfl, rp⟩ := rr.one
      cases rp
      exact call_int1 pins s σ H _ us Q I r (.inl ⟨i, rfl, FinG.done (p := PV.int _) F S1 (Rep.int _)⟩)
    | [.bl i], F, rr =>
      obtain ⟨v, rfl, rp⟩ := rr.one
      cases rp
      exact call_int1 pins s σ H _ us Q I r (.inr ⟨i, rfl, FinG.done (p := PV.int _) F S1 (Rep.int _)⟩)
  | .ord, _, e => by
    cases e
    intro pins s σ H xs us Q I r h
    obtain ⟨m, st, ps, S1, rr, F⟩ := h
    match ps, F, rr with
    | [.str [c]], F, rr =>
      obtain ⟨v, rfl, rp⟩ := rr.one
      cases rp
      exact call_ord pins s σ H _ us Q I r ⟨S [c], rfl, rfl, FinG.done (p := PV.int _) F S1 (Rep.int _)⟩
  | .max2, _, e => by
    cases e
    intro pins s σ H xs us Q I r h
    obtain ⟨m, st, ps, S1, rr, F⟩ := h
    match ps, F, rr with
    | [.int i, .int j], F, rr =>
      obtain ⟨v, w, rfl, rp, rq⟩ := rr.two
      cases rp; cases rq
      exact call_max2 c0.calm pins s σ H _ us Q I r ⟨i, j, rfl, FinG.done (p := PV.int _) F S1 (Rep.int _)⟩
  | .min2, _, e => by
    cases e
    intro pins s σ H xs us Q I r h
    obtain ⟨m, st, ps, S1, rr, F⟩ := h
    match ps, F, rr with
    | [.int i, .int j], F, rr =>
      obtain ⟨v, w, rfl, rp, rq⟩ := rr.two
      cases rp; cases rq
      exact call_min2 c0.calm pins s σ H _ us Q I r ⟨i, j, rfl, FinG.done (p := PV.int _) F S1 (Rep.int _)⟩
  | .len, _, e => by
    cases e
    intro pins s σ H xs us Q I r h
    obtain ⟨m, st, ps, S1, rr, F⟩ := h
    match ps, F, rr with
    | [.str t], F, rr =>
      obtain ⟨v, rfl, rp⟩ := rr.one
      obtain ⟨hl, F⟩ := ite_fin (r := R.ok (PV.int t.length) st) F
      cases rp
      refine call_len_str pins s σ H _ us Q I r ⟨S t, rfl, by rw [S_len]; exact hl, ?_⟩
      rw [S_len]
      exact F.done S1 (Rep.int _)
    | [.tup t], F, rr =>
      obtain ⟨v, rfl, rp⟩ := rr.one
      cases rp with
      | tup h1 h2 =>
        refine call_len_seq pins s σ H _ us Q I r ⟨_, _, rfl, .inr h1.sq, ?_⟩
        rw [Reps.length h2]
        exact FinG.done (p := PV.int t.length) F S1 (Rep.int _)
    | [.loc l], F, rr =>
      obtain ⟨v, rfl, rp⟩ := rr.one
      exact bi_seq c0 .len _ rfl pins s σ H _ us Q I r (of_lst S1 rp F)
  | .tuple, _, e => by
    cases e
    intro pins s σ H xs us Q I r h
    obtain ⟨m, st, ps, S1, rr, F⟩ := h
    match ps, F, rr with
    | [.tup t], F, rr =>
      obtain ⟨v, rfl, rp⟩ := rr.one
      cases rp with
      | tup h1 h2 => exact call_tupleD pins s σ H _ us Q I r ⟨_, _, rfl, .inr ⟨h1.sq, FinG.done (p := PV.tup t) F S1 (Rep.tup h1 h2)⟩⟩
    | [.loc l], F, rr =>
      obtain ⟨v, rfl, rp⟩ := rr.one
      exact bi_seq c0 .tuple _ rfl pins s σ H _ us Q I r (of_lst S1 rp F)
  | .list, _, e => by
    cases e
    intro pins s σ H xs us Q I r h
    obtain ⟨m, st, ps, S1, rr, F⟩ := h
    match ps, F, rr with
    | [.tup t], F, rr =>
      obtain ⟨v, rfl, rp⟩ := rr.one
      obtain ⟨_, F⟩ := newLst_fin (xs := t) F
      cases rp with
      | tup h1 h2 => exact call_list_of pins s σ H _ us Q I r ⟨_, _, rfl, .inr h1.sq, fun l hl => F _ _ S1 h2 hl⟩
    | [.loc l], F, rr =>
      obtain ⟨v, rfl, rp⟩ := rr.one
      exact bi_seq c0 .list _ rfl pins s σ H _ us Q I r (of_lst S1 rp F)
  | .sum, _, e => by
    cases e
    intro pins s σ H xs us Q I r h
    obtain ⟨m, st, ps, S1, rr, F⟩ := h
    match ps, F, rr with
    | [.loc l], F, rr =>
      obtain ⟨v, rfl, rp⟩ := rr.one
      exact bi_seq c0 .sum _ rfl pins s σ H _ us Q I r (of_lst S1 rp F)
  | .maxL, _, e => by
    cases e
    intro pins s σ H xs us Q I r h
    obtain ⟨m, st, ps, S1, rr, F⟩ := h
    match ps, F, rr with
    | [.loc l], F, rr =>
      obtain ⟨v, rfl, rp⟩ := rr.one
      exact bi_seq c0 .maxL _ rfl pins s σ H _ us Q I r (of_lst S1 rp F)
  | .minL, _, e => by
    cases e
    intro pins s σ H xs us Q I r h
    obtain ⟨m, st, ps, S1, rr, F⟩ := h
    match ps, F, rr with
    | [.loc l], F, rr =>
      obtain ⟨v, rfl, rp⟩ := rr.one
      exact bi_seq c0 .minL _ rfl pins s σ H _ us Q I r (of_lst S1 rp F)
  | .all, _, e => by
    cases e
    intro pins s σ H xs us Q I r h
    obtain ⟨m, st, ps, S1, rr, F⟩ := h
    match ps, F, rr with
    | [.loc l], F, rr =>
      obtain ⟨v, rfl, rp⟩ := rr.one
      exact bi_seq c0 .all _ rfl pins s σ H _ us Q I r (of_lst S1 rp F)
  | .any, _, e => by
    cases e
    intro pins s σ H xs us Q I r h
    obtain ⟨m, st, ps, S1, rr, F⟩ := h
    match ps, F, rr with
    | [.loc l], F, rr =>
      obtain ⟨v, rfl, rp⟩ := rr.one
      exact bi_seq c0 .any _ rfl pins s σ H _ us Q I r (of_lst S1 rp F)
  | .sorted, _, e => by
    cases e
    intro pins s σ H xs us Q I r h
    obtain ⟨m, st, ps, S1, rr, F⟩ := h
    match ps, F, rr with
    | [.str t], F, rr =>
      obtain ⟨v, rfl, rp⟩ := rr.one
      obtain ⟨hl, F⟩ := newLst_fin (xs := chars (srtN t)) F
      cases rp with
      | str _ ok =>
        refine cr_srt c0.calm pins s σ H _ us Q I r ⟨t, rfl, by simpa [chars, srtN_len] using hl, fun q hq => F _ q S1 (reps_sgn _ (fun c hc => ok c ((srtN_perm t).mem_iff.mp hc))) hq⟩
  | .isinst _, _, e => by cases e
  | .minT, _, e => by cases e; exact cr_minT c0
  | .dictC, _, e => by cases e; exact cr_dictC
end
end Dp


set_option Elab.async false
set_option linter.all false
set_option maxRecDepth 100000
set_option maxHeartbeats 4000000
set_option autoImplicit false
/-! DpMt: methods of lists, tuples, texts. -/
namespace Dp
open PySem L2

def mtNm : Mt → String
  | .append => "append" | .pop0 => "pop" | .pop => "pop" | .index => "index" | .count => "count" | .extend => "extend" | .join => "join" | .get => "get" | .get2 => "get" | .starts => "startswith"
section
variable {X : Cx}
/-- a rule of a method at a receiver of the type -/
def MtW (X : Cx) (id : String) (m : Mt) (T : String) : Prop :=
  ∀ (pins : List (Addr × Obj)) (s : Shared) (σ : L2.St) (H : Hp) (x : V) (xs : List V) (v : Value) (us : List Value) (Q : VK) (μ : Pl) (st : Sto) (p : PV) (ps : List PV), L2.Inv X pins σ H s → RelV x v → Vals xs us →
    SRep X.K μ H st → Rep X.K μ st.nxt H x p → Reps X.K μ st.nxt H xs ps → FinG X.K (Rep X.K) μ st H (mtM m p ps st) Q → (∃ st0, mtT m p st0 = some T) →
    wpAny (model X.prog X.w) X.A (call (.builtin id) (v :: us)) (EP X pins σ Q) X.xe s
theorem nonR {K : PySem.W.Frag} {m : Pl} {n : Nat} {H : Hp} : Rep K m n H .non .non := .non
/-- a list of the store -/
theorem lst_of {K : PySem.W.Frag} {μ : Pl} {st : Sto} {H : Hp} {l : Nat} (S1 : SRep K μ H st) {f : List PV → R PV} {Q : VK} (F : FinG K (Rep K) μ st H (match st.get l with | some (.lst xs) => f xs | _ => .err) Q) :
    ∃ xs vs, st.get l = some (.lst xs) ∧ H (μ l) = some (.lst vs) ∧ Reps K μ st.nxt H vs xs ∧ FinG K (Rep K) μ st H (f xs) Q := by
  cases e : st.get l with
  | none => rw [e] at F; exact False.elim F
  | some o =>
    rw [e] at F
    cases o with
    | lst xs =>
      obtain ⟨_, vs, h1, h2⟩ := S1.ob l _ e
      exact ⟨xs, vs, rfl, h1, h2, F⟩
    | frz xs => exact False.elim F
    | dic xs => exact False.elim F
    | dit xs => exact False.elim F
theorem seen_of {K : PySem.W.Frag} {μ : Pl} {st : Sto} {H : Hp} {l : Nat} (S1 : SRep K μ H st) {f : List PV → R PV} {Q : VK} (F : FinG K (Rep K) μ st H (match st.lstAt l with | some xs => f xs | none => .err) Q) :
    ∃ xs vs, SqL K H (μ l) vs ∧ Reps K μ st.nxt H vs xs ∧ FinG K (Rep K) μ st H (f xs) Q := by
  cases e : st.lstAt l with
  | none => rw [e] at F; exact False.elim F
  | some xs =>
    rw [e] at F
    obtain ⟨vs, h1, h2⟩ := S1.at e
    exact ⟨xs, vs, h1, h2, F⟩
theorem set_fin {K : PySem.W.Frag} {μ : Pl} {st : Sto} {H : Hp} {l : Nat} {xs ys : List PV} {vs : List V} {p : PV} {v : V} {Q : VK} (S1 : SRep K μ H st) (e : st.get l = some (.lst xs)) (r : Reps K μ st.nxt H vs ys) (rv : Rep K μ st.nxt H v p)
    (F : FinG K (Rep K) μ st H (.ok p (st.set l (.lst ys))) Q) : Q v (upd H (μ l) (.lst vs)) :=
  F _ _ μ (Step.setL S1 e) (SRep.setL S1 e r) (Rep.step S1 (Step.setL S1 e) p v rv)
theorem w_append : MtW X "list.append" .append "list" := by
  intro pins s σ H x xs v us Q μ st p ps I rx rs S1 rp rr F _
  match p, ps, F, rp, rr with
  | .loc l, [y], F, rp, rr =>
    obtain ⟨ys, vs, e, h1, h2, F⟩ := lst_of S1 F
    obtain ⟨hl, F⟩ := ite_fin F
    obtain ⟨w, rfl, ry⟩ := rr.one
    cases rp
    exact mt_append pins s σ H _ _ v us Q I rx rs ⟨_, vs, w, rfl, rfl, h1, by rw [Reps.length h2, sizeLine_eq]; exact hl, set_fin S1 e (h2.append (.cons ry .nil)) .non F⟩
theorem w_extend : MtW X "list.extend" .extend "list" := by
  intro pins s σ H x xs v us Q μ st p ps I rx rs S1 rp rr F _
  match p, ps, F, rp, rr with
  | .loc l, [.loc k], F, rp, rr =>
    have F : FinG X.K (Rep X.K) μ st H (match st.get l, st.get k with
      | some (.lst xs), some (.lst ys) => if xs.length + ys.length ≤ 16777216 then .ok .non (st.set l (.lst (xs ++ ys))) else .err
      | _, _ => .err) Q := F
    cases e1 : st.get l with
    | none => rw [e1] at F; exact False.elim F
    | some o1 =>
      cases e2 : st.get k with
      | none => rw [e1, e2] at F; cases o1 <;> exact False.elim F
      | some o2 =>
        rw [e1, e2] at F
        cases o1 <;> cases o2 <;> first | exact False.elim F | skip
        case lst.lst a b =>
          obtain ⟨hl, F⟩ := ite_fin (r := R.ok PV.non (st.set l (.lst (a ++ b)))) F
          obtain ⟨_, vs, h1, r1⟩ := S1.ob l _ e1
          obtain ⟨_, ws, h2, r2⟩ := S1.ob k _ e2
          obtain ⟨w, rfl, ry⟩ := rr.one
          cases rp; cases ry
          exact mt_extend pins s σ H _ _ v us Q I rx rs ⟨_, _, vs, ws, rfl, rfl, h1, h2, by rw [Reps.length r1, Reps.length r2]; exact hl, set_fin S1 e1 (r1.append r2) .non F⟩
theorem w_pop0 : MtW X "list.pop" .pop0 "list" := by
  intro pins s σ H x xs v us Q μ st p ps I rx rs S1 rp rr F _
  match p, ps, F, rp, rr with
  | .loc l, [], F, rp, rr =>
    obtain ⟨ys, vs, e, h1, h2, F⟩ := lst_of S1 F
    cases rr
    cases q : ys.getLast? with
    | none => simp only [q] at F; exact False.elim F
    | some z =>
      simp only [q] at F
      cases rp
      rw [List.getLast?_eq_getElem?] at q
      obtain ⟨w, h3, h4⟩ := h2.get q
      refine mt_pop pins s σ H _ _ v us Q I rx rs ⟨_, vs, w, rfl, rfl, h1, by rw [Reps.length h2]; exact h3, ?_⟩
      refine set_fin S1 e ?_ h4 F
      rw [List.dropLast_eq_take, List.dropLast_eq_take, Reps.length h2]
      exact h2.take _
theorem seqIx {n : Nat} {i : Int} {j : Nat} (h : ixOf n i = some j) : seqIndex? i n = some j ∧ j < n ∧ -(n : Int) ≤ i ∧ i < n := L2.ixN_seq (ixN_of h)
theorem w_pop : MtW X "list.pop" .pop "list" := by
  intro pins s σ H x xs v us Q μ st p ps I rx rs S1 rp rr F _
  match p, ps, F, rp, rr with
  | .loc l, [.int i], F, rp, rr =>
    obtain ⟨ys, vs, e, h1, h2, F⟩ := lst_of S1 F
    cases q : ixOf ys.length i with
    | none => simp only [q] at F; exact False.elim F
    | some j =>
      simp only [q] at F
      cases q2 : ys[j]? with
      | none => simp only [q2] at F; exact False.elim F
      | some z =>
        simp only [q2] at F
        obtain ⟨w, rfl, ry⟩ := rr.one
        cases rp; cases ry
        obtain ⟨g1, g2, g3, g4⟩ := seqIx q
        obtain ⟨w, h3, h4⟩ := h2.get q2
        obtain ⟨hz, _⟩ := I.lstM h1
        have hn := line63
        have hl := Reps.length h2
        exact mt_popAt pins s σ H _ _ v us Q I rx rs ⟨_, vs, i, j, w, rfl, rfl, h1, by omega, by omega, by rw [hl]; exact g1, h3, set_fin S1 e (h2.eraseIdx j) h4 F⟩
theorem cnt_arr {its : List Value} {f : Value → PyData} {g : PyData → Bool} {ds : List PyData} (h : its.map f = ds) : its.countP (fun y => g (f y)) = ds.countP g := by
  rw [← h, List.countP_map]
  rfl
theorem find_arr {its : List Value} {f : Value → PyData} {g : PyData → Bool} {ds : List PyData} {j : Nat} (h : its.map f = ds) (e : ds.findIdx? g = some j) :
    ∃ hj : j < its.length, g (f its[j]) = true ∧ ∀ m (hm : m < its.length), m < j → g (f its[m]) = false := by
  subst h
  obtain ⟨h1, h2, h3⟩ := List.findIdx?_eq_some_iff_getElem.mp e
  have hl : (its.map f).length = its.length := List.length_map ..
  refine ⟨by omega, by simpa using h2, fun m hm hmj => ?_⟩
  have := h3 m hmj
  simpa using this
theorem w_count (c0 : CxOk X) : (MtW X "list.count" .count "list") ∧ MtW X "tuple.count" .count "tuple" := by
  constructor
  · intro pins s σ H x xs v us Q μ st p ps I rx rs S1 rp rr F ht
    obtain ⟨st0, ht⟩ := ht
    match p, ps, F, rp, rr with
    | .tup l, [y], F, rp, rr => exact absurd (Option.some.inj (show some "tuple" = some "list" from ht)) (by decide)
    | .loc l, [y], F, rp, rr =>
      obtain ⟨ys, vs, h1, h2, F⟩ := seen_of S1 F
      obtain ⟨n, s', e, F⟩ := fin_bind F
      obtain ⟨w, rfl, ry⟩ := rr.one
      obtain ⟨rfl, a, bs, d1, d2, p1, p2, k1, k2, h3⟩ := seek_val S1 ry h2 e
      cases h3
      cases rp; cases rx
      obtain ⟨u, rfl, ru⟩ := vals1 rs
      obtain ⟨its, r, ⟨⟨cls, dd, data, sl⟩, n, ho, hc, hdn, hdt⟩, hz⟩ := I.list h1
      simp only at hc hdt
      subst hc hdt
      obtain ⟨g1, g2⟩ := items_at I c0.un ru r d1 d2 p1 p2 k1
      refine call_meets PySem.F.slot_list_count ⟨_, ho, rfl⟩ PySem.F.entry_list_count (PySem.F.args_list_count_2 _ _) (SeqAt.list_countAt _ its.toArray n dd sl u _) ⟨ho, g1, ?_⟩
      refine ⟨.int _, H, I.tok _, ⟨_, rfl⟩, ?_⟩
      rw [show its.toArray.toList = its from rfl, cnt_arr (g := fun d => PyData.eqv d (toD a)) g2, cnt_toDs p1 bs p2]
      exact F.done S1 (Rep.int _)
  · intro pins s σ H x xs v us Q μ st p ps I rx rs S1 rp rr F ht
    obtain ⟨st0, ht⟩ := ht
    match p, ps, F, rp, rr with
    | .loc l, [y], F, rp, rr =>
      exfalso
      have ht : (match st0.lstAt l with | some _ => some "list" | none => none) = some "tuple" := ht
      cases q : st0.lstAt l with
      | none => rw [q] at ht; cases ht
      | some z => rw [q] at ht; exact absurd (Option.some.inj ht) (by decide)
    | .tup l, [y], F, rp, rr =>
      cases rp with
      | tup h1 h2 =>
        obtain ⟨n, s', e, F⟩ := fin_bind (g := seekM cntEq y l) (f := fun (n : Nat) => M.pure (PV.int n)) F
        obtain ⟨w, rfl, ry⟩ := rr.one
        obtain ⟨rfl, a, bs, d1, d2, p1, p2, k1, k2, h3⟩ := seek_val S1 ry h2 e
        cases h3
        cases rx
        obtain ⟨u, rfl, ru⟩ := vals1 rs
        obtain ⟨its, r, ⟨⟨cls, dd, data, sl⟩, ho, hc, n, hd⟩, hz⟩ := I.tuple h1.sq
        simp only at hc hd
        subst hc hd
        obtain ⟨g1, g2⟩ := items_at I c0.un ru r d1 d2 p1 p2 k1
        refine call_meets PySem.F.slot_tuple_count ⟨_, ho, rfl⟩ PySem.F.entry_tuple_count (PySem.F.args_tuple_count_2 _ _) (SeqAt.tuple_countAt _ its.toArray n dd sl u _) ⟨ho, g1, ?_⟩
        refine ⟨.int _, H, I.tok _, ⟨_, rfl⟩, ?_⟩
        rw [show its.toArray.toList = its from rfl, cnt_arr (g := fun d => PyData.eqv d (toD a)) g2, cnt_toDs p1 bs p2]
        exact F.done S1 (Rep.int _)
theorem w_index (c0 : CxOk X) : (MtW X "list.index" .index "list") ∧ MtW X "tuple.index" .index "tuple" := by
  constructor
  · intro pins s σ H x xs v us Q μ st p ps I rx rs S1 rp rr F ht
    obtain ⟨st0, ht⟩ := ht
    match p, ps, F, rp, rr with
    | .tup l, [y], F, rp, rr => exact absurd (Option.some.inj (show some "tuple" = some "list" from ht)) (by decide)
    | .str l, _, F, rp, rr => exact absurd (Option.some.inj (show some "str" = some "list" from ht)) (by decide)
    | .loc l, [y], F, rp, rr =>
      obtain ⟨ys, vs, h1, h2, F⟩ := seen_of S1 F
      obtain ⟨j, s', e, F⟩ := fin_bind F
      obtain ⟨w, rfl, ry⟩ := rr.one
      obtain ⟨rfl, a, bs, d1, d2, p1, p2, k1, k2, h3⟩ := seek_val S1 ry h2 e
      cases rp; cases rx
      obtain ⟨u, rfl, ru⟩ := vals1 rs
      obtain ⟨its, r, ⟨⟨cls, dd, data, sl⟩, n, ho, hc, hdn, hdt⟩, hz⟩ := I.list h1
      simp only at hc hdt
      subst hc hdt
      obtain ⟨g1, g2⟩ := items_at I c0.un ru r d1 d2 p1 p2 k1
      have h3 : (toDs bs).findIdx? (fun z => PyData.eqv z (toD a)) = some j := by rw [find_toDs p1 bs p2]; exact h3
      obtain ⟨hj, f1, f2⟩ := find_arr (g := fun d => PyData.eqv d (toD a)) g2 h3
      have hlen := r.length
      have hn := line63
      have hj' : j < its.toArray.size := by simpa using hj
      refine call_meets PySem.F.slot_list_index ⟨_, ho, rfl⟩ PySem.F.entry_list_index (PySem.F.args_list_index_2 _ _)
        (SeqAt.list_indexAt _ its.toArray n dd sl u (fun y => PyData.eqv (SeqAt.readOf s.heap y) (toD a)) j hj' (by rw [sizeLine_eq] at hz; omega) (by simpa using f1) (fun m hm hmj => by simpa using f2 m (by simpa using hm) hmj)) ⟨ho, g1, ?_⟩
      exact ⟨.int _, H, I.tok _, ⟨_, rfl⟩, F.done S1 (Rep.int _)⟩
  · intro pins s σ H x xs v us Q μ st p ps I rx rs S1 rp rr F ht
    obtain ⟨st0, ht⟩ := ht
    match p, ps, F, rp, rr with
    | .str l, _, F, rp, rr => exact absurd (Option.some.inj (show some "str" = some "tuple" from ht)) (by decide)
    | .loc l, [y], F, rp, rr =>
      exfalso
      have ht : (match st0.lstAt l with | some _ => some "list" | none => none) = some "tuple" := ht
      cases q : st0.lstAt l with
      | none => rw [q] at ht; cases ht
      | some z => rw [q] at ht; exact absurd (Option.some.inj ht) (by decide)
    | .tup l, [y], F, rp, rr =>
      cases rp with
      | tup h1 h2 =>
        obtain ⟨j, s', e, F⟩ := fin_bind (g := seekM firstEq y l) (f := fun (n : Nat) => M.pure (PV.int n)) F
        obtain ⟨w, rfl, ry⟩ := rr.one
        obtain ⟨rfl, a, bs, d1, d2, p1, p2, k1, k2, h3⟩ := seek_val S1 ry h2 e
        cases rx
        obtain ⟨u, rfl, ru⟩ := vals1 rs
        obtain ⟨its, r, ⟨⟨cls, dd, data, sl⟩, ho, hc, n, hd⟩, hz⟩ := I.tuple h1.sq
        simp only at hc hd
        subst hc hd
        obtain ⟨g1, g2⟩ := items_at I c0.un ru r d1 d2 p1 p2 k1
        have h3 : (toDs bs).findIdx? (fun z => PyData.eqv z (toD a)) = some j := by rw [find_toDs p1 bs p2]; exact h3
        obtain ⟨hj, f1, f2⟩ := find_arr (g := fun d => PyData.eqv d (toD a)) g2 h3
        have hj' : j < its.toArray.size := by simpa using hj
        refine call_meets PySem.F.slot_tuple_index ⟨_, ho, rfl⟩ PySem.F.entry_tuple_index (PySem.F.args_tuple_index_2 _ _)
          (TI.tuple_indexAt _ its.toArray n dd sl u (fun y => PyData.eqv (SeqAt.readOf s.heap y) (toD a)) j hj' (by simpa using f1) (fun m hm hmj => by simpa using f2 m (by simpa using hm) hmj)) ⟨ho, g1, ?_⟩
        exact ⟨.int _, H, I.tok _, ⟨_, rfl⟩, F.done S1 (Rep.int _)⟩
theorem at_sign {t : List Nat} {c i : Nat} : StrLaws.At (S t) (S [c]) (S t).length i ↔ t[i]? = some c := by
  have e1 : (S [c]).length = 1 := rfl
  constructor
  · rintro ⟨h1, h2⟩
    rw [e1, S_len] at h1
    have h3 : ((t.toArray.extract i (i + 1)) == #[c]) = true := h2
    have h4 := congrArg Array.toList (beq_iff_eq.mp h3)
    rw [Array.toList_extract] at h4
    have h4 : (t.take (i + 1)).drop i = [c] := by simpa [List.extract_eq_drop_take, List.drop_take] using h4
    have h5 : ((t.take (i + 1)).drop i)[0]? = some c := by rw [h4]; rfl
    rw [List.getElem?_drop, List.getElem?_take, if_pos (by omega)] at h5
    simpa using h5
  · intro h
    have hi := (List.getElem?_eq_some_iff.mp h).1
    refine ⟨by rw [e1, S_len]; omega, ?_⟩
    show ((t.toArray.extract i (i + 1)) == #[c]) = true
    rw [beq_iff_eq]
    apply Array.toList_inj.mp
    rw [Array.toList_extract]
    have : (t.take (i + 1)).drop i = [c] := by
      rw [List.take_add_one, h, List.drop_append_of_le_length (by rw [List.length_take]; omega), List.drop_eq_nil_of_le (by rw [List.length_take]; omega)]
      rfl
    simpa [List.extract_eq_drop_take, List.drop_take] using this
theorem occ_sign {t : List Nat} {c j : Nat} (h : (t.findIdx? fun x => x == c) = some j) : ∃ r, Builtin.Str.occurrences (S t) (S [c]) 0 (S t).length 1 = j :: r := by
  obtain ⟨hj, h1, h2⟩ := List.findIdx?_eq_some_iff_getElem.mp h
  have a1 : t[j]? = some c := by rw [List.getElem?_eq_getElem hj]; rw [beq_iff_eq.mp h1]
  rcases StrLaws.occ_head (S t) (S [c]) 1 (Nat.le_refl _) with ⟨_, z⟩ | ⟨i, r, e, hi, hm⟩
  · exact absurd (at_sign.mpr a1) (z j)
  · have b1 := at_sign.mp hi
    have hil := (List.getElem?_eq_some_iff.mp b1).1
    have : i = j := by
      refine Nat.le_antisymm ?_ ?_
      · refine Classical.byContradiction fun w => hm j (by omega) (at_sign.mpr a1)
      · refine Classical.byContradiction fun w => ?_
        have := h2 i (by omega)
        rw [List.getElem?_eq_getElem hil] at b1
        injection b1 with b1
        rw [b1] at this
        simp at this
    exact ⟨r, by rw [e, this]⟩
theorem w_sindex : MtW X "str.index" .index "str" := by
  intro pins s σ H x xs v us Q μ st p ps I rx rs S1 rp rr F ht
  obtain ⟨st0, ht⟩ := ht
  match p, ps, F, rp, rr with
  | .tup l, [y], F, rp, rr => exact absurd (Option.some.inj (show some "tuple" = some "str" from ht)) (by decide)
  | .loc l, [y], F, rp, rr =>
    exfalso
    have ht : (match st0.lstAt l with | some _ => some "list" | none => none) = some "str" := ht
    cases q : st0.lstAt l with
    | none => rw [q] at ht; cases ht
    | some z => rw [q] at ht; exact absurd (Option.some.inj ht) (by decide)
  | .str t, [.str u], F, rp, rr =>
    obtain ⟨w, rfl, ry⟩ := rr.one
    match u, F, ry with
    | [c], F, ry =>
      have F : FinG X.K (Rep X.K) μ st H (match t.findIdx? fun x => x == c with | some j => R.ok (PV.int (j : Nat)) st | none => .err) Q := F
      cases e : t.findIdx? fun x => x == c with
      | none => rw [e] at F; exact False.elim F
      | some j =>
        rw [e] at F
        obtain ⟨r, ho⟩ := occ_sign e
        cases rp with
        | str _ _ =>
          cases ry with
          | str _ _ =>
            exact mt_sindex pins s σ H _ _ v us Q I rx rs ⟨S t, S [c], j, r, rfl, rfl, ho, F.done S1 (Rep.int _)⟩
theorem subat_pre {t u : List Nat} : Txt.startswith (S t) (S u) = u.isPrefixOf t := by
  have e : (u.isPrefixOf t) = decide (u <+: t) := by
    by_cases h : u <+: t
    · rw [decide_eq_true h]; exact List.isPrefixOf_iff_prefix.mpr h
    · rw [decide_eq_false h]
      cases q : u.isPrefixOf t with
      | false => rfl
      | true => exact absurd (List.isPrefixOf_iff_prefix.mp q) h
  rw [e]
  have hx : (Txt.startswith (S t) (S u) = true) ↔ u <+: t := by
    show ((decide (0 + (S u).length ≤ (S t).length)) && ((t.toArray.extract 0 (0 + (S u).length)) == u.toArray)) = true ↔ _
    rw [Bool.and_eq_true, decide_eq_true_eq, beq_iff_eq, S_len, S_len, Nat.zero_add]
    constructor
    · rintro ⟨h1, h2⟩
      have h3 := congrArg Array.toList h2
      rw [Array.toList_extract] at h3
      have h3 : t.take u.length = u := by simpa [List.extract_eq_drop_take] using h3
      rw [← h3]
      exact List.take_prefix _ _
    · rintro ⟨r, rfl⟩
      refine ⟨by rw [List.length_append]; omega, ?_⟩
      apply Array.toList_inj.mp
      rw [Array.toList_extract]
      simp [List.extract_eq_drop_take]
  by_cases h : u <+: t
  · rw [decide_eq_true h]; exact hx.mpr h
  · rw [decide_eq_false h]
    cases q : Txt.startswith (S t) (S u) with
    | false => rfl
    | true => exact absurd (hx.mp q) h
theorem w_starts : MtW X "str.startswith" .starts "str" := by
  intro pins s σ H x xs v us Q μ st p ps I rx rs S1 rp rr F ht
  match p, ps, F, rp, rr with
  | .str t, [.str u], F, rp, rr =>
    obtain ⟨w, rfl, ry⟩ := rr.one
    cases rp with
    | str _ _ =>
      cases ry with
      | str _ _ =>
        have F : FinG X.K (Rep X.K) μ st H (.ok (.bl (u.isPrefixOf t)) st) Q := F
        exact mt_startswith pins s σ H _ _ v us Q I rx rs ⟨S t, S u, rfl, rfl, by rw [subat_pre]; exact F.done S1 (Rep.bl _)⟩
theorem S_join (z : List Nat) : ∀ ss : List (List Nat), Str.join (S z) (ss.map S) = S (joinL z ss)
  | [] => rfl
  | [x] => rfl
  | x :: y :: r => by
    show S x ++ S z ++ Str.join (S z) ((y :: r).map S) = _
    rw [S_join z (y :: r), S_app, S_app, List.append_assoc]
    rfl
theorem join_ok {z : List Nat} (hz : sOk z) : ∀ ss : List (List Nat), (∀ s ∈ ss, sOk s) → sOk (joinL z ss)
  | [], _ => fun c h => by cases h
  | [x], h => h x (List.mem_singleton.mpr rfl)
  | x :: y :: r, h => (h x (List.mem_cons_self ..)).app (hz.app (join_ok hz (y :: r) fun s q => h s (List.mem_cons_of_mem _ q)))
/-- join, by its items: an own rule at an address -/
theorem join_at {pins : List (Addr × Obj)} {s : Shared} {σ : L2.St} {H : Hp} {z : PV} {xz : V} {v u : Value} {a : Addr} {Q : VK} {μ : Pl} {st : Sto} {vs : List V} {ps : List PV} (I : L2.Inv X pins σ H s) (rx : RelV xz v) (ru : u = .ref a) (S1 : SRep X.K μ H st) (rz : Rep X.K μ st.nxt H xz z)
    (hs : SqL X.K H a vs ∨ SqT X.K H a vs) (rr : Reps X.K μ st.nxt H vs ps) (F : FinG X.K (Rep X.K) μ st H (joinM z ps st) Q) :
    wpAny (model X.prog X.w) X.A (call (.builtin "str.join") (v :: [u])) (EP X pins σ Q) X.xe s := by
  subst ru
  unfold joinM at F
  cases z <;> first | exact False.elim F | skip
  case str z =>
    cases q : strsP ps with
    | none => simp only [q] at F; exact False.elim F
    | some ss =>
      simp only [q] at F
      obtain ⟨hl, F⟩ := ite_fin F
      obtain ⟨e, hok⟩ := strs_reps rr q
      cases rz with
      | str _ hz =>
        subst e
        refine mt_join pins s σ H _ [V.ref a] v _ Q I rx (.cons rfl .nil) ⟨S z, a, ss.map S, rfl, rfl, hs, ?_, ?_⟩
        · rw [List.length_map, S_len, List.map_map]
          rw [show ((fun x : Str => x.length) ∘ S) = List.length from funext fun s => S_len s]
          exact hl
        · have e2 : Txt.join (S z) (ss.map S) = S (joinL z ss) := (PySem.StrLaws.glued_eq_join (S z) (ss.map S)).trans (S_join z ss)
          rw [e2]
          exact F.done S1 (Rep.str _ (join_ok hz ss hok))
theorem w_join : MtW X "str.join" .join "str" := by
  intro pins s σ H x xs v us Q μ st p ps I rx rs S1 rp rr F _
  match ps, F, rr with
  | [.tup l], F, rr =>
    obtain ⟨w, rfl, ry⟩ := rr.one
    obtain ⟨u, rfl, ru⟩ := vals1 rs
    have F : FinG X.K (Rep X.K) μ st H (joinM p l st) Q := by cases p <;> first | exact F | exact False.elim F
    cases ry with
    | tup h1 h2 => exact join_at I rx ru S1 rp (.inr h1.sq) h2 F
  | [.loc l], F, rr =>
    obtain ⟨w, rfl, ry⟩ := rr.one
    obtain ⟨u, rfl, ru⟩ := vals1 rs
    have F : FinG X.K (Rep X.K) μ st H (match st.lstAt l with | some xs => joinM p xs st | none => .err) Q := by cases p <;> first | exact F | exact False.elim F
    obtain ⟨ys, vs, h1, h2, F⟩ := seen_of S1 F
    cases ry
    exact join_at I rx ru S1 rp (.inl h1) h2 F
end
end Dp


set_option Elab.async false
set_option linter.all false
set_option maxRecDepth 100000
set_option maxHeartbeats 4000000
set_option autoImplicit false
/-! DpZip: zip(v1, v2, strict=True), at the library's level: both end at once. -/
namespace Dp
open PySem
open PySem.Sem (wp)
abbrev IsZipS (h : Heap) (z TI TO : Addr) (f0 : Value) : Prop :=
  h.get? z = some { cls := .type "zip", dict := none, data := .fields #[f0, .bool false, .bool true, .ref TI, .ref TO], slots := #[] }
section
variable {prog : Program} {w : World} {A : Around} {E : Value → Shared → Prop} {s : Shared} {z TI TO i1 i2 : Addr} {fp1 fp2 : List Addr} {n1 n2 n i : Nat} {P1 P2 : Nat → Value → Prop} {St1 St2 : Nat → Heap → Prop} {a1 a2 : Value}

/-- nextOrEnd: an item -/
theorem noe_item {it : Addr} {fp : List Addr} {P : Nat → Value → Prop} {St : Nat → Heap → Prop} {Q : Option Value → Shared → Prop} (D : Draws prog w A it fp n P St) (hi : i < n) (st : St i s.heap)
    (hQ : ∀ x h' tk, P i x → St (i + 1) h' → Heap.SameBut it s.heap h' → Q (some x) { s with heap := h', toks := tk }) : wpAny (model prog w) A (Builtin.SmallTypes.nextOrEnd (.ref it)) Q E s := by
  unfold Builtin.SmallTypes.nextOrEnd
  exact wpAny_bind (wpAny_attempt (D.item i s _ _ hi st fun x h' tk a b c => wpAny_pure (hQ x h' tk a b c)))
/-- nextOrEnd: the end -/
theorem noe_end {it : Addr} {fp : List Addr} {P : Nat → Value → Prop} {St : Nat → Heap → Prop} {Q : Option Value → Shared → Prop} (D : Draws prog w A it fp n P St) (st : St n s.heap)
    (hQ : ∀ h', Heap.ExtBut it s.heap h' → Q none { s with heap := h' }) : wpAny (model prog w) A (Builtin.SmallTypes.nextOrEnd (.ref it)) Q E s := by
  unfold Builtin.SmallTypes.nextOrEnd
  refine wpAny_bind (wpAny_attempt (D.done s _ _ st fun h' e hk he => ?_))
  obtain ⟨o, ho, hc⟩ := he
  refine wpAny_bind (wpAny_isInstance (T := "StopIteration") (b := true) ⟨o, ho, hc⟩ isSubtype_stop ?_)
  exact wpAny_pure (hQ _ hk)

theorem zipS_next_item {Q : Value → Shared → Prop} (S : ZipSep2 z TI TO i1 i2 fp1 fp2) (D1 : Draws prog w A i1 fp1 n1 P1 St1) (D2 : Draws prog w A i2 fp2 n2 P2 St2)
    (hz : IsZipS s.heap z TI TO .none) (hTI : IsTupOf2 s.heap TI (.ref i1) (.ref i2)) (hTO : IsTupOf2 s.heap TO a1 a2) (st1 : St1 i s.heap) (st2 : St2 i s.heap) (hlt1 : i < n1) (hlt2 : i < n2)
    (hQ : ∀ x1 x2 h' tk, P1 i x1 → P2 i x2 → IsZipS h' z TI TO (rawInt s.heap.objs.size) → IsTupOf2 h' TO x1 x2 → St1 (i + 1) h' → St2 (i + 1) h' → IsTupOf2 h' s.heap.objs.size x1 x2 → h'.objs.size = s.heap.objs.size + 1 →
      (∀ c o, c ≠ z → c ≠ TO → c ≠ i1 → c ≠ i2 → s.heap.get? c = some o → h'.get? c = some o) → Q (.ref s.heap.objs.size) { s with heap := h', toks := tk }) :
    wpAny (model prog w) A (Builtin.«zip.__next__» ⟨[.ref z], []⟩) (fun fin s' => ∃ v, fin = .done (.ret v) ∧ Q v s') E s := by
  obtain ⟨hp, g, d, tk0, os⟩ := s
  show wpAny _ _ (field (.ref z) 2 >>= _) _ _ _
  refine wpAny_bind (wpAny_field hz rfl (x := .bool true) rfl ?_)
  show wpAny _ _ (field (.ref z) 3 >>= _) _ _ _
  refine wpAny_bind (wpAny_field hz rfl (x := .ref TI) rfl ?_)
  refine wpAny_bind (wpAny_seqItems hTI rfl ?_)
  show wpAny _ _ (Builtin.SmallTypes.ownedTupleIsFree (.ref z) >>= _) _ _ _
  refine wpAny_bind ?_
  unfold Builtin.SmallTypes.ownedTupleIsFree
  refine wpAny_bind (wpAny_field hz rfl (x := .none) rfl (wpAny_pure ?_))
  simp only [if_true]
  refine wpAny_bind (wpAny_rule ?_)
  refine wpAny_bind (wpAny_field hz rfl (x := .ref TO) rfl ?_)
  refine wpAny_bind (wpAny_setField_rec hz (by simp) fun g0 hz0 hs0 => ?_)
  replace hz0 : IsZipS g0 z TI TO .ellipsis := hz0
  replace hs0 : Heap.SameBut z hp g0 := hs0
  refine wpAny_bind ?_
  simp only [List.zipIdx_cons, List.zipIdx_nil, List.forIn_cons, List.forIn_nil]
  refine wpAny_bind (wpAny_bind (wpAny_onRaise ?_))
  show wpAny _ _ (Builtin.SmallTypes.nextOrEnd (.ref i1)) _ _ ⟨g0, g, d, tk0, os⟩
  refine noe_item D1 hlt1 (D1.over st1 hs0 S.zf1) fun x1 p1 tk1 hx1 sn1 hp1 => ?_
  replace hp1 : Heap.SameBut i1 g0 p1 := hp1
  have hU1 : IsTupOf2 p1 TO a1 a2 := hp1.extBut _ _ S.Ti1 (hs0.extBut _ _ S.TOz hTO)
  refine wpAny_bind (wpAny_seqItems (s := ⟨p1, g, d, tk1, os⟩) hU1 rfl ?_)
  refine wpAny_bind (updateSeq_IsTupOf2 (s := ⟨p1, g, d, tk1, os⟩) hU1 fun g1 hT1 hs1 => ?_)
  replace hT1 : IsTupOf2 g1 TO x1 a2 := hT1
  replace hs1 : Heap.SameBut TO p1 g1 := hs1
  refine wpAny_bind (wpAny_letGo (wpAny_pure ?_))
  refine wpAny_bind (wpAny_bind (wpAny_onRaise ?_))
  show wpAny _ _ (Builtin.SmallTypes.nextOrEnd (.ref i2)) _ _ ⟨g1, g, d, tk1, os⟩
  refine noe_item D2 hlt2 (D2.over (D2.over (D2.over st2 hs0 S.zf2) hp1 S.sep1_2) hs1 S.Tf2) fun x2 p2 tk2 hx2 sn2 hp2 => ?_
  replace hp2 : Heap.SameBut i2 g1 p2 := hp2
  have hU2 : IsTupOf2 p2 TO x1 a2 := hp2.extBut _ _ S.Ti2 hT1
  refine wpAny_bind (wpAny_seqItems (s := ⟨p2, g, d, tk2, os⟩) hU2 rfl ?_)
  refine wpAny_bind (updateSeq_IsTupOf2 (s := ⟨p2, g, d, tk2, os⟩) hU2 fun g2 hT2 hs2 => ?_)
  replace hT2 : IsTupOf2 g2 TO x1 x2 := hT2
  replace hs2 : Heap.SameBut TO p2 g2 := hs2
  refine wpAny_bind (wpAny_letGo (wpAny_pure (wpAny_pure ?_)))
  refine wpAny_bind (wpAny_seqItems (s := ⟨g2, g, d, tk2, os⟩) hT2 rfl ?_)
  refine wpAny_bind (wpAny_newTuple ?_)
  have hsz : g2.objs.size = hp.objs.size := by rw [hs2.1, hp2.1, hs1.1, hp1.1, hs0.1]
  have hzz : IsZipS g2 z TI TO .ellipsis := (hs2.extBut _ _ S.TOz.symm (hp2.extBut _ _ S.zi2 (hs1.extBut _ _ S.TOz.symm (hp1.extBut _ _ S.zi1 hz0))))
  have hkk : ∀ c o, c ≠ z → c ≠ TO → c ≠ i1 → c ≠ i2 → hp.get? c = some o → g2.get? c = some o := fun c o cz cT c1 c2 e =>
    (hs2.extBut _ _ cT (hp2.extBut _ _ c2 (hs1.extBut _ _ cT (hp1.extBut _ _ c1 (hs0.extBut _ _ cz e)))))
  have hj1 : St1 (i + 1) g2 := (D1.over (D1.over (D1.over sn1 hs1 S.Tf1) hp2 S.sep2_1) hs2 S.Tf1)
  have hj2 : St2 (i + 1) g2 := (D2.over sn2 hs2 S.Tf2)
  have hzlt : z < g2.objs.size := Heap.lt_size hzz
  show wpAny _ _ (Builtin.SmallTypes.ownedTupleHandOut (.ref z) (.ref g2.objs.size) >>= _) _ _ ⟨g2.push { cls := .type "tuple", data := .seq #[x1, x2] }, g, d, tk2, os⟩
  refine wpAny_bind ?_
  unfold Builtin.SmallTypes.ownedTupleHandOut
  have hz₆ : IsZipS (g2.push { cls := .type "tuple", data := .seq #[x1, x2] }) z TI TO .ellipsis := Heap.get?_push_of_some _ hzz
  refine wpAny_bind (wpAny_setField_rec hz₆ (by simp) fun h₇ hz₇ hs₇ => ?_)
  replace hz₇ : IsZipS h₇ z TI TO (rawInt g2.objs.size) := hz₇
  refine wpAny_setField_rec hz₇ (by simp) fun h₈ hz₈ hs₈ => ?_
  replace hz₈ : IsZipS h₈ z TI TO (rawInt g2.objs.size) := hz₈
  replace hs₇ : Heap.SameBut z (g2.push { cls := .type "tuple", data := .seq #[x1, x2] }) h₇ := hs₇
  replace hs₈ : Heap.SameBut z h₇ h₈ := hs₈
  have up : ∀ c o, c ≠ z → g2.get? c = some o → h₈.get? c = some o := fun c o c1 e => hs₈.extBut _ _ c1 (hs₇.extBut _ _ c1 (Heap.get?_push_of_some _ e))
  have hT₈ : IsTupOf2 h₈ g2.objs.size x1 x2 := hs₈.extBut _ _ (Nat.ne_of_gt hzlt) (hs₇.extBut _ _ (Nat.ne_of_gt hzlt) (Heap.get?_push_size _ rfl))
  have hz8 : h₈.objs.size = g2.objs.size + 1 := by rw [hs₈.1, hs₇.1, Heap.size_push]
  rw [hsz] at hz₈ hT₈ hz8
  refine wpAny_pure ⟨_, rfl, ?_⟩
  show Q (.ref g2.objs.size) ⟨h₈, g, d, tk2, os⟩
  rw [hsz]
  exact hQ x1 x2 h₈ tk2 hx1 hx2 hz₈ (up _ _ S.TOz hT2) (D1.frame _ _ _ hj1 fun b hb o e => up b o (fun q => S.zf1 (q ▸ hb)) e) (D2.frame _ _ _ hj2 fun b hb o e => up b o (fun q => S.zf2 (q ▸ hb)) e) hT₈ hz8 fun c o cz cT c1 c2 e => up c o cz (hkk c o cz cT c1 c2 e)

theorem zipS_next_end {Q : Fin → Shared → Prop} (hh : A.handled = none) (S : ZipSep2 z TI TO i1 i2 fp1 fp2) (D1 : Draws prog w A i1 fp1 n P1 St1) (D2 : Draws prog w A i2 fp2 n P2 St2)
    (hz : IsZipS s.heap z TI TO .none) (hTI : IsTupOf2 s.heap TI (.ref i1) (.ref i2)) (hTO : IsTupOf2 s.heap TO a1 a2) (st1 : St1 n s.heap) (st2 : St2 n s.heap) (sep : ∀ b ∈ fp2, b ≠ i1)
    (hE : ∀ h' tk e, (∀ c o, c ≠ z → c ≠ TO → c ≠ i1 → c ≠ i2 → s.heap.get? c = some o → h'.get? c = some o) → (∃ o, h'.get? e = some o ∧ o.cls = .type "StopIteration") → E (.ref e) { s with heap := h', toks := tk }) :
    wpAny (model prog w) A (Builtin.«zip.__next__» ⟨[.ref z], []⟩) Q E s := by
  obtain ⟨hp, g, d, tk0, os⟩ := s
  show wpAny _ _ (field (.ref z) 2 >>= _) _ _ _
  refine wpAny_bind (wpAny_field hz rfl (x := .bool true) rfl ?_)
  show wpAny _ _ (field (.ref z) 3 >>= _) _ _ _
  refine wpAny_bind (wpAny_field hz rfl (x := .ref TI) rfl ?_)
  refine wpAny_bind (wpAny_seqItems hTI rfl ?_)
  show wpAny _ _ (Builtin.SmallTypes.ownedTupleIsFree (.ref z) >>= _) _ _ _
  refine wpAny_bind ?_
  unfold Builtin.SmallTypes.ownedTupleIsFree
  refine wpAny_bind (wpAny_field hz rfl (x := .none) rfl (wpAny_pure ?_))
  simp only [if_true]
  refine wpAny_bind (wpAny_rule ?_)
  refine wpAny_bind (wpAny_field hz rfl (x := .ref TO) rfl ?_)
  refine wpAny_bind (wpAny_setField_rec hz (by simp) fun g0 hz0 hs0 => ?_)
  replace hz0 : IsZipS g0 z TI TO .ellipsis := hz0
  replace hs0 : Heap.SameBut z hp g0 := hs0
  refine wpAny_bind ?_
  simp only [List.zipIdx_cons, List.zipIdx_nil, List.forIn_cons, List.forIn_nil]
  refine wpAny_bind (wpAny_bind (wpAny_onRaise ?_))
  show wpAny _ _ (Builtin.SmallTypes.nextOrEnd (.ref i1)) _ _ ⟨g0, g, d, tk0, os⟩
  refine noe_end D1 (D1.over st1 hs0 S.zf1) fun p1 hp1 => ?_
  replace hp1 : Heap.ExtBut i1 g0 p1 := hp1
  have hz1 : IsZipS p1 z TI TO .ellipsis := hp1 _ _ S.zi1 hz0
  refine wpAny_bind (wpAny_setField_rec (s := ⟨p1, g, d, tk0, os⟩) hz1 (by simp) fun g1 hz1' hs1 => ?_)
  replace hs1 : Heap.SameBut z p1 g1 := hs1
  have st2' : St2 n g1 := D2.over (D2.frame _ _ _ (D2.over st2 hs0 S.zf2) fun b hb o e => hp1 b o (sep b hb) e) hs1 S.zf2
  k_delta "zipStrictEnd"
  simp only [List.drop_succ_cons, List.drop_zero, List.zipIdx_cons, List.zipIdx_nil, List.forIn_cons, List.forIn_nil, gt_iff_lt, Nat.lt_irrefl, if_false]
  refine wpAny_bind (wpAny_bind (wpAny_bind (wpAny_bind (noe_end (s := ⟨g1, g, d, tk0, os⟩) D2 st2' fun p2 hp2 => ?_))))
  replace hp2 : Heap.ExtBut i2 g1 p2 := hp2
  have hk : ∀ c o, c ≠ z → c ≠ TO → c ≠ i1 → c ≠ i2 → hp.get? c = some o → p2.get? c = some o := fun c o cz cT c1 c2 e => hp2 _ _ c2 (hs1.extBut _ _ cz (hp1 _ _ c1 (hs0.extBut _ _ cz e)))
  rw [if_neg (by simp)]
  refine wpAny_pure (wpAny_pure (wpAny_bind (wpAny_rule ?_)))
  show wpAny _ _ (newExc (.type "StopIteration") [] >>= _) _ _ ⟨p2, g, d, tk0, os⟩
  refine wpAny_bind ?_
  simp only [newExc, newTuple]
  refine wpAny_bind (wpAny_newObj_type ?_ (by size_fits))
  refine wpAny_bind (m := firstArgMember _ _) (wpAny_of_eq (a := Value.none) (by first | rfl | (simp only [firstArgMember]; rfl)) ?_)
  refine wpAny_newObj_type ?_ (by size_fits)
  simp only [raiseNew]
  refine wpAny_bind (wpAny_handled ?_)
  first | rw [show A.in1.handled = none from hh] | rw [hh]
  refine wpAny_bind (wpAny_pure (wpAny_throw ?_))
  exact hE _ tk0 _ (fun c o a b c1 c2 e => Heap.get?_push_of_some _ (Heap.get?_push_of_some _ (hk c o a b c1 c2 e))) ⟨_, Heap.get?_push_size _ rfl, rfl⟩

theorem pyNext_zipS_item {Q : Option Value → Shared → Prop} (S : ZipSep2 z TI TO i1 i2 fp1 fp2) (D1 : Draws prog w A.in1 i1 fp1 n1 P1 St1) (D2 : Draws prog w A.in1 i2 fp2 n2 P2 St2)
    (hz : IsZipS s.heap z TI TO .none) (hTI : IsTupOf2 s.heap TI (.ref i1) (.ref i2)) (hTO : IsTupOf2 s.heap TO a1 a2) (st1 : St1 i s.heap) (st2 : St2 i s.heap) (hlt1 : i < n1) (hlt2 : i < n2)
    (hQ : ∀ x1 x2 h' tk, P1 i x1 → P2 i x2 → IsZipS h' z TI TO (rawInt s.heap.objs.size) → IsTupOf2 h' TO x1 x2 → St1 (i + 1) h' → St2 (i + 1) h' → IsTupOf2 h' s.heap.objs.size x1 x2 → h'.objs.size = s.heap.objs.size + 1 →
      (∀ c o, c ≠ z → c ≠ TO → c ≠ i1 → c ≠ i2 → s.heap.get? c = some o → h'.get? c = some o) → Q (some (.ref s.heap.objs.size)) { s with heap := h', toks := tk }) :
    wpAny (model prog w) A (pyNext (.ref z)) Q E s := by
  have hT : s.TypeIs (.ref z) "zip" := ⟨_, hz, rfl⟩
  unfold pyNext
  exact wpAny_bind (wpAny_attempt (wpAny_callSpecial?_slot (name := Str.ofString "__next__") hT F.slot_zip_next
    (wpAny_call_entry F.slot_zip_next hT F.entry_zip_next
      (zipS_next_item S D1 D2 hz hTI hTO st1 st2 hlt1 hlt2 fun x1 x2 h' tk y1 y2 b1 b2 d1 d2 b5 b6 b7 => wpAny_pure (hQ x1 x2 h' tk y1 y2 b1 b2 d1 d2 b5 b6 b7)) (F.args_zip_next_1 _))))

theorem pyNext_zipS_end {Q : Option Value → Shared → Prop} (hh : A.in1.handled = none) (S : ZipSep2 z TI TO i1 i2 fp1 fp2) (D1 : Draws prog w A.in1 i1 fp1 n P1 St1) (D2 : Draws prog w A.in1 i2 fp2 n P2 St2)
    (hz : IsZipS s.heap z TI TO .none) (hTI : IsTupOf2 s.heap TI (.ref i1) (.ref i2)) (hTO : IsTupOf2 s.heap TO a1 a2) (st1 : St1 n s.heap) (st2 : St2 n s.heap) (sep : ∀ b ∈ fp2, b ≠ i1)
    (hQ : ∀ h' tk, (∀ c o, c ≠ z → c ≠ TO → c ≠ i1 → c ≠ i2 → s.heap.get? c = some o → h'.get? c = some o) → Q none { s with heap := h', toks := tk }) : wpAny (model prog w) A (pyNext (.ref z)) Q E s := by
  have hT : s.TypeIs (.ref z) "zip" := ⟨_, hz, rfl⟩
  unfold pyNext
  refine wpAny_bind (wpAny_attempt (wpAny_callSpecial?_slot (name := Str.ofString "__next__") hT F.slot_zip_next
    (wpAny_call_entry F.slot_zip_next hT F.entry_zip_next (zipS_next_end hh S D1 D2 hz hTI hTO st1 st2 sep fun h' tk e hk he => ?_) (F.args_zip_next_1 _))))
  obtain ⟨o, ho, hc⟩ := he
  refine wpAny_bind (wpAny_isInstance (T := "StopIteration") (b := true) ⟨o, ho, hc⟩ isSubtype_stop ?_)
  exact wpAny_pure (hQ _ _ hk)
theorem goS {T : Addr} {Q : Unit → Shared → Prop} {elts : List Expr} {x1 : Nat} {pos : Pos} (hz : IsZipS s.heap z TI TO (rawInt T))
    (hQ : ∀ h', IsZipS h' z TI TO .none → Heap.SameBut z s.heap h' → Q () { s with heap := h' }) :
    wpAny (model prog w) A (letOwnedTupleGo (.Tuple elts x1 pos) (.ref z) (.ref T)) Q E s := by
  unfold letOwnedTupleGo
  refine wpAny_bind (wpAny_load hz ?_)
  show wpAny _ _ (if (["enumerate", "zip", "dict_itemiterator", "dict_reverseitemiterator", "odict_iterator", "itertools.zip_longest", "itertools.pairwise"].contains "zip" &&
      (#[rawInt T, .bool false, .bool true, .ref TI, .ref TO] : Array Value)[0]? == some (rawInt T)) = true then _ else _) Q E s
  rw [if_pos (by simp)]
  refine wpAny_bind (wpAny_rule ?_)
  show wpAny _ _ (setField (.ref z) 0 .none) Q E s
  exact wpAny_setField_rec hz (by simp) fun h' hz' hs' => hQ h' hz' hs'
theorem iterS {f0 : Value} {Q : Value → Shared → Prop} (hz : IsZipS s.heap z TI TO f0) (h : Q (.ref z) s) : wpAny (model prog w) A (pyIter (.ref z)) Q E s := by
  have hT : s.TypeIs (.ref z) "zip" := ⟨_, hz, rfl⟩
  refine wpAny_pyIter_slot hT F.slot_zip_iter (wpAny_call_entry F.slot_zip_iter hT F.entry_zip_iter ?_ (F.args_zip_iter_1 _))
  show wpAny _ _ (ret (.ref z)) _ _ s
  exact wpAny_pure ⟨_, rfl, "zip", _, hT, F.slot_zip_next.lookup, h⟩
end

/-! ### a call of a type, with keywords -/
section
variable {prog : Program} {w : World} {A : Around} {E : Value → Shared → Prop} {s : Shared}
theorem callType_meetsK {T newId initId : String} {Bn Bi : Builtin} {args : List Value} {kw : List (Str × Value)} {S : Spec} {Q Q₁ : Value → Shared → Prop} (ft : TypeCalled T newId initId)
    (hct : checkTypeCall T ⟨args, kw⟩ = pure ()) (hcn : checkBuiltinCall newId ⟨.type T :: args, kw⟩ = pure ())
    (entryN : entryFor table newId = some Bn) (entryI : entryFor table initId = some Bi) (g : Meets (Bn ⟨.type T :: args, kw⟩) S)
    (h : S A.in1 (wants Q₁ E) s)
    (hnext : ∀ obj s₁, Q₁ obj s₁ → s₁.TypeIs obj T ∧ argsOk initId ⟨obj :: args, kw⟩ ∧ ∃ Si, Meets (Bi ⟨obj :: args, kw⟩) Si ∧ Si A.in1 (wants (fun r s₂ => r = .none ∧ Q obj s₂) E) s₁) :
    wpAny (model prog w) A (call (.type T) args kw) Q E s := by
  obtain ⟨c, tl, hmro⟩ := ft.mro
  have hmade := ft.made
  have hsub := ft.sub
  refine wpAny_call (codeAny_of_tree ?_)
  show wpAny _ _ (callAny (.type T) _) _ _ _
  refine wpAny_pure ⟨Code.quiet_builtin _ (by decide +kernel), codeAny_builtin F.entry_type_call ?_⟩
  rw [Around.under_plain (weight_type_call_type T args kw) (units_type_call_type T args kw)]
  have h1 := ft.notType
  have h2 := ft.canCreate
  repeat (any_goals (first | assumption | wp_step))

  refine codeAny_mono (codeAny_call_builtin ft.plain entryN (wpAny_of_eq hcn (g prog w A.in1 _ s h))) fun r s₁ hr => ?_
  cases r with
  | error e => exact hr
  | ok fl =>
    cases fl with
    | ret obj =>
      obtain ⟨hT, hok, Si, gi, hsi⟩ := hnext _ _ hr
      have hli := ft.init.lookup
      have hbi := ft.init.bind obj
      repeat (any_goals (first | assumption | wp_step))

      refine codeAny_mono (codeAny_call_builtin ft.init.plain entryI (ft.init.check _ _ _ _ _ _ _ _ hT hok (gi prog w A.in1 _ s₁ hsi))) fun r₂ s₂ hr₂ => ?_
      cases r₂ with
      | error e => exact hr₂
      | ok fl₂ =>
        cases fl₂ with
        | ret r =>
          obtain ⟨rfl, hq⟩ := hr₂
          repeat (any_goals (first | assumption | wp_step))
        | _ => exact hr₂.elim
    | _ => exact hr.elim
abbrev kwS : List (Str × Value) := [(("strict" : Str), Value.bool true)]
theorem typeCall_zipS (a b : Value) : checkTypeCall "zip" ⟨[a, b], kwS⟩ = pure () := by kernel_rfl
theorem newCall_zipS (a b : Value) : checkBuiltinCall "zip.__new__" ⟨[.type "zip", a, b], kwS⟩ = pure () := by kernel_rfl
theorem args_initS (a b c : Value) : argsOk "object.__init__" ⟨[a, b, c], kwS⟩ := by
  unfold argsOk; rw [signature?_of (id := "object.__init__") (n := ['_', '_', 't', 'i', 'n', 'i', '_', '_']) (o := ['t', 'c', 'e', 'j', 'b', 'o']) (by kernel_rfl) F.owner_object]; kernel_rfl
theorem init_meetsS {T newId : String} {self a b : Value} (hl : typeLookup (.type T) "__init__" = pure (some (.builtin "object.__init__")))
    (hm : Bind.madeBy (.type T) = pure (some newId)) (hne : (some newId != some "object.__new__") = true) :
    Meets (Builtin.«object.__init__» ⟨[self, a, b], kwS⟩) (fun _ R s => s.TypeIs self T ∧ R (.ok (.ret .none)) s) := by
  refine Meets.of_wp fun prog w A R s hs => ?_
  obtain ⟨hT, hq⟩ := hs
  repeat (any_goals (first | assumption | wp_step))
  exact ⟨_, rfl, hq⟩
abbrev zsZ (h : Heap) (o1 o2 : Obj) : Heap := (gzO2 h o1 o2).push { cls := .type "zip", data := .fields #[.none, .bool false, .bool true, .ref ((h.push o1).push o2).objs.size, .ref (gzT2 h o1 o2).objs.size] }
theorem meets_zipS {v1 v2 : Value} {o1 o2 : Obj} {H1 H2 : Heap → Prop} (B1 : Begins v1 o1 H1) (B2 : Begins v2 o2 H2) :
    Meets (Builtin.«zip.__new__» ⟨[.type "zip", v1, v2], kwS⟩) (fun _ R s => (H1 s.heap ∧ H2 s.heap) ∧
      R (.ok (.ret (.ref (gzO2 s.heap o1 o2).objs.size))) { s with heap := zsZ s.heap o1 o2 }) :=
  .of_wp fun prog w A R s h => by
    obtain ⟨hp, g, d, tk, os⟩ := s; obtain ⟨⟨h1, h2⟩, h⟩ := h
    have hsub := sub_zip
    have q1 : ∀ {A' : Around} {E : Value → Shared → Prop} {Q : Value → Shared → Prop}, Q (.ref hp.objs.size) ⟨(hp.push o1), g, d, tk, os⟩ → wpAny (model prog w) A' (pyIter v1) Q E ⟨hp, g, d, tk, os⟩ :=
      fun q => B1.iter prog w _ _ ⟨hp, g, d, tk, os⟩ _ (B1.keeps _ _ h1 fun b o' e => e) q
    have q2 : ∀ {A' : Around} {E : Value → Shared → Prop} {Q : Value → Shared → Prop}, Q (.ref (hp.push o1).objs.size) ⟨((hp.push o1).push o2), g, d, tk, os⟩ → wpAny (model prog w) A' (pyIter v2) Q E ⟨(hp.push o1), g, d, tk, os⟩ :=
      fun q => B2.iter prog w _ _ ⟨(hp.push o1), g, d, tk, os⟩ _ (B2.keeps _ _ h2 fun b o' e => (Heap.get?_push_of_some _ e)) q
    wp_walk using q1, q2
    exact ⟨_, rfl, h⟩
/-- zip of 2, strict: its 5 new cells -/
theorem zipS_begins {v1 v2 : Value} {o1 o2 : Obj} {H1 H2 : Heap → Prop} {Q : Value → Shared → Prop} (B1 : Begins v1 o1 H1) (B2 : Begins v2 o2 H2) (h1 : H1 s.heap) (h2 : H2 s.heap)
    (h : ∀ h', IsZipS h' (s.heap.objs.size + 4) (s.heap.objs.size + 2) (s.heap.objs.size + 3) .none → IsTupOf2 h' (s.heap.objs.size + 2) (.ref s.heap.objs.size) (.ref (s.heap.objs.size + 1)) →
      IsTupOf2 h' (s.heap.objs.size + 3) .none .none → h'.get? s.heap.objs.size = some o1 → h'.get? (s.heap.objs.size + 1) = some o2 → h'.objs.size = s.heap.objs.size + 5 →
      (∀ c o, s.heap.get? c = some o → h'.get? c = some o) → Q (.ref (s.heap.objs.size + 4)) { s with heap := h' }) :
    wpAny (model prog w) A (call (.type "zip") [v1, v2] kwS) Q E s := by
  refine callType_meetsK (Q₁ := fun obj s₁ => s₁.TypeIs obj "zip" ∧ Q obj s₁) F.called_zip (typeCall_zipS _ _) (newCall_zipS _ _) F.entry_zip_new F.entry_object_init (meets_zipS B1 B2) ⟨⟨h1, h2⟩, ?_⟩ fun obj _ hq =>
    ⟨hq.1, args_initS obj _ _, _, init_meetsS F.called_zip.init.lookup F.called_zip.made (by decide), hq.1, rfl, hq.2⟩
  have z1 : (s.heap.push o1).objs.size = s.heap.objs.size + 1 := by rw [Heap.size_push]
  have z2 : ((s.heap.push o1).push o2).objs.size = s.heap.objs.size + 2 := by rw [Heap.size_push, z1]
  have zT : (gzT2 s.heap o1 o2).objs.size = s.heap.objs.size + 3 := by rw [Heap.size_push, z2]
  have zO : (gzO2 s.heap o1 o2).objs.size = s.heap.objs.size + 4 := by rw [Heap.size_push, zT]
  have zZ : (zsZ s.heap o1 o2).objs.size = s.heap.objs.size + 5 := by rw [Heap.size_push, zO]
  have gZ : (zsZ s.heap o1 o2).get? (gzO2 s.heap o1 o2).objs.size = some { cls := .type "zip", data := .fields #[.none, .bool false, .bool true, .ref ((s.heap.push o1).push o2).objs.size, .ref (gzT2 s.heap o1 o2).objs.size] } := Heap.get?_push_size _ rfl
  have gO : (zsZ s.heap o1 o2).get? (gzT2 s.heap o1 o2).objs.size = some { cls := .type "tuple", data := .seq #[.none, .none] } := Heap.get?_push_of_some _ (Heap.get?_push_size _ rfl)
  have gT : (zsZ s.heap o1 o2).get? ((s.heap.push o1).push o2).objs.size = some { cls := .type "tuple", data := .seq #[.ref s.heap.objs.size, .ref (s.heap.push o1).objs.size] } := Heap.get?_push_of_some _ (Heap.get?_push_of_some _ (Heap.get?_push_size _ rfl))
  have g1 : (zsZ s.heap o1 o2).get? s.heap.objs.size = some o1 := Heap.get?_push_of_some _ (Heap.get?_push_of_some _ (Heap.get?_push_of_some _ (Heap.get?_push_of_some _ (Heap.get?_push_size _ B1.free))))
  have g2 : (zsZ s.heap o1 o2).get? (s.heap.push o1).objs.size = some o2 := Heap.get?_push_of_some _ (Heap.get?_push_of_some _ (Heap.get?_push_of_some _ (Heap.get?_push_size _ B2.free)))
  rw [zO, zT, z2] at gZ
  rw [zT] at gO
  rw [z2, z1] at gT
  rw [z1] at g2
  show _ ∧ _
  rw [zO]
  exact ⟨⟨_, gZ, rfl⟩, h _ gZ gT gO g1 g2 zZ fun c o e => Heap.get?_push_of_some _ (Heap.get?_push_of_some _ (Heap.get?_push_of_some _ (Heap.get?_push_of_some _ (Heap.get?_push_of_some _ e))))⟩
end
end Dp


set_option Elab.async false
set_option linter.all false
set_option maxRecDepth 100000
set_option maxHeartbeats 4000000
set_option autoImplicit false
/-! DpIt: what is walked: values, ranges, enumerate, zip (strict or not). -/
namespace Dp
open PySem L2 PySem.Spec PyProof.Rows

/-- what lies under enumerate and zip -/
inductive Cm where
  | lst (a : Addr) | tup (a : Addr) | txt (x : Str) (t : Tok)
def Cm.src : Cm → List Addr
  | .lst a => [a]
  | .tup a => [a]
  | .txt _ _ => []
def Cm.val : Cm → Value
  | .lst a => .ref a
  | .tup a => .ref a
  | .txt x t => .str x t
def Cm.has (K : PySem.W.Frag) (H : Hp) : Cm → List V → Prop
  | .lst a, xs => SqL K H a xs
  | .tup a, xs => SqT K H a xs
  | .txt x _, xs => xs = x.cps.toList.map fun c => V.str ⟨#[c]⟩
def Cm.ri : Cm → Addr → Nat → Heap → Prop
  | .lst a, it, i, h => h.IsListIter it a i
  | .tup a, it, i, h => h.IsTupleIter it a i
  | .txt x t, it, i, h => h.IsStrIter it (strIterType x) x t i
theorem Cm.ri_at {c : Cm} {it : Addr} {i : Nat} {h h' : Heap} (r : c.ri it i h) (k : ∀ o, h.get? it = some o → h'.get? it = some o) : c.ri it i h' := by
  cases c with
  | lst a => exact r.at k
  | tup a => exact r.at k
  | txt x t => exact let ⟨o, ho, q⟩ := r; ⟨o, k o ho, q⟩
theorem Cm.ri_obj {c : Cm} {it : Addr} {i : Nat} {h : Heap} (r : c.ri it i h) : ∃ o, h.get? it = some o ∧ ∀ v, o.data ≠ .cell v := by
  cases c with
  | lst a => obtain ⟨o, e, _, d⟩ := r; exact ⟨o, e, fun v z => by rw [d] at z; cases z⟩
  | tup a => obtain ⟨o, e, _, d⟩ := r; exact ⟨o, e, fun v z => by rw [d] at z; cases z⟩
  | txt x t => obtain ⟨o, e, _, d⟩ := r; exact ⟨o, e, fun v z => by rw [d] at z; cases z⟩
theorem vals_back {xs : List V} {its : List Value} (r : Vals xs its) {j : Nat} {u : Value} (h : its[j]? = some u) : ∃ x, xs[j]? = some x ∧ RelV x u := by
  obtain ⟨hlt, _⟩ := List.getElem?_eq_some_iff.mp h
  have hlt2 : j < xs.length := by rw [r.length]; exact hlt
  have hx : xs[j]? = some xs[j] := List.getElem?_eq_getElem hlt2
  obtain ⟨u', h', r'⟩ := r.get hx
  rw [h] at h'
  cases h'
  exact ⟨_, hx, r'⟩
section
variable {X : Cx} {pins : List (Addr × Obj)} {σ : L2.St} {H : Hp} {s : Shared}
theorem Cm.inj (I : L2.Inv X pins σ H s) {c : Cm} {xs ys : List V} (h1 : c.has X.K H xs) (h2 : c.has X.K H ys) : xs = ys := by
  cases c with
  | lst a => exact I.list_inj h1 h2
  | tup a => exact I.tuple_inj h1 h2
  | txt x t => exact h1.trans h2.symm
theorem Cm.draws (I : L2.Inv X pins σ H s) {A : Around} (hh : A.handled = none) {c : Cm} {xs : List V} {it : Addr} {i : Nat} (h : c.has X.K H xs) (hn : it ∉ c.src) (r : c.ri it i s.heap) :
    ∃ (P : Nat → Value → Prop) (St : Nat → Heap → Prop), Draws X.prog X.w A it (it :: c.src) xs.length P St ∧ St i s.heap ∧ (∀ j u, P j u → ∃ x, xs[j]? = some x ∧ RelV x u) ∧ (∀ j h, St j h → c.ri it j h) := by
  cases c with
  | lst a =>
    obtain ⟨its, rv, p, hz⟩ := I.list h
    have e : xs.length = its.toArray.size := by rw [List.size_toArray]; exact rv.length
    rw [e]
    exact ⟨_, _, Draws.list hh it a (fun z => hn (by rw [z]; exact List.mem_cons_self ..)) its.toArray, ⟨r, p.isList⟩, fun j u hu => vals_back rv (by simpa using hu), fun j h st => st.1⟩
  | tup a =>
    obtain ⟨its, rv, p, hz⟩ := I.tuple h
    have e : xs.length = its.toArray.size := by rw [List.size_toArray]; exact rv.length
    rw [e]
    exact ⟨_, _, Draws.tuple hh it a (fun z => hn (by rw [z]; exact List.mem_cons_self ..)) its.toArray, ⟨r, p⟩, fun j u hu => vals_back rv (by simpa using hu), fun j h st => st.1⟩
  | txt x t =>
    have hx : xs = x.cps.toList.map fun c => V.str ⟨#[c]⟩ := h
    subst hx
    have e : (x.cps.toList.map fun c => V.str ⟨#[c]⟩).length = x.cps.size := by rw [List.length_map, Array.length_toList]
    rw [e]
    refine ⟨_, _, Draws.text hh it x t, r, fun j u hu => ?_, fun j h st => st⟩
    obtain ⟨c, tk, hc, rfl⟩ := hu
    refine ⟨.str ⟨#[c]⟩, ?_, ⟨tk, rfl⟩⟩
    rw [List.getElem?_map, Array.getElem?_toList, hc]
    rfl
theorem Cm.begins (I : L2.Inv X pins σ H s) {c : Cm} {xs : List V} (h : c.has X.K H xs) :
    ∃ (o : Obj) (Hc : Heap → Prop), Begins c.val o Hc ∧ Hc s.heap ∧ (∀ it h, h.get? it = some o → c.ri it 0 h) ∧ ∀ a ∈ c.src, a < s.heap.objs.size := by
  cases c with
  | lst a =>
    obtain ⟨its, rv, p, hz⟩ := I.list h
    exact ⟨_, _, begins_list a its.toArray, p.isList, fun it h e => ⟨_, e, rfl, rfl⟩, fun b hb => by rw [List.mem_singleton.mp hb]; exact p.lt⟩
  | tup a =>
    obtain ⟨its, rv, p, hz⟩ := I.tuple h
    obtain ⟨o1, ho1, _⟩ := id p
    exact ⟨_, _, begins_tuple a its.toArray, p, fun it h e => ⟨_, e, rfl, rfl⟩, fun b hb => by rw [List.mem_singleton.mp hb]; exact Heap.lt_size ho1⟩
  | txt x t =>
    exact ⟨_, _, begins_text x t, trivial, fun it h e => ⟨_, e, rfl, rfl⟩, fun b hb => nomatch hb⟩
end

/-! ### enumerate -/
def ItE (K : PySem.W.Frag) (c : Cm) : It :=
  ⟨fun i H => ∃ (xs : List V) (x : V), c.has K H xs ∧ xs[i]? = some x,
    fun i H v H' => ∃ (T : Addr) (x : V) (o : Obj), v = .ref T ∧ H T = none ∧ o.dict = none ∧ H' = upd H T (.frz o (.tup [.int (i : Nat), x])) ∧ ∀ xs, c.has K H xs → xs[i]? = some x,
    fun i H => ∃ xs : List V, c.has K H xs ∧ xs.length = i⟩
theorem turn_enumC {P : Program} {w : World} {K : PySem.W.Frag} {elts : List Expr} {kk : Nat} {tpos : Pos} (c : Cm) (e it : Addr) (h1 : e ∉ it :: c.src) (h2 : it ∉ c.src) :
    Turn P w K (.Tuple elts kk tpos) (ItE K c) [e, it] e (fun i h => (∃ old, IsEnum h e it ((i : Nat) : Int) old) ∧ c.ri it i h) where
  mem := by simp
  obj := fun i h st b hb => by
    obtain ⟨⟨old, he⟩, hr⟩ := st
    have e' : b = e ∨ b = it := by simpa using hb
    rcases e' with z | z
    · rw [z]; exact ⟨_, he, fun v q => nomatch q⟩
    · rw [z]; exact Cm.ri_obj hr
  keep := fun i h h' st k => let ⟨⟨old, he⟩, hr⟩ := st; ⟨⟨old, k e (by simp) _ he⟩, Cm.ri_at hr fun o q => k it (by simp) o q⟩
  item := by
    intro X hP hw hK hc i pins s σ H E I hf st hg
    subst hP hw hK
    obtain ⟨⟨old, he⟩, hr⟩ := st
    obtain ⟨xs, x, hq, hx⟩ := hg
    have hne : e ≠ it := fun z => h1 (by rw [z]; exact List.mem_cons_self ..)
    obtain ⟨PP, St, D, st, hPP, hSt⟩ := Cm.draws (A := X.A.in1) I (I.ok.hd hc) hq h2 hr
    have hel : e < s.heap.objs.size := Heap.lt_size he
    have hil : it < s.heap.objs.size := by obtain ⟨_, q, _⟩ := Cm.ri_obj hr; exact Heap.lt_size q
    have hlt : i < xs.length := (List.getElem?_eq_some_iff.mp hx).1
    refine wpAny_pyNext_enum_itemD D he st hlt hne h1 fun u h' tk hPu ho st' hT hsz hk => ?_
    obtain ⟨x', hx', ru⟩ := hPP _ _ hPu
    rw [hx] at hx'
    cases hx'
    refine ⟨_, rfl, wpAny_letOwnedTupleGo_enum (s := { s with heap := h', toks := tk + 1 }) ho fun h'' he' sb => ?_⟩
    have hT2 : h''.get? s.heap.objs.size = some (tupO [.int i tk, u]) := (sb.2 _ (Nat.ne_of_gt hel)).trans hT
    have new : ObjOk X.prog X.w (upd H s.heap.objs.size (.frz (tupO [.int i tk, u]) (.tup [.int (i : Nat), x]))) h'' s.heap.objs.size (.frz (tupO [.int i tk, u]) (.tup [.int (i : Nat), x])) :=
      ⟨hT2, by show 2 ≤ sizeLine; decide, [.int i tk, u], .cons ⟨_, rfl⟩ (.cons ru .nil), ⟨_, hT2, rfl, _, rfl⟩⟩
    have I1 : L2.Inv X pins σ (upd H s.heap.objs.size (.frz (tupO [.int i tk, u]) (.tup [.int (i : Nat), x]))) { s with heap := h'', toks := tk + 1 } :=
      I.turnedNew (ch := [e, it]) (fun b ob hb q => (sb.2 b (fun z => hb (by simp [z]))).trans (hk b ob (fun z => hb (by simp [z])) (fun z => hb (by simp [z])) q)) hf (Nat.le_refl _) new
    refine ⟨.ref s.heap.objs.size, _, I1, rfl, ⟨_, x, _, rfl, I.hok.fresh (Nat.le_refl _), rfl, rfl, fun ys hy => by rw [Cm.inj I hy hq]; exact hx⟩, ⟨⟨u, ?_⟩, hSt _ _ (D.frame _ _ _ st' fun b hb o q => (sb.2 b fun z => h1 (z ▸ hb)).trans q)⟩, fun b hb => ?_⟩
    · have e1 : ((i + 1 : Nat) : Int) = (i : Int) + 1 := by omega
      rw [e1]; exact he'
    · have hb' : b < s.heap.objs.size := by
        have e' : b = e ∨ b = it := by simpa using hb
        rcases e' with z | z
        · rw [z]; exact hel
        · rw [z]; exact hil
      rw [upd_ne (Nat.ne_of_lt hb')]
      exact (hf b hb).1
  done := by
    intro X hP hw hK hc i pins s σ H E I hf st hg
    subst hP hw hK
    obtain ⟨⟨old, he⟩, hr⟩ := st
    obtain ⟨xs, hq, hx⟩ := hg
    obtain ⟨PP, St, D, st, hPP, hSt⟩ := Cm.draws (A := X.A.in1) I (I.ok.hd hc) hq h2 hr
    obtain ⟨f0, f1, f2, f3, f4, f5⟩ := hf it (by simp)
    rw [← hx] at st
    exact wpAny_pyNext_enum_endD D he st fun h' eb => ⟨rfl, I.turned (t' := s.toks) (fun b o hb q => eb b o hb q) f0 f1 f3 f4 f5⟩
  self := fun A i s Q E st h => let ⟨⟨_, he⟩, _⟩ := st; wpAny_pyIter_enum he h

/-! ### zip -/
abbrev IsZ (b : Bool) (h : Heap) (z TI TO : Addr) (f0 : Value) : Prop :=
  h.get? z = some { cls := .type "zip", dict := none, data := .fields #[f0, .bool false, .bool b, .ref TI, .ref TO], slots := #[] }
def ItZ (K : PySem.W.Frag) (b : Bool) (c1 c2 : Cm) : It :=
  ⟨fun i H => ∃ (xs ys : List V) (x y : V), c1.has K H xs ∧ c2.has K H ys ∧ xs[i]? = some x ∧ ys[i]? = some y,
    fun i H v H' => ∃ (T : Addr) (x y : V) (o : Obj), v = .ref T ∧ H T = none ∧ o.dict = none ∧ H' = upd H T (.frz o (.tup [x, y])) ∧ (∀ xs, c1.has K H xs → xs[i]? = some x) ∧ ∀ ys, c2.has K H ys → ys[i]? = some y,
    fun i H => ∃ xs ys : List V, c1.has K H xs ∧ c2.has K H ys ∧ i ≤ xs.length ∧ i ≤ ys.length ∧ (i = xs.length ∨ i = ys.length) ∧ (b = true → i = xs.length ∧ i = ys.length)⟩
section
variable {X : Cx} {A : Around} {s : Shared} {E : Value → Shared → Prop} {b : Bool} {z TI TO i1 i2 : Addr} {fp1 fp2 : List Addr} {n1 n2 i : Nat} {P1 P2 : Nat → Value → Prop} {St1 St2 : Nat → Heap → Prop} {a1 a2 : Value}
theorem next_item {Q : Option Value → Shared → Prop} (S : ZipSep2 z TI TO i1 i2 fp1 fp2) (D1 : Draws X.prog X.w A.in1 i1 fp1 n1 P1 St1) (D2 : Draws X.prog X.w A.in1 i2 fp2 n2 P2 St2)
    (hz : IsZ b s.heap z TI TO .none) (hTI : IsTupOf2 s.heap TI (.ref i1) (.ref i2)) (hTO : IsTupOf2 s.heap TO a1 a2) (st1 : St1 i s.heap) (st2 : St2 i s.heap) (hlt1 : i < n1) (hlt2 : i < n2)
    (hQ : ∀ x1 x2 h' tk, P1 i x1 → P2 i x2 → IsZ b h' z TI TO (rawInt s.heap.objs.size) → IsTupOf2 h' TO x1 x2 → St1 (i + 1) h' → St2 (i + 1) h' → IsTupOf2 h' s.heap.objs.size x1 x2 → h'.objs.size = s.heap.objs.size + 1 →
      (∀ c o, c ≠ z → c ≠ TO → c ≠ i1 → c ≠ i2 → s.heap.get? c = some o → h'.get? c = some o) → Q (some (.ref s.heap.objs.size)) { s with heap := h', toks := tk }) :
    wpAny (model X.prog X.w) A (pyNext (.ref z)) Q E s := by
  cases b
  · exact wpAny_pyNext_zipD2_item S D1 D2 hz hTI hTO st1 st2 hlt1 hlt2 hQ
  · exact pyNext_zipS_item S D1 D2 hz hTI hTO st1 st2 hlt1 hlt2 hQ
theorem next_end {Q : Option Value → Shared → Prop} (hh : A.in1.handled = none) (S : ZipSep2 z TI TO i1 i2 fp1 fp2) (D1 : Draws X.prog X.w A.in1 i1 fp1 n1 P1 St1) (D2 : Draws X.prog X.w A.in1 i2 fp2 n2 P2 St2)
    (hz : IsZ b s.heap z TI TO .none) (hTI : IsTupOf2 s.heap TI (.ref i1) (.ref i2)) (hTO : IsTupOf2 s.heap TO a1 a2) (st1 : St1 i s.heap) (st2 : St2 i s.heap) (l1 : i ≤ n1) (l2 : i ≤ n2) (e : i = n1 ∨ i = n2) (eb : b = true → i = n1 ∧ i = n2)
    (hQ : ∀ h' tk, (∀ c o, c ≠ z → c ≠ TO → c ≠ i1 → c ≠ i2 → s.heap.get? c = some o → h'.get? c = some o) → Q none { s with heap := h', toks := tk }) : wpAny (model X.prog X.w) A (pyNext (.ref z)) Q E s := by
  cases b
  · exact wpAny_pyNext_zipD2_end S D1 D2 hz hTI hTO st1 st2 l1 l2 e hQ
  · obtain ⟨e1, e2⟩ := eb rfl
    subst e1 e2
    exact pyNext_zipS_end hh S D1 D2 hz hTI hTO st1 st2 (fun b hb q => S.sep1_2 (q ▸ hb)) hQ
theorem goZ {T : Addr} {Q : Unit → Shared → Prop} {elts : List Expr} {x1 : Nat} {pos : Pos} (hz : IsZ b s.heap z TI TO (rawInt T))
    (hQ : ∀ h', IsZ b h' z TI TO .none → Heap.SameBut z s.heap h' → Q () { s with heap := h' }) :
    wpAny (model X.prog X.w) A (letOwnedTupleGo (.Tuple elts x1 pos) (.ref z) (.ref T)) Q E s := by
  cases b
  · exact wpAny_letOwnedTupleGo_zip hz hQ
  · exact goS hz hQ
theorem iterZ {f0 : Value} {Q : Value → Shared → Prop} {P : Program} {w : World} (hz : IsZ b s.heap z TI TO f0) (h : Q (.ref z) s) : wpAny (model P w) A (pyIter (.ref z)) Q E s := by
  cases b
  · exact wpAny_pyIter_zip hz h
  · exact iterS hz h
end
theorem turn_zipC {P : Program} {w : World} {K : PySem.W.Frag} {elts : List Expr} {kk : Nat} {tpos : Pos} (b : Bool) (c1 c2 : Cm) {z TI TO i1 i2 : Addr} (S : ZipSep2 z TI TO i1 i2 (i1 :: c1.src) (i2 :: c2.src)) (n1 : i1 ∉ c1.src) (n2 : i2 ∉ c2.src) :
    Turn P w K (.Tuple elts kk tpos) (ItZ K b c1 c2) [z, TI, TO, i1, i2] z (fun i h => IsZ b h z TI TO .none ∧ IsTupOf2 h TI (.ref i1) (.ref i2) ∧ (∃ x y, IsTupOf2 h TO x y) ∧ c1.ri i1 i h ∧ c2.ri i2 i h) where
  mem := by simp
  obj := fun i h st c hc => by
    obtain ⟨hz, hTI, ⟨x, y, hTO⟩, r1, r2⟩ := st
    have e' : c = z ∨ c = TI ∨ c = TO ∨ c = i1 ∨ c = i2 := by simpa using hc
    rcases e' with q | q | q | q | q
    · rw [q]; exact ⟨_, hz, fun v q => nomatch q⟩
    · rw [q]; exact ⟨_, hTI, fun v q => nomatch q⟩
    · rw [q]; exact ⟨_, hTO, fun v q => nomatch q⟩
    · rw [q]; exact Cm.ri_obj r1
    · rw [q]; exact Cm.ri_obj r2
  keep := fun i h h' st k => by
    obtain ⟨hz, hTI, ⟨x, y, hTO⟩, h1, h2⟩ := st
    exact ⟨k z (by simp) _ hz, k TI (by simp) _ hTI, ⟨x, y, k TO (by simp) _ hTO⟩, Cm.ri_at h1 fun o q => k i1 (by simp) o q, Cm.ri_at h2 fun o q => k i2 (by simp) o q⟩
  item := by
    intro X hP hw hK hc i pins s σ H E I hf st hg
    subst hP hw hK
    obtain ⟨hz, hTI, ⟨x0, y0, hTO⟩, r1, r2⟩ := st
    obtain ⟨xs, ys, x, y, hqx, hqy, hx, hy⟩ := hg
    obtain ⟨P1, St1, D1, st1, hP1, hS1⟩ := Cm.draws (A := X.A.in1) I (I.ok.hd hc) hqx n1 r1
    obtain ⟨P2, St2, D2, st2, hP2, hS2⟩ := Cm.draws (A := X.A.in1) I (I.ok.hd hc) hqy n2 r2
    have hzl : z < s.heap.objs.size := Heap.lt_size hz
    refine next_item S D1 D2 hz hTI hTO st1 st2 (List.getElem?_eq_some_iff.mp hx).1 (List.getElem?_eq_some_iff.mp hy).1 fun u u2 h' tk y1 y2 z' TO' q1 q2 hT hsz hk => ?_
    obtain ⟨x', hx', ru⟩ := hP1 _ _ y1
    rw [hx] at hx'
    cases hx'
    obtain ⟨y', hy', ru2⟩ := hP2 _ _ y2
    rw [hy] at hy'
    cases hy'
    refine ⟨_, rfl, goZ (s := { s with heap := h', toks := tk }) z' fun h'' z'' sb => ?_⟩
    have hT2 : h''.get? s.heap.objs.size = some (tupO [u, u2]) := (sb.2 _ (Nat.ne_of_gt hzl)).trans hT
    have new : ObjOk X.prog X.w (upd H s.heap.objs.size (.frz (tupO [u, u2]) (.tup [x, y]))) h'' s.heap.objs.size (.frz (tupO [u, u2]) (.tup [x, y])) :=
      ⟨hT2, by show 2 ≤ sizeLine; decide, [u, u2], .cons ru (.cons ru2 .nil), ⟨_, hT2, rfl, _, rfl⟩⟩
    have I1 : L2.Inv X pins σ (upd H s.heap.objs.size (.frz (tupO [u, u2]) (.tup [x, y]))) { s with heap := h'', toks := tk } :=
      I.turnedNew (ch := [z, TI, TO, i1, i2]) (fun c o hb q => (sb.2 c (fun q' => hb (by simp [q']))).trans (hk c o (fun q' => hb (by simp [q'])) (fun q' => hb (by simp [q'])) (fun q' => hb (by simp [q'])) (fun q' => hb (by simp [q'])) q)) hf (Nat.le_refl _) new
    refine ⟨.ref s.heap.objs.size, _, I1, rfl, ⟨_, x, y, _, rfl, I.hok.fresh (Nat.le_refl _), rfl, rfl, fun l hl => by rw [Cm.inj I hl hqx]; exact hx, fun l hl => by rw [Cm.inj I hl hqy]; exact hy⟩, ⟨z'', ?_, ⟨u, u2, ?_⟩, ?_, ?_⟩, fun c hcm => ?_⟩
    · exact (sb.2 _ S.TIz).trans (hk _ _ S.TIz S.TITO S.TIi1 S.TIi2 hTI)
    · exact (sb.2 _ S.TOz).trans TO'
    · exact hS1 _ _ (D1.frame _ _ _ q1 fun b hb o q => (sb.2 b fun e => S.zf1 (e ▸ hb)).trans q)
    · exact hS2 _ _ (D2.frame _ _ _ q2 fun b hb o q => (sb.2 b fun e => S.zf2 (e ▸ hb)).trans q)
    · have hlt : c < s.heap.objs.size := by
        have e' : c = z ∨ c = TI ∨ c = TO ∨ c = i1 ∨ c = i2 := by simpa using hcm
        rcases e' with q | q | q | q | q
        · rw [q]; exact hzl
        · rw [q]; exact Heap.lt_size hTI
        · rw [q]; exact Heap.lt_size hTO
        · rw [q]; obtain ⟨_, e1, _⟩ := Cm.ri_obj r1; exact Heap.lt_size e1
        · rw [q]; obtain ⟨_, e2, _⟩ := Cm.ri_obj r2; exact Heap.lt_size e2
      rw [upd_ne (Nat.ne_of_lt hlt)]
      exact (hf c hcm).1
  done := by
    intro X hP hw hK hc i pins s σ H E I hf st hg
    subst hP hw hK
    obtain ⟨hz, hTI, ⟨x0, y0, hTO⟩, r1, r2⟩ := st
    obtain ⟨xs, ys, hqx, hqy, l1, l2, e, eb⟩ := hg
    obtain ⟨P1, St1, D1, st1, hP1, hS1⟩ := Cm.draws (A := X.A.in1) I (I.ok.hd hc) hqx n1 r1
    obtain ⟨P2, St2, D2, st2, hP2, hS2⟩ := Cm.draws (A := X.A.in1) I (I.ok.hd hc) hqy n2 r2
    exact next_end (I.ok.hd hc) S D1 D2 hz hTI hTO st1 st2 l1 l2 e eb fun h' tk hk => ⟨rfl, I.turnedL (ch := [z, TI, TO, i1, i2]) (fun c o hb q =>
      hk c o (fun q' => hb (by simp [q'])) (fun q' => hb (by simp [q'])) (fun q' => hb (by simp [q'])) (fun q' => hb (by simp [q'])) q) hf⟩
  self := fun A i s Q E st h => iterZ st.1 h
end Dp


set_option Elab.async false
set_option linter.all false
set_option maxRecDepth 100000
set_option maxHeartbeats 4000000
set_option autoImplicit false
/-! DpPi: iterators come: values, ranges, enumerate, zip. -/
namespace Dp
open PySem L2 PySem.Spec PyProof.Rows

/-- not starred -/
abbrev NoStar (X : Cx) (e : Expr) : Prop := ∀ rest, starEach (e :: rest) X.env = (false, eval e X.env) :: starEach rest X.env
structure JOk (K : PySem.W.Frag) (m : Pl) (st : Sto) (H : Hp) (J : It) (I : Itr) : Prop where
  go : ∀ (m2 : Pl) (st2 : Sto) (H2 : Hp) (i : Nat) (p : PV), Stp m st.nxt H m2 st2.nxt H2 → SRep K m2 H2 st2 → I.at st2 i = some (some p) → J.go i H2 ∧ ∀ v H3, J.yld i H2 v H3 → Step m2 st2 H2 m2 st2 H3 ∧ SRep K m2 H3 st2 ∧ Rep K m2 st2.nxt H3 v p
  stop : ∀ (m2 : Pl) (st2 : Sto) (H2 : Hp) (i : Nat), Stp m st.nxt H m2 st2.nxt H2 → SRep K m2 H2 st2 → I.at st2 i = some none → J.stop i H2
def FinI (K : PySem.W.Frag) (m : Pl) (st : Sto) (H : Hp) (r : R Itr) (Q : It → Hp → Prop) : Prop :=
  match r with
  | .ok I st1 => ∀ (J : It) (H1 : Hp) (m1 : Pl), Step m st H m1 st1 H1 → SRep K m1 H1 st1 → JOk K m1 st1 H1 J I → Q J H1
  | .err => False
def rdI (K : PySem.W.Frag) (f : Env → M Itr) : TI := fun σ H R => ∃ m r st, ERep K m st.nxt H σ r ∧ SRep K m H st ∧ FinI K m st H (f r st) R
theorem FinI.seq {α β : Type} {K : PySem.W.Frag} {rel : Pl → Nat → Hp → β → α → Prop} {m : Pl} {st : Sto} {H : Hp} {g : M α} {f : α → M Itr} {Q : It → Hp → Prop} {Q' : β → Hp → Prop} (h : FinI K m st H (M.bind g f st) Q)
    (k : ∀ (v : β) (H1 : Hp) (m1 : Pl) (st1 : Sto) (p : α), g st = .ok p st1 → Step m st H m1 st1 H1 → SRep K m1 H1 st1 → rel m1 st1.nxt H1 v p → FinI K m1 st1 H1 (f p st1) Q → Q' v H1) : FinG K rel m st H (g st) Q' := by
  unfold M.bind at h
  cases e : g st with
  | err => rw [e] at h; exact h
  | ok p st1 =>
    rw [e] at h
    refine fun v H1 m1 s1 s2 s3 => k v H1 m1 st1 p e s1 s2 s3 ?_
    have h : FinI K m st H (f p st1) Q := h
    show FinI K m1 st1 H1 (f p st1) Q
    cases e2 : f p st1 with
    | err => rw [e2] at h; exact h
    | ok q st2 =>
      rw [e2] at h
      exact fun w H2 m2 t1 t2 t3 => h w H2 m2 (s1.trans t1) t2 t3
theorem PI.conseq {X : Cx} {tg e : Expr} {t t' : TI} (h : PI X tg e t) (k : ∀ σ H Q, t' σ H Q → t σ H Q) : PI X tg e t' := ⟨fun pins s σ H Q I q => h.run pins s σ H Q I (k _ _ _ q)⟩

/-! ### parts -/
def COk (K : PySem.W.Frag) (m : Pl) (st : Sto) (H : Hp) (c : Cm) : Itr → Prop
  | .fix xs => ∃ vs, ((∃ a, c = .tup a ∧ SqD K H a vs) ∨ ∃ x t, c = .txt x t ∧ vs = x.cps.toList.map fun c => V.str ⟨#[c]⟩) ∧ Reps K m st.nxt H vs xs
  | .liv l => c = .lst (m l) ∧ l < st.nxt
  | _ => False
section
variable {K : PySem.W.Frag} {m m2 : Pl} {st st2 : Sto} {H H2 : Hp} {c : Cm} {I : Itr}
theorem COk.step (t : Stp m st.nxt H m2 st2.nxt H2) (h : COk K m st H c I) : COk K m2 st2 H2 c I := by
  cases I with
  | fix xs =>
    obtain ⟨vs, h1, h2⟩ := h
    refine ⟨vs, ?_, Reps.stp t xs vs h2⟩
    rcases h1 with ⟨a, e, d⟩ | h1
    · exact .inl ⟨a, e, d.stp t⟩
    · exact .inr h1
  | liv l => exact ⟨by rw [t.mu l h.2]; exact h.1, Nat.lt_of_lt_of_le h.2 t.nx⟩
  | en it => exact h
  | zp b x y => exact h
theorem COk.here (s : SRep K m H st) (h : COk K m st H c I) {i : Nat} {o : Option PV} (e : I.at st i = some o) : ∃ vs xs, c.has K H vs ∧ Reps K m st.nxt H vs xs ∧ seqAt xs i = some o := by
  cases I with
  | fix xs =>
    obtain ⟨vs, h1, h2⟩ := h
    refine ⟨vs, xs, ?_, h2, e⟩
    rcases h1 with ⟨a, rfl, d⟩ | ⟨x, t, rfl, rfl⟩
    · exact d.sq
    · rfl
  | liv l =>
    obtain ⟨rfl, _⟩ := h
    unfold Itr.at at e
    cases e1 : st.lstAt l with
    | none => rw [e1] at e; cases e
    | some xs =>
      rw [e1] at e
      obtain ⟨vs, h1, h2⟩ := s.at e1
      exact ⟨vs, xs, h1, h2, e⟩
  | en it => exact h.elim
  | zp b x y => exact h.elim
theorem COk.item (s : SRep K m H st) (h : COk K m st H c I) {i : Nat} {p : PV} (e : I.at st i = some (some p)) : ∃ vs v, c.has K H vs ∧ vs[i]? = some v ∧ Rep K m st.nxt H v p := by
  obtain ⟨vs, xs, h1, h2, h3⟩ := h.here s e
  unfold seqAt at h3
  cases e1 : xs[i]? with
  | none =>
    rw [e1] at h3
    by_cases z : (i == xs.length) = true
    · simp only [z, if_true] at h3; cases h3
    · simp only [z, if_false] at h3; cases h3
  | some x =>
    rw [e1] at h3
    cases h3
    obtain ⟨v, e2, r⟩ := h2.get e1
    exact ⟨vs, v, h1, e2, r⟩
theorem COk.done (s : SRep K m H st) (h : COk K m st H c I) {i : Nat} (e : I.at st i = some none) : ∃ vs, c.has K H vs ∧ vs.length = i := by
  obtain ⟨vs, xs, h1, h2, h3⟩ := h.here s e
  unfold seqAt at h3
  cases e1 : xs[i]? with
  | none =>
    rw [e1] at h3
    by_cases z : (i == xs.length) = true
    · exact ⟨vs, h1, by rw [h2.length]; exact (beq_iff_eq.mp z).symm⟩
    · simp only [z, if_false] at h3; cases h3
  | some x => rw [e1] at h3; cases h3
theorem reps_chars {n : Nat} : ∀ (t : List Nat), sOk t → Reps K m n H (t.map fun c => V.str ⟨#[c]⟩) (chars t)
  | [], _ => .nil
  | c :: t, h => .cons (.str [c] fun d hd => by rw [List.mem_singleton.mp hd]; exact h c (List.mem_cons_self ..)) (reps_chars t fun d hd => h d (List.mem_cons_of_mem _ hd))
theorem cm_of (s : SRep K m H st) {v : V} {u : Value} {p : PV} (h : Rep K m st.nxt H v p) (r : RelV v u) {st' : Sto} (e : iterOf p st = .ok I st') : st' = st ∧ ∃ c vs, c.val = u ∧ c.has K H vs ∧ COk K m st H c I := by
  cases h with
  | non => cases e
  | bl b => cases e
  | int i => cases e
  | rp x => cases e
  | str t q =>
    unfold iterOf at e
    by_cases z : t.length ≤ 16777216
    · simp only [z, if_true] at e
      cases e
      obtain ⟨tk, rfl⟩ := r
      refine ⟨rfl, .txt (S t) tk, _, rfl, rfl, _, .inr ⟨_, _, rfl, rfl⟩, ?_⟩
      exact reps_chars t q
    · simp only [z, if_false] at e; cases e
  | tup d q =>
    cases e
    cases r
    exact ⟨rfl, .tup _, _, rfl, d.sq, _, .inl ⟨_, rfl, d⟩, q⟩
  | loc hl =>
    rename_i l
    unfold iterOf at e
    cases e1 : st.lstAt l with
    | none => simp only [e1] at e; cases e
    | some xs =>
      simp only [e1] at e
      cases e
      cases r
      obtain ⟨vs, h1, h2⟩ := s.at e1
      exact ⟨rfl, .lst (m l), vs, rfl, h1, rfl, hl⟩
end

/-! ### a value walked -/
def ItV (K : PySem.W.Frag) : Cm → It
  | .lst a => Itl K a
  | .tup a => Itt K a
  | .txt x _ => Its x
theorem COk.jv {K : PySem.W.Frag} {m : Pl} {st : Sto} {H : Hp} {c : Cm} {I : Itr} (s : SRep K m H st) (h : COk K m st H c I) : JOk K m st H (ItV K c) I := by
  refine ⟨fun m2 st2 H2 i p t s2 e => ?_, fun m2 st2 H2 i t s2 e => ?_⟩
  · obtain ⟨vs, v, h1, h2, h3⟩ := (h.step t).item s2 e
    cases c with
    | lst a => exact ⟨⟨vs, v, h1, h2⟩, fun w H3 y => by obtain ⟨rfl, y⟩ := y; have := y vs h1; rw [h2] at this; cases this; exact ⟨.refl _ _ _, s2, h3⟩⟩
    | tup a => exact ⟨⟨vs, v, h1, h2⟩, fun w H3 y => by obtain ⟨rfl, y⟩ := y; have := y vs h1; rw [h2] at this; cases this; exact ⟨.refl _ _ _, s2, h3⟩⟩
    | txt x tk =>
      have h1 : vs = _ := h1
      subst h1
      rw [List.getElem?_map, Array.getElem?_toList] at h2
      cases e1 : x.cps[i]? with
      | none => rw [e1] at h2; cases h2
      | some c =>
        rw [e1] at h2
        cases h2
        refine ⟨(Array.getElem?_eq_some_iff.mp e1).1, fun w H3 y => ?_⟩
        obtain ⟨rfl, c', y1, rfl⟩ := y
        rw [e1] at y1
        cases y1
        exact ⟨.refl _ _ _, s2, h3⟩
  · obtain ⟨vs, h1, h2⟩ := (h.step t).done s2 e
    cases c with
    | lst a => exact ⟨vs, h1, Nat.le_of_eq h2⟩
    | tup a => exact ⟨vs, h1, Nat.le_of_eq h2⟩
    | txt x tk =>
      have h1 : vs = _ := h1
      subst h1
      rw [List.length_map, Array.length_toList] at h2
      exact Nat.le_of_eq h2
section
variable {X : Cx} {tg : Expr}
theorem Cm.start {pins : List (Addr × Obj)} {σ : L2.St} {H : Hp} {s : Shared} {R : It → Hp → Prop} {c : Cm} {vs : List V} (I : L2.Inv X pins σ H s) (h : c.has X.K H vs) (q : R (ItV X.K c) H) :
    wpAny (model X.prog X.w) X.A (pyIter c.val) (PIE X pins σ tg R) X.xe s := by
  cases c with
  | lst a =>
    obtain ⟨its, rv, p, hz⟩ := I.list h
    exact wpAny_pyIter_list p.isList (pi_one (tk := s.toks) I _ (turn_list a _) ⟨_, Heap.get?_push_size _ rfl, rfl, rfl⟩ q)
  | tup a =>
    obtain ⟨its, rv, p, hz⟩ := I.tuple h
    exact wpAny_pyIter_tuple (show s.heap.IsTuple a its.toArray from p) (pi_one (tk := s.toks) I _ (turn_tuple a _) ⟨_, Heap.get?_push_size _ rfl, rfl, rfl⟩ q)
  | txt x t =>
    cases ha : x.cps.all (· < 128)
    · exact wpAny_pyIter_wide ha (pi_one (tk := s.toks) I _ (turn_str _ x t "str_iterator" (.inr rfl)) ⟨_, Heap.get?_push_size _ rfl, rfl, rfl⟩ q)
    · exact wpAny_pyIter_ascii ha (pi_one (tk := s.toks) I _ (turn_str _ x t "str_ascii_iterator" (.inl rfl)) ⟨_, Heap.get?_push_size _ rfl, rfl, rfl⟩ q)
theorem pi_val {e : Expr} {f : Env → M PV} (he : PE X e (rd X.K f)) : PI X tg e (rdI X.K fun r => M.bind (f r) iterOf) := by
  refine ⟨fun pins s σ H R I ⟨m, r, st, e1, s1, h⟩ => ?_⟩
  refine thn (he.run pins s σ H (fun v H1 => ∃ m1 st1 p, SRep X.K m1 H1 st1 ∧ Rep X.K m1 st1.nxt H1 v p ∧ FinI X.K m1 st1 H1 (iterOf p st1) R) I ⟨m, r, st, e1, s1, FinI.seq (rel := Rep X.K) h fun v H1 m1 st1 p e0 t s2 r1 q => ⟨m1, st1, p, s2, r1, q⟩⟩) fun u s1 ⟨x, H1, I1, rx, m1, st1, p, s2, r1, q⟩ => ?_
  cases e2 : iterOf p st1 with
  | err => rw [e2] at q; exact q.elim
  | ok J st2 =>
    rw [e2] at q
    obtain ⟨rfl, c, vs, rfl, h1, h2⟩ := cm_of s2 r1 rx e2
    exact Cm.start I1 h1 (q _ _ _ (.refl _ _ _) s2 (h2.jv s2))

/-! ### ranges -/
theorem upto_at : ∀ (n : Nat) (lo : Int) (i : Nat), (upto lo n)[i]? = if i < n then some (PV.int (lo + i)) else none
  | 0, lo, i => by simp [upto]
  | n + 1, lo, 0 => by simp [upto]
  | n + 1, lo, i + 1 => by
    rw [upto, List.getElem?_cons_succ, upto_at n]
    have e : lo + 1 + (i : Int) = lo + ((i + 1 : Nat) : Int) := by omega
    rw [e]
    by_cases h : i < n
    · rw [if_pos h, if_pos (Nat.succ_lt_succ h)]
    · rw [if_neg h, if_neg (fun q => h (Nat.lt_of_succ_lt_succ q))]
theorem upto_len : ∀ (n : Nat) (lo : Int), (upto lo n).length = n
  | 0, lo => rfl
  | n + 1, lo => by rw [upto, List.length_cons, upto_len n]
theorem downto_at : ∀ (n : Nat) (lo : Int) (i : Nat), (downto lo n)[i]? = if i < n then some (PV.int (lo - i)) else none
  | 0, lo, i => by simp [downto]
  | n + 1, lo, 0 => by simp [downto]
  | n + 1, lo, i + 1 => by
    rw [downto, List.getElem?_cons_succ, downto_at n]
    have e : lo - 1 - (i : Int) = lo - ((i + 1 : Nat) : Int) := by omega
    rw [e]
    by_cases h : i < n
    · rw [if_pos h, if_pos (Nat.succ_lt_succ h)]
    · rw [if_neg h, if_neg (fun q => h (Nat.lt_of_succ_lt_succ q))]
theorem downto_len : ∀ (n : Nat) (lo : Int), (downto lo n).length = n
  | 0, lo => rfl
  | n + 1, lo => by rw [downto, List.length_cons, downto_len n]
theorem jok_up {K : PySem.W.Frag} {m : Pl} {st : Sto} {H : Hp} (lo : Int) (n : Nat) : JOk K m st H (L2.Itr lo n) (.fix (upto lo n)) := by
  refine ⟨fun m2 st2 H2 i p t s2 e => ?_, fun m2 st2 H2 i t s2 e => ?_⟩
  · have e : seqAt (upto lo n) i = some (some p) := e
    unfold seqAt at e
    rw [upto_at] at e
    by_cases h : i < n
    · rw [if_pos h] at e
      cases e
      exact ⟨h, fun v H3 ⟨y1, y2⟩ => by subst y1 y2; exact ⟨.refl _ _ _, s2, .int _⟩⟩
    · rw [if_neg h] at e
      by_cases z : (i == (upto lo n).length) = true
      · simp only [z, if_true] at e; cases e
      · simp only [z, if_false] at e; cases e
  · have e : seqAt (upto lo n) i = some none := e
    unfold seqAt at e
    rw [upto_at] at e
    by_cases h : i < n
    · rw [if_pos h] at e; cases e
    · exact Nat.le_of_not_lt h
theorem jok_down {K : PySem.W.Frag} {m : Pl} {st : Sto} {H : Hp} (lo : Int) (n : Nat) : JOk K m st H (Itc lo (-1) n) (.fix (downto lo n)) := by
  refine ⟨fun m2 st2 H2 i p t s2 e => ?_, fun m2 st2 H2 i t s2 e => ?_⟩
  · have e : seqAt (downto lo n) i = some (some p) := e
    unfold seqAt at e
    rw [downto_at] at e
    by_cases h : i < n
    · rw [if_pos h] at e
      cases e
      refine ⟨h, fun v H3 ⟨y1, y2⟩ => ?_⟩
      subst y1 y2
      have e : lo + ((i : Nat) : Int) * (-1) = lo - i := by omega
      rw [e]
      exact ⟨.refl _ _ _, s2, .int _⟩
    · rw [if_neg h] at e
      by_cases z : (i == (downto lo n).length) = true
      · simp only [z, if_true] at e; cases e
      · simp only [z, if_false] at e; cases e
  · have e : seqAt (downto lo n) i = some none := e
    unfold seqAt at e
    rw [downto_at] at e
    by_cases h : i < n
    · rw [if_pos h] at e; cases e
    · exact Nat.le_of_not_lt h
theorem rng_ok {i : Int} (h : rngOk i = true) : -(2 ^ 62) ≤ i ∧ i < 2 ^ 62 := by
  unfold rngOk at h
  rw [Bool.and_eq_true, decide_eq_true_eq, decide_eq_true_eq] at h
  exact h
theorem rdA.mono {K : PySem.W.Frag} {f : Env → M (List PV)} {σ : L2.St} {H : Hp} {Q Q' : List V → Hp → Prop} (h : rdA K f σ H Q) (k : ∀ v H, Q v H → Q' v H) : rdA K f σ H Q' :=
  let ⟨m, r, st, e, s, q⟩ := h; ⟨m, r, st, e, s, q.mono k⟩
theorem reps1 {K : PySem.W.Frag} {m : Pl} {n : Nat} {H : Hp} {vs : List V} {p : PV} (h : Reps K m n H vs [p]) : ∃ v, vs = [v] ∧ Rep K m n H v p := by
  cases h with
  | cons a b => cases b; exact ⟨_, rfl, a⟩
theorem reps2 {K : PySem.W.Frag} {m : Pl} {n : Nat} {H : Hp} {vs : List V} {p q : PV} (h : Reps K m n H vs [p, q]) : ∃ v w, vs = [v, w] ∧ Rep K m n H v p ∧ Rep K m n H w q := by
  cases h with
  | cons a b => obtain ⟨w, rfl, r⟩ := reps1 b; exact ⟨_, _, rfl, a, r⟩
theorem pi_rng {es : List Expr} {f : Env → M (List PV)} {p pos : Pos} (hg : Gl X "range") (hm : X.mg "range" = none) (ha : PA X es (rdA X.K f)) (hn : es.length = 1 ∨ es.length = 2 ∨ es.length = 3)
    (hs : ∀ e ∈ es, NoStar X e) (hl : ∀ r st ps st', f r st = .ok ps st' → ps.length = es.length) : PI X tg (.Call (.Name "range" p) es [] pos) (rdI X.K fun r => M.bind (f r) rngM) := by
  have go : ∀ {σ : L2.St} {H : Hp} {R : It → Hp → Prop}, rdI X.K (fun r => M.bind (f r) rngM) σ H R → rdA X.K f σ H fun vs H1 => ∃ m1 st1 ps, ps.length = es.length ∧ SRep X.K m1 H1 st1 ∧ Reps X.K m1 st1.nxt H1 vs ps ∧ FinI X.K m1 st1 H1 (rngM ps st1) R :=
    fun ⟨m, r, st, e1, s1, h⟩ => ⟨m, r, st, e1, s1, FinI.seq (rel := Reps X.K) h fun v H1 m1 st1 p e0 t s2 r1 q => ⟨m1, st1, p, hl _ _ _ _ e0, s2, r1, q⟩⟩
  rcases es with _ | ⟨a, _ | ⟨b, _ | ⟨c, _ | ⟨d, es⟩⟩⟩⟩
  · simp at hn
  · refine PI.conseq (pi_range1 hg hm ha (by rw [hs a (by simp)]; rfl)) fun σ H R h => (go h).mono fun vs H1 ⟨m1, st1, ps, l, s2, r1, q⟩ => ?_
    rcases ps with _ | ⟨x, _ | ⟨y, ps⟩⟩
    · simp at l
    · obtain ⟨v, rfl, rv⟩ := reps1 r1
      cases x <;> try exact q.elim
      rename_i i
      cases rv
      unfold rngM at q
      by_cases z : rngOk i = true
      · simp only [z, if_true] at q
        exact ⟨i, rfl, (rng_ok z).1, (rng_ok z).2, q _ _ _ (.refl _ _ _) s2 (jok_up 0 _)⟩
      · simp only [z, if_false] at q; exact q.elim
    · simp at l
  · refine PI.conseq (pi_range2 hg hm ha (by rw [hs a (by simp), hs b (by simp)]; rfl) (by rw [hs b (by simp)]; rfl)) fun σ H R h => (go h).mono fun vs H1 ⟨m1, st1, ps, l, s2, r1, q⟩ => ?_
    rcases ps with _ | ⟨x, _ | ⟨y, _ | ⟨z, ps⟩⟩⟩
    · simp at l
    · simp at l
    · obtain ⟨v, w, rfl, rv, rw_⟩ := reps2 r1
      cases x <;> try exact q.elim
      cases y <;> try exact q.elim
      rename_i i j
      cases rv
      cases rw_
      unfold rngM at q
      by_cases z : (rngOk i && rngOk j) = true
      · simp only [z, if_true] at q
        rw [Bool.and_eq_true] at z
        exact ⟨i, j, rfl, ⟨(rng_ok z.1).1, (rng_ok z.1).2, (rng_ok z.2).1, (rng_ok z.2).2⟩, q _ _ _ (.refl _ _ _) s2 (jok_up i _)⟩
      · simp only [z, if_false] at q; exact q.elim
    · simp at l
  · refine PI.conseq (pi_range3 hg hm ha (by rw [hs a (by simp)]) (by rw [hs b (by simp), hs c (by simp)]; rfl)) fun σ H R h => (go h).mono fun vs H1 ⟨m1, st1, ps, l, s2, r1, q⟩ => ?_
    rcases ps with _ | ⟨x, _ | ⟨y, _ | ⟨z, _ | ⟨u, ps⟩⟩⟩⟩
    · simp at l
    · simp at l
    · simp at l
    · cases r1 with
      | cons ra r1 =>
        obtain ⟨v, w, rfl, rv, rw_⟩ := reps2 r1
        unfold rngM at q
        split at q
        · rename_i e; cases e
        · rename_i e; cases e
        · rename_i i j e
          cases e
          cases ra
          cases rv
          cases rw_
          by_cases z : (rngOk i && rngOk j) = true
          · simp only [z, if_true] at q
            rw [Bool.and_eq_true] at z
            exact ⟨i, j, -1, (i - j).toNat, rfl, RgC.neg (rng_ok z.1).1 (rng_ok z.1).2 (rng_ok z.2).1 (rng_ok z.2).2, q _ _ _ (.refl _ _ _) s2 (jok_down i _)⟩
          · simp only [z, if_false] at q; exact q.elim
        · exact q.elim
    · simp at l
  · simp at hn

/-! ### enumerate -/
theorem new_tup {K : PySem.W.Frag} {m : Pl} {st : Sto} {H : Hp} (s : SRep K m H st) {T : Addr} {o : Obj} {vs : List V} {ps : List PV} (hT : H T = none) (hd : o.dict = none) (r : Reps K m st.nxt H vs ps) :
    Step m st H m st (upd H T (.frz o (.tup vs))) ∧ SRep K m (upd H T (.frz o (.tup vs))) st ∧ Rep K m st.nxt (upd H T (.frz o (.tup vs))) (.ref T) (.tup ps) := by
  have t := Step.tup s hT (.frz o (.tup vs))
  exact ⟨t, s.tup hT _, .tup (.of upd_same hd) (Reps.step s t ps vs r)⟩
theorem COk.je {K : PySem.W.Frag} {m : Pl} {st : Sto} {H : Hp} {c : Cm} {I : Itr} (s : SRep K m H st) (h : COk K m st H c I) : JOk K m st H (ItE K c) (.en I) := by
  refine ⟨fun m2 st2 H2 i p t s2 e => ?_, fun m2 st2 H2 i t s2 e => ?_⟩
  · unfold Itr.at at e
    cases e1 : I.at st2 i with
    | none => rw [e1] at e; cases e
    | some o =>
      cases o with
      | none => rw [e1] at e; cases e
      | some q =>
        rw [e1] at e
        cases e
        obtain ⟨vs, v, h1, h2, h3⟩ := (h.step t).item s2 e1
        refine ⟨⟨vs, v, h1, h2⟩, fun w H3 y => ?_⟩
        obtain ⟨T, x, o, rfl, hT, hd, rfl, y⟩ := y
        have := y vs h1
        rw [h2] at this
        cases this
        exact new_tup s2 hT hd (.cons (.int _) (.cons h3 .nil))
  · unfold Itr.at at e
    cases e1 : I.at st2 i with
    | none => rw [e1] at e; cases e
    | some o =>
      cases o with
      | some q => rw [e1] at e; cases e
      | none => exact (h.step t).done s2 e1
theorem meets_enumB {v : Value} {o : Obj} {H : Heap → Prop} (B : Begins v o H) :
    Meets (Builtin.«enumerate.__new__» ⟨[.type "enumerate", v], []⟩) (fun _ R s => H s.heap ∧
      R (.ok (.ret (.ref (s.heap.push o).objs.size))) { s with heap := (s.heap.push o).push { cls := .type "enumerate", data := .fields #[.none, .bool false, .ref s.heap.objs.size, rawInt 0, .none, .none] } }) :=
  .of_wp fun prog w A R s h => by
    obtain ⟨hp, g, d, tk, os⟩ := s; obtain ⟨h1, h⟩ := h
    have hsub := sub_enumerate
    have q1 : ∀ {A' : Around} {E : Value → Shared → Prop} {Q : Value → Shared → Prop}, Q (.ref hp.objs.size) ⟨hp.push o, g, d, tk, os⟩ → wpAny (model prog w) A' (pyIter v) Q E ⟨hp, g, d, tk, os⟩ :=
      fun q => B.iter prog w _ _ ⟨hp, g, d, tk, os⟩ _ h1 q
    wp_walk using q1
    refine wpAny_stack_any fun st => wpAny_pure ?_
    split
    · rename_i c _ _ _ _ _
      cases (c == Value.type "enumerate")
      · wp_walk using q1
        exact ⟨_, rfl, h⟩
      · wp_walk using q1
        exact ⟨_, rfl, h⟩
    · wp_walk using q1
      exact ⟨_, rfl, h⟩
theorem enum_begins1 {prog : Program} {w : World} {A : Around} {E : Value → Shared → Prop} {s : Shared} {v : Value} {o : Obj} {H : Heap → Prop} {Q : Value → Shared → Prop} (B : Begins v o H) (h1 : H s.heap)
    (h : ∀ h', IsEnum h' (s.heap.objs.size + 1) s.heap.objs.size 0 .none → h'.get? s.heap.objs.size = some o → h'.objs.size = s.heap.objs.size + 2 →
      (∀ b o, s.heap.get? b = some o → h'.get? b = some o) → Q (.ref (s.heap.objs.size + 1)) { s with heap := h' }) :
    wpAny (model prog w) A (call (.type "enumerate") [v]) Q E s := by
  refine callType_new F.called_enumerate (by decide) (F.typeCall_enumerate_1 _) (F.newCall_enumerate_1 _) (fun obj => F.args_object_init_2 obj _) F.entry_enumerate_new
    (meets_enumB B) ⟨h1, ?_⟩
  have hz : (s.heap.push o).objs.size = s.heap.objs.size + 1 := Heap.size_push ..
  show _ ∧ _
  rw [hz]
  have he : IsEnum ((s.heap.push o).push { cls := .type "enumerate", data := .fields #[.none, .bool false, .ref s.heap.objs.size, rawInt 0, .none, .none] }) (s.heap.objs.size + 1) s.heap.objs.size 0 .none := by
    have := Heap.get?_push_size (s.heap.push o) (o := { cls := .type "enumerate", data := .fields #[.none, .bool false, .ref s.heap.objs.size, rawInt 0, .none, .none] }) rfl
    rw [hz] at this; exact this
  refine ⟨⟨_, he, rfl⟩, h _ he (Heap.get?_push_of_some _ (Heap.get?_push_size _ B.free)) (by rw [Heap.size_push, hz]) fun b o x => Heap.get?_push_of_some _ (Heap.get?_push_of_some _ x)⟩
theorem pi_en {e : Expr} {f : Env → M PV} {p pos tpos : Pos} {elts : List Expr} {kk : Nat} (hg : Gl X "enumerate") (hm : X.mg "enumerate" = none) (he : PE X e (rd X.K f)) (hs : NoStar X e) :
    PI X (.Tuple elts kk tpos) (.Call (.Name "enumerate" p) [e] [] pos) (rdI X.K fun r => M.bind (f r) fun x => M.bind (iterOf x) fun it => M.pure (.en it)) := by
  refine ⟨fun pins s σ H R I ⟨m, r, st, e1, s1, h⟩ => ?_⟩
  have ha : PA X [e] (tCons (rd X.K f) tNil) := pa_cons he pa_nil (hs _)
  refine Call_ (ld_blt I hg hm boot_enumerate (PyProof.Rows.callWith_type1 (thn (ha.run pos pins s σ H (fun vs H1 => ∃ v m1 st1 p, vs = [v] ∧ SRep X.K m1 H1 st1 ∧ Rep X.K m1 st1.nxt H1 v p ∧ FinI X.K m1 st1 H1 (M.bind (iterOf p) (fun it => M.pure (.en it)) st1) R) I
    ⟨m, r, st, e1, s1, FinI.seq (rel := Rep X.K) h fun v H1 m1 st1 p e0 t s2 r1 q => ⟨v, m1, st1, p, rfl, s2, r1, q⟩⟩) fun us s1 ⟨vs, H1, I1, r1, v, m1, st1, p, ev, s2, rp, q⟩ => ?_) (hs _) rfl))
  subst ev
  obtain ⟨u, rfl, ru⟩ := vals1 r1
  cases e2 : iterOf p st1 with
  | err => unfold M.bind at q; rw [e2] at q; exact q.elim
  | ok J st2 =>
    unfold M.bind at q
    rw [e2] at q
    obtain ⟨rfl, c, vs, rfl, h1, h2⟩ := cm_of s2 rp ru e2
    obtain ⟨o, Hc, B, hB, hri, hsrc⟩ := Cm.begins I1 h1
    refine enum_begins1 B hB fun h' he hit hsz hk => wpAny_pyIter_enum he ?_
    have I2 : L2.Inv X pins σ H1 { s1 with heap := h' } := I1.kept (t' := s1.toks) hk
    refine ⟨s1.heap.objs.size + 1, [s1.heap.objs.size + 1, s1.heap.objs.size], _, _, H1, rfl, I2, turn_enumC c (s1.heap.objs.size + 1) s1.heap.objs.size (fun hm => ?_) (fun hm => absurd (hsrc _ hm) (Nat.lt_irrefl _)), ⟨⟨.none, he⟩, hri _ _ hit⟩, fun b hb => ?_, q _ _ _ (.refl _ _ _) s2 (h2.je s2)⟩
    · rcases List.mem_cons.mp hm with z | z
      · exact Nat.succ_ne_self _ z
      · exact absurd (Nat.lt_trans (Nat.lt_succ_self _) (hsrc _ z)) (Nat.lt_irrefl _)
    · have e' : b = s1.heap.objs.size + 1 ∨ b = s1.heap.objs.size := by simpa using hb
      have hle : s1.heap.objs.size ≤ b := by
        rcases e' with z | z
        · rw [z]; exact Nat.le_add_right _ _
        · rw [z]; exact Nat.le_refl _
      exact I1.fpOk hle (I1.hok.fresh hle)

/-! ### zip -/
theorem COk.jz {K : PySem.W.Frag} {m : Pl} {st : Sto} {H : Hp} {c c2 : Cm} {I I2 : Itr} (b : Bool) (s : SRep K m H st) (h : COk K m st H c I) (h' : COk K m st H c2 I2) : JOk K m st H (ItZ K b c c2) (.zp b I I2) := by
  refine ⟨fun m2 st2 H2 i p t s2 e => ?_, fun m2 st2 H2 i t s2 e => ?_⟩
  · unfold Itr.at at e
    cases e1 : I.at st2 i with
    | none => rw [e1] at e; simp at e
    | some o =>
      cases e2 : I2.at st2 i with
      | none => rw [e1, e2] at e; cases o <;> simp at e
      | some o2 =>
        rw [e1, e2] at e
        cases o with
        | none => cases o2 <;> cases b <;> simp at e
        | some q =>
          cases o2 with
          | none => cases b <;> simp at e
          | some q2 =>
            simp only [Option.some.injEq] at e
            subst e
            obtain ⟨vs, v, h1, h2, h3⟩ := (h.step t).item s2 e1
            obtain ⟨vs2, v2, h12, h22, h32⟩ := (h'.step t).item s2 e2
            refine ⟨⟨vs, vs2, v, v2, h1, h12, h2, h22⟩, fun w H3 y => ?_⟩
            obtain ⟨T, x, x2, o, rfl, hT, hd, rfl, y, y2⟩ := y
            have a1 := y vs h1
            rw [h2] at a1
            cases a1
            have a2 := y2 vs2 h12
            rw [h22] at a2
            cases a2
            exact new_tup s2 hT hd (.cons h3 (.cons h32 .nil))
  · unfold Itr.at at e
    cases e1 : I.at st2 i with
    | none => rw [e1] at e; simp at e
    | some o =>
      cases e2 : I2.at st2 i with
      | none => rw [e1, e2] at e; cases o <;> simp at e
      | some o2 =>
        rw [e1, e2] at e
        cases o with
        | none =>
          obtain ⟨vs, h1, h2⟩ := (h.step t).done s2 e1
          cases o2 with
          | none =>
            obtain ⟨vs2, h12, h22⟩ := (h'.step t).done s2 e2
            exact ⟨vs, vs2, h1, h12, Nat.le_of_eq h2.symm, Nat.le_of_eq h22.symm, .inl h2.symm, fun _ => ⟨h2.symm, h22.symm⟩⟩
          | some q2 =>
            obtain ⟨vs2, v2, h12, h22, h32⟩ := (h'.step t).item s2 e2
            cases b
            · exact ⟨vs, vs2, h1, h12, Nat.le_of_eq h2.symm, Nat.le_of_lt (List.getElem?_eq_some_iff.mp h22).1, .inl h2.symm, fun z => nomatch z⟩
            · simp at e
        | some q =>
          obtain ⟨vs, v, h1, h2, h3⟩ := (h.step t).item s2 e1
          cases o2 with
          | none =>
            obtain ⟨vs2, h12, h22⟩ := (h'.step t).done s2 e2
            cases b
            · exact ⟨vs, vs2, h1, h12, Nat.le_of_lt (List.getElem?_eq_some_iff.mp h2).1, Nat.le_of_eq h22.symm, .inr h22.symm, fun z => nomatch z⟩
            · simp at e
          | some q2 => simp at e
theorem ne_add {z k j : Nat} (h : k ≠ j) : z + k ≠ z + j := by omega
theorem sepZ {z : Nat} {f1 f2 : List Addr} (h1 : ∀ a ∈ f1, a < z) (h2 : ∀ a ∈ f2, a < z) : ZipSep2 (z + 4) (z + 2) (z + 3) z (z + 1) (z :: f1) ((z + 1) :: f2) := by
  have g1 : ∀ k, z + k ∉ f1 := fun k hm => absurd (h1 _ hm) (Nat.not_lt.mpr (Nat.le_add_right _ _))
  have g2 : ∀ k, z + k ∉ f2 := fun k hm => absurd (h2 _ hm) (Nat.not_lt.mpr (Nat.le_add_right _ _))
  refine ⟨ne_add (by decide), ne_add (by decide), ne_add (by decide), ne_add (j := 0) (by decide), List.mem_cons_self .., fun hm => ?_, fun hm => ?_, ne_add (by decide), List.mem_cons_self .., fun hm => ?_, fun hm => ?_, fun hm => ?_, fun hm => ?_⟩
  · rcases List.mem_cons.mp hm with q | q
    · exact ne_add (j := 0) (by decide) q
    · exact g1 _ q
  · rcases List.mem_cons.mp hm with q | q
    · exact ne_add (j := 0) (by decide) q
    · exact g1 _ q
  · rcases List.mem_cons.mp hm with q | q
    · exact ne_add (by decide) q
    · exact g2 _ q
  · rcases List.mem_cons.mp hm with q | q
    · exact ne_add (by decide) q
    · exact g2 _ q
  · rcases List.mem_cons.mp hm with q | q
    · exact ne_add (k := 0) (by decide) q
    · exact g2 0 q
  · rcases List.mem_cons.mp hm with q | q
    · exact ne_add (j := 0) (by decide) q
    · exact g1 _ q
/-- how the call of zip is made -/
theorem zip_call {b : Bool} {A : Around} {E : Value → Shared → Prop} {s : Shared} {P : Program} {w : World} {v1 v2 : Value} {o1 o2 : Obj} {H1 H2 : Heap → Prop} {Q : Value → Shared → Prop} (B1 : Begins v1 o1 H1) (B2 : Begins v2 o2 H2) (h1 : H1 s.heap) (h2 : H2 s.heap)
    (h : ∀ h', IsZ b h' (s.heap.objs.size + 4) (s.heap.objs.size + 2) (s.heap.objs.size + 3) .none → IsTupOf2 h' (s.heap.objs.size + 2) (.ref s.heap.objs.size) (.ref (s.heap.objs.size + 1)) →
      IsTupOf2 h' (s.heap.objs.size + 3) .none .none → h'.get? s.heap.objs.size = some o1 → h'.get? (s.heap.objs.size + 1) = some o2 → h'.objs.size = s.heap.objs.size + 5 →
      (∀ c o, s.heap.get? c = some o → h'.get? c = some o) → Q (.ref (s.heap.objs.size + 4)) { s with heap := h' }) :
    wpAny (model P w) A (call (.type "zip") [v1, v2] (if b then kwS else [])) Q E s := by
  cases b
  · exact zip_begins2 B1 B2 h1 h2 h
  · exact zipS_begins B1 B2 h1 h2 h
/-- the two values have come -/
theorem zip_done {b : Bool} {pins : List (Addr × Obj)} {σ : L2.St} {H1 : Hp} {s1 : Shared} {R : It → Hp → Prop} {tpos : Pos} {elts : List Expr} {kk : Nat} {v v2 : V} {u u2 : Value} {m1 : Pl} {st1 : Sto} {p p2 : PV} (I1 : L2.Inv X pins σ H1 s1) (s2 : SRep X.K m1 H1 st1)
    (rp : Rep X.K m1 st1.nxt H1 v p) (rp2 : Rep X.K m1 st1.nxt H1 v2 p2) (ru : RelV v u) (ru2 : RelV v2 u2) (q : FinI X.K m1 st1 H1 (M.bind (iterOf p) (fun i => M.bind (iterOf p2) fun j => M.pure (.zp b i j)) st1) R) :
    wpAny (model X.prog X.w) X.A (call (.type "zip") [u, u2] (if b then kwS else [])) (fun v s' => wpAny (model X.prog X.w) X.A (pyIter v) (PIE X pins σ (.Tuple elts kk tpos) R) X.xe s') X.xe s1 := by
  unfold M.bind at q
  cases e2 : iterOf p st1 with
  | err => rw [e2] at q; exact q.elim
  | ok J st2 =>
    rw [e2] at q
    obtain ⟨rfl, c, vs, rfl, h1, h2⟩ := cm_of s2 rp ru e2
    simp only at q
    cases e3 : iterOf p2 st2 with
    | err => rw [e3] at q; exact q.elim
    | ok J2 st3 =>
      rw [e3] at q
      obtain ⟨rfl, c2, vs2, rfl, h12, h22⟩ := cm_of s2 rp2 ru2 e3
      obtain ⟨o, Hc, B, hB, hri, hsrc⟩ := Cm.begins I1 h1
      obtain ⟨o2, Hc2, B2, hB2, hri2, hsrc2⟩ := Cm.begins I1 h12
      refine zip_call B B2 hB hB2 fun h' hz hTI hTO g1 g2 hsz hk => iterZ hz ?_
      have I2 : L2.Inv X pins σ H1 { s1 with heap := h' } := I1.kept (t' := s1.toks) hk
      refine ⟨s1.heap.objs.size + 4, [s1.heap.objs.size + 4, s1.heap.objs.size + 2, s1.heap.objs.size + 3, s1.heap.objs.size, s1.heap.objs.size + 1], _, _, H1, rfl, I2,
        turn_zipC b c c2 (sepZ hsrc hsrc2) (fun hm => absurd (hsrc _ hm) (Nat.lt_irrefl _)) (fun hm => absurd (Nat.lt_trans (Nat.lt_succ_self _) (hsrc2 _ hm)) (Nat.lt_irrefl _)),
        ⟨hz, hTI, ⟨_, _, hTO⟩, hri _ _ g1, hri2 _ _ g2⟩, fun c hcm => ?_, q _ _ _ (.refl _ _ _) s2 (COk.jz b s2 h2 h22)⟩
      have e' : c = s1.heap.objs.size + 4 ∨ c = s1.heap.objs.size + 2 ∨ c = s1.heap.objs.size + 3 ∨ c = s1.heap.objs.size ∨ c = s1.heap.objs.size + 1 := by simpa using hcm
      have hle : s1.heap.objs.size ≤ c := by
        rcases e' with z | z | z | z | z
        · rw [z]; exact Nat.le_add_right _ _
        · rw [z]; exact Nat.le_add_right _ _
        · rw [z]; exact Nat.le_add_right _ _
        · rw [z]; exact Nat.le_refl _
        · rw [z]; exact Nat.le_add_right _ _
      exact I1.fpOk hle (I1.hok.fresh hle)
/-- two values, from the left -/
theorem two_vals {e e2 : Expr} {f f2 : Env → M PV} (he : PE X e (rd X.K f)) (he2 : PE X e2 (rd X.K f2)) {σ : L2.St} {H : Hp} {b : Bool} {R : It → Hp → Prop}
    (h : rdI X.K (fun r => M.bind (f r) fun x => M.bind (f2 r) fun y => M.bind (iterOf x) fun i => M.bind (iterOf y) fun j => M.pure (.zp b i j)) σ H R) :
    tCons (rd X.K f) (tCons (rd X.K f2) tNil) σ H fun vs H1 => ∃ v v2 m1 st1 p p2, vs = [v, v2] ∧ SRep X.K m1 H1 st1 ∧ Rep X.K m1 st1.nxt H1 v p ∧ Rep X.K m1 st1.nxt H1 v2 p2 ∧ FinI X.K m1 st1 H1 (M.bind (iterOf p) (fun i => M.bind (iterOf p2) fun j => M.pure (.zp b i j)) st1) R := by
  obtain ⟨m, r, st, e1, s1, h⟩ := h
  refine ⟨m, r, st, e1, s1, FinI.seq (rel := Rep X.K) h fun v H1 m1 st1 p e0 t s2 r1 q => ?_⟩
  refine ⟨m1, r, st1, e1.step s1 t, s2, FinI.seq (rel := Rep X.K) q fun v2 H2 m2 st2 p2 e0 t2 s3 r2 q2 => ?_⟩
  exact ⟨v, v2, m2, st2, p, p2, rfl, s3, Rep.step s2 t2 p v r1, r2, q2⟩
theorem pi_zp {e e2 : Expr} {f f2 : Env → M PV} {p pos tpos : Pos} {elts : List Expr} {kk : Nat} (hg : Gl X "zip") (hm : X.mg "zip" = none) (he : PE X e (rd X.K f)) (he2 : PE X e2 (rd X.K f2))
    (hs : NoStar X e) (hs2 : NoStar X e2) :
    PI X (.Tuple elts kk tpos) (.Call (.Name "zip" p) [e, e2] [] pos) (rdI X.K fun r => M.bind (f r) fun x => M.bind (f2 r) fun y => M.bind (iterOf x) fun i => M.bind (iterOf y) fun j => M.pure (.zp false i j)) := by
  refine ⟨fun pins s σ H R I h => ?_⟩
  have ha : PA X [e, e2] (tCons (rd X.K f) (tCons (rd X.K f2) tNil)) := pa_cons he (pa_cons he2 pa_nil (hs2 _)) (hs _)
  refine Call_ (ld_blt I hg hm PyProof.Rows.boot_zip (PyProof.Rows.callWith_type1 (thn (ha.run pos pins s σ H _ I (two_vals he he2 h)) fun us s1 ⟨vs, H1, I1, r1, v, v2, m1, st1, p, p2, ev, s2, rp, rp2, q⟩ => ?_) (hs _) (by rw [hs2]; rfl)))
  subst ev
  obtain ⟨u, u2, rfl, ru, ru2⟩ := vals2 r1
  exact zip_done (b := false) I1 s2 rp rp2 ru ru2 q
theorem callWith_type_kw {M : Model} {A : Around} {E : Value → Shared → Prop} {s : Shared} {pos : Pos} {T : String} {first : List Value} {args : List (Bool × Sem Value)} {keywords : List (Option Str × Sem Value)} {Q : Value → Shared → Prop}
    (hplain : args.any (·.1) = false) (hkw : keywords.any (·.1.isNone) = false)
    (h : wpAny M A (evalArgs (.type T) true args keywords) (fun a s₁ => wpAny M A (call (.type T) (first ++ a.pos) a.kw) Q E s₁) E s) :
    wpAny M A (callWith pos (.type T) first args keywords) Q E s := by
  unfold callWith
  refine wpAny_bind (wpAny_holding (wpAny_mono h (fun a s₁ h₁ => wpAny_bind (wpAny_standAt ?_)) fun _ _ x => x))
  simp only [hplain, hkw, Bool.or_false]
  refine wpAny_bind (wpAny_pure ?_)
  exact wpAny_bind (wpAny_mono h₁ (fun r s₂ hr => wpAny_bind (wpAny_holding (wpAny_point (wpAny_pure hr)))) fun _ _ x => x)
theorem pi_zpS {e e2 : Expr} {f f2 : Env → M PV} {p pos tpos kpos cpos : Pos} {elts : List Expr} {kk ck : Nat} (hg : Gl X "zip") (hm : X.mg "zip" = none) (he : PE X e (rd X.K f)) (he2 : PE X e2 (rd X.K f2))
    (hs : NoStar X e) (hs2 : NoStar X e2) :
    PI X (.Tuple elts kk tpos) (.Call (.Name "zip" p) [e, e2] [⟨some "strict", .Constant (.bool true) ck cpos, kpos⟩] pos) (rdI X.K fun r => M.bind (f r) fun x => M.bind (f2 r) fun y => M.bind (iterOf x) fun i => M.bind (iterOf y) fun j => M.pure (.zp true i j)) := by
  refine ⟨fun pins s σ H R I h => ?_⟩
  have ha : PA X [e, e2] (tCons (rd X.K f) (tCons (rd X.K f2) tNil)) := pa_cons he (pa_cons he2 pa_nil (hs2 _)) (hs _)
  have hk : PK X [⟨some "strict", .Constant (.bool true) ck cpos, kpos⟩] (tCons (tC (.bl true)) tNil) := pk_cons pe_bl pk_nil
  refine wpAny_Call_Name_kw (ld_blt I hg hm PyProof.Rows.boot_zip (callWith_type_kw ?_ rfl ?_))
  · rw [hs, hs2]; rfl
  · have ha' := ha.run pos pins s σ H _ I (two_vals he he2 h)
    rw [hs] at ha' ⊢
    refine evalArgs_kwB rfl (thn ha' fun us s1 ⟨vs, H1, I1, r1, v, v2, m1, st1, p, p2, ev, s2, rp, rp2, q⟩ => ?_)
    subst ev
    obtain ⟨u, u2, rfl, ru, ru2⟩ := vals2 r1
    refine thn (hk.run pos pins s1 σ H1 (fun zs H2 => zs = [.bl true] ∧ H2 = H1) I1 ⟨rfl, rfl⟩) fun ws s2' ⟨zs, H2, I2, rz, ez, eh⟩ => ?_
    subst ez eh
    obtain ⟨wz, rfl, rw_⟩ := vals1 rz
    cases rw_
    exact zip_done (b := true) I2 s2 rp rp2 ru ru2 q
end
end Dp


set_option Elab.async false
set_option linter.all false
set_option maxRecDepth 100000
set_option maxHeartbeats 4000000
set_option autoImplicit false
/-! DpRd: the readings of expressions, put together. -/
namespace Dp
open PySem L2 PySem.Spec PyProof.Rows

def rdO (K : PySem.W.Frag) (f : Env → M (Option Int)) : TO := fun σ H Q => ∃ m r st, ERep K m st.nxt H σ r ∧ SRep K m H st ∧ FinG K relO m st H (f r st) Q

section
variable {X : Cx} {a b c e : Expr} {es : List Expr} {f g h : Env → M PV} {fs : Env → M (List PV)} {pos p : Pos}
/-- one value, then more -/
theorem rd1_of {K : PySem.W.Frag} {f : Env → M PV} {F : PV → M PV} {σ : L2.St} {H : Hp} {Q : VK} (h : rd K (fun r => M.bind (f r) F) σ H Q) : rd K f σ H fun x H1 => rd1 K F x H1 Q :=
  let ⟨m, r, st, E, S, q⟩ := h; ⟨m, r, st, E, S, q.seq fun v H1 m1 st1 p t S1 rp F1 => ⟨m1, st1, p, S1, rp, F1⟩⟩
theorem rd2_of {K : PySem.W.Frag} {f g : Env → M PV} {F : PV → PV → M PV} {σ : L2.St} {H : Hp} {Q : VK} (h : rd K (fun r => M.bind (f r) fun x => M.bind (g r) fun y => F x y) σ H Q) : rd K f σ H fun x H1 => rd K g σ H1 fun y H2 => rd2 K F x y H2 Q :=
  let ⟨m, r, st, E, S, q⟩ := h; ⟨m, r, st, E, S, q.seq fun v H1 m1 st1 p t S1 rp F1 => ⟨m1, r, st1, E.step S t, S1, F1.seq fun w H2 m2 st2 q t2 S2 rq F2 => ⟨m2, st2, p, q, S2, Rep.step S1 t2 p v rp, rq, F2⟩⟩⟩
theorem rdL_of {K : PySem.W.Frag} {f : Env → M (List PV)} {F : List PV → M PV} {σ : L2.St} {H : Hp} {Q : VK} (h : rd K (fun r => M.bind (f r) F) σ H Q) : rdA K f σ H fun xs H1 => rdL K F xs H1 Q :=
  let ⟨m, r, st, E, S, q⟩ := h; ⟨m, r, st, E, S, q.seq fun v H1 m1 st1 p t S1 rp F1 => ⟨m1, st1, p, S1, rp, F1⟩⟩
theorem r_bin (c0 : CxOk X) {o : BO} (ha : PE X a (rd X.K f)) (hb : PE X b (rd X.K g)) : PE X (.BinOp a (opOf o) b pos) (rd X.K fun r => M.bind (f r) fun x => M.bind (g r) fun y => binM o x y) :=
  PE.conseq (pe_op (bin_ok c0 o) ha hb) fun σ H Q q => rd2_of q
theorem r_cmp (c0 : CxOk X) {o : CO} (ha : PE X a (rd X.K f)) (hb : PE X b (rd X.K g)) (hm : behindInMarks (copOf o) b = false) : PE X (.Compare a [copOf o] [b] pos) (rd X.K fun r => M.bind (f r) fun x => M.bind (g r) fun y => M.bind (cmpM o x y) fun c => M.pure (.bl c)) :=
  PE.conseq (pe_cmpR (cmp_ok c0 o) ha hb hm) fun σ H Q q => rd2_of q
theorem r_neg (ha : PE X a (rd X.K f)) : PE X (.UnaryOp .USub a pos) (rd X.K fun r => M.bind (f r) fun x => (match x with | .int i => M.pure (.int (-i)) | _ => M.err)) := by
  refine PE.conseq (pe_un un_neg ha) fun σ H Q q => ?_
  obtain ⟨m, r, st, E, S, q⟩ := q
  refine ⟨m, r, st, E, S, q.seq fun v H1 m1 st1 p t S1 rp F1 => ?_⟩
  cases p <;> first | exact False.elim F1 | skip
  case int i => cases rp; exact ⟨i, rfl, FinG.done F1 S1 (.int _)⟩
theorem bind_case {α β : Type} {g : M α} {f : α → M β} {s : Sto} : M.bind g f s = (match g s with | .ok a s' => f a s' | .err => .err) := rfl
theorem tru_of {K : PySem.W.Frag} {m : Pl} {st : Sto} {H : Hp} {v : V} {p : PV} (S : SRep K m H st) (rp : Rep K m st.nxt H v p) {α β : Type} {rel : Pl → Nat → Hp → β → α → Prop} {F : Bool → M α} {Q : β → Hp → Prop} (h : FinG K rel m st H (M.bind (truth p) F st) Q) :
    ∃ k, TruV K v H k ∧ FinG K rel m st H (F k st) Q := by
  obtain ⟨k, s', e, h⟩ := fin_bind h
  obtain ⟨rfl, tv⟩ := truth_val S rp e
  exact ⟨k, tv, h⟩
theorem r_not (ha : PE X a (rd X.K f)) : PE X (.UnaryOp .Not a pos) (rd X.K fun r => M.bind (f r) fun x => M.bind (truth x) fun k => M.pure (.bl (!k))) := by
  refine PE.conseq (pe_notT ha) fun σ H Q q => ?_
  obtain ⟨m, r, st, E, S, q⟩ := q
  refine ⟨m, r, st, E, S, q.seq fun v H1 m1 st1 p t S1 rp F1 => ?_⟩
  obtain ⟨k, tv, F2⟩ := tru_of S1 rp F1
  exact ⟨k, tv, FinG.done (p := PV.bl (!k)) F2 S1 (.bl _)⟩
theorem r_and {rest : List Expr} (ha : PE X a (rd X.K f)) (hb : PE X (.BoolOp .And (b :: rest) pos) (rd X.K g)) : PE X (.BoolOp .And (a :: b :: rest) pos) (rd X.K fun r => M.bind (f r) fun x => M.bind (truth x) fun k => if k then g r else M.pure x) := by
  refine PE.conseq (pe_andT ha hb) fun σ H Q q => ?_
  obtain ⟨m, r, st, E, S, q⟩ := q
  refine ⟨m, r, st, E, S, q.seq fun v H1 m1 st1 p t S1 rp F1 => ?_⟩
  obtain ⟨k, tv, F2⟩ := tru_of S1 rp F1
  refine ⟨k, tv, ?_⟩
  cases k with
  | true => exact ⟨m1, r, st1, E.step S t, S1, F2⟩
  | false => exact FinG.done (p := p) F2 S1 rp
theorem r_or {rest : List Expr} (ha : PE X a (rd X.K f)) (hb : PE X (.BoolOp .Or (b :: rest) pos) (rd X.K g)) : PE X (.BoolOp .Or (a :: b :: rest) pos) (rd X.K fun r => M.bind (f r) fun x => M.bind (truth x) fun k => if k then M.pure x else g r) := by
  refine PE.conseq (pe_orT ha hb) fun σ H Q q => ?_
  obtain ⟨m, r, st, E, S, q⟩ := q
  refine ⟨m, r, st, E, S, q.seq fun v H1 m1 st1 p t S1 rp F1 => ?_⟩
  obtain ⟨k, tv, F2⟩ := tru_of S1 rp F1
  refine ⟨k, tv, ?_⟩
  cases k with
  | false => exact ⟨m1, r, st1, E.step S t, S1, F2⟩
  | true => exact FinG.done (p := p) F2 S1 rp
/-! tests -/
theorem t_val (ha : PE X a (rd X.K f)) (he : ∀ whole, isTrue a X.env whole = (do let v ← whole; standAt a.pos; holding [v] (truthy v))) : PT X a (rdB X.K fun r => M.bind (f r) truth) := by
  refine PT.conseq (pt_truth ha he) fun σ H Q q => ?_
  obtain ⟨m, r, st, E, S, q⟩ := q
  refine ⟨m, r, st, E, S, q.seq (rel2 := relB) fun v H1 m1 st1 p t S1 rp F1 => ?_⟩
  have F1 : FinG X.K relB m1 st1 H1 (M.bind (truth p) M.pure st1) Q := by
    unfold M.bind
    cases e : truth p st1 with
    | err => rw [e] at F1; exact F1
    | ok c s' => rw [e] at F1; exact F1
  obtain ⟨k, tv, F2⟩ := tru_of S1 rp F1
  exact ⟨k, tv, FinG.done (p := k) F2 S1 rfl⟩
theorem FinG.seqE {α β γ δ : Type} {K : PySem.W.Frag} {rel : Pl → Nat → Hp → β → α → Prop} {rel2 : Pl → Nat → Hp → δ → γ → Prop} {m : Pl} {st : Sto} {H : Hp} {g : M α} {f : α → M γ} {Q : δ → Hp → Prop} {Q' : β → Hp → Prop} (h : FinG K rel2 m st H (M.bind g f st) Q)
    (k : ∀ (v : β) (H1 : Hp) (m1 : Pl) (st1 : Sto) (p : α), g st = .ok p st1 → Step m st H m1 st1 H1 → SRep K m1 H1 st1 → rel m1 st1.nxt H1 v p → FinG K rel2 m1 st1 H1 (f p st1) Q → Q' v H1) : FinG K rel m st H (g st) Q' := by
  unfold M.bind at h
  cases e : g st with
  | err => rw [e] at h; exact h
  | ok p st1 =>
    rw [e] at h
    refine fun v H1 m1 s1 s2 s3 => k v H1 m1 st1 p e s1 s2 s3 ?_
    have h : FinG K rel2 m st H (f p st1) Q := h
    show FinG K rel2 m1 st1 H1 (f p st1) Q
    cases e2 : f p st1 with
    | err => rw [e2] at h; exact h
    | ok q st2 =>
      rw [e2] at h
      exact fun w H2 m2 t1 t2 t3 => h w H2 m2 (s1.trans t1) t2 t3
theorem FinG.later {α β : Type} {K : PySem.W.Frag} {rel : Pl → Nat → Hp → β → α → Prop} {m m1 : Pl} {st st1 : Sto} {H H1 : Hp} {r : R α} {Q : β → Hp → Prop} (F : FinG K rel m st H r Q) (t : Step m st H m1 st1 H1) : FinG K rel m1 st1 H1 r Q := by
  cases r with
  | err => exact F
  | ok p s => exact fun v H' m' t1 t2 t3 => F v H' m' (t.trans t1) t2 t3
theorem bind_inv {α β : Type} {g : M α} {f : α → M β} {s s' : Sto} {b : β} (h : M.bind g f s = .ok b s') : ∃ a s1, g s = .ok a s1 ∧ f a s1 = .ok b s' := by
  unfold M.bind at h
  cases e : g s with
  | err => rw [e] at h; cases h
  | ok a s1 => rw [e] at h; exact ⟨a, s1, rfl, h⟩
theorem bl_last {α : Type} {g : M α} {f : α → Bool} {s s' : Sto} {p : PV} (h : M.bind g (fun c => M.pure (.bl (f c))) s = .ok p s') : ∃ c, p = .bl c := by
  obtain ⟨a, s1, _, h⟩ := bind_inv h
  cases h
  exact ⟨_, rfl⟩
/-- a value that is a bool, tested -/
theorem tb_of {K : PySem.W.Frag} {f : M PV} {m : Pl} {st : Sto} {H : Hp} {Q : Bool → Hp → Prop} (h : FinG K relB m st H (M.bind f truth st) Q) (hb : ∀ p s', f st = .ok p s' → ∃ c, p = .bl c) : FinG K (Rep K) m st H (f st) fun x H1 => ∃ k, x = .bl k ∧ Q k H1 := by
  refine FinG.seqE (rel2 := relB) h fun v H1 m1 st1 p e t S1 rp F1 => ?_
  obtain ⟨c, rfl⟩ := hb p st1 e
  cases rp
  exact ⟨c, rfl, FinG.done (p := c) F1 S1 rfl⟩
/-- the test of a comparison -/
theorem t_cmp (c0 : CxOk X) {o : CO} (ha : PE X a (rd X.K f)) (hb : PE X b (rd X.K g)) (hm : behindInMarks (copOf o) b = false) : PT X (.Compare a [copOf o] [b] pos) (rdB X.K fun r => M.bind (M.bind (f r) fun x => M.bind (g r) fun y => M.bind (cmpM o x y) fun c => M.pure (.bl c)) truth) := by
  refine PT.conseq (pt_cmpR (cmp_ok c0 o) ha hb hm) fun σ H Q q => ?_
  obtain ⟨m, r, st, E, S, q⟩ := q
  refine rd2_of (F := cmpV o) ⟨m, r, st, E, S, tb_of q fun p s' h => ?_⟩
  obtain ⟨_, _, _, h⟩ := bind_inv h
  obtain ⟨_, _, _, h⟩ := bind_inv h
  exact bl_last h
/-- chains -/
theorem chain_in {K : PySem.W.Frag} {o o' : CO} {m : Pl} {st : Sto} {H : Hp} {p q : PV} {y : V} {σ : L2.St} {r : Env} {Q : VK} (E : ERep K m st.nxt H σ r) (S : SRep K m H st) (rq : Rep K m st.nxt H y q)
    (F : FinG K (Rep K) m st H (M.bind (cmpM o p q) (fun k => if k then M.bind (h r) fun z => M.bind (cmpM o' q z) fun k2 => M.pure (.bl k2) else M.pure (.bl false)) st) Q) :
    FinG K (Rep K) m st H (cmpV o p q st) fun z H3 => ∃ k, z = .bl k ∧ (if k = true then rd K h σ H3 fun w' H4 => rd2 K (cmpV o') y w' H4 Q else Q (.bl false) H3) := by
  unfold cmpV
  unfold M.bind at F ⊢
  cases e : cmpM o p q st with
  | err => rw [e] at F; exact F
  | ok k st1 =>
    rw [e] at F
    intro v H1 m1 t S1 rv
    cases rv
    refine ⟨k, rfl, ?_⟩
    cases k with
    | false =>
      exact F _ _ m1 t S1 (.bl _)
    | true =>
      rw [if_pos rfl]
      refine ⟨m1, r, st1, E.step S t, S1, ?_⟩
      have F : FinG K (Rep K) m st H (M.bind (h r) (fun z => M.bind (cmpM o' q z) fun k2 => M.pure (PV.bl k2)) st1) Q := F
      have F := F.later t
      exact F.seq fun w H2 m2 st2 z t2 S2 rz F2 => ⟨m2, st2, q, z, S2, Rep.step S1 t2 q y (Rep.step S t q y rq), rz, F2⟩
theorem r_chain (c0 : CxOk X) {o o' : CO} (ha : PE X a (rd X.K f)) (hb : PE X b (rd X.K g)) (hc : PE X c (rd X.K h)) (hm : lastMarks [copOf o, copOf o'] [b, c] = false) :
    PE X (.Compare a [copOf o, copOf o'] [b, c] pos) (rd X.K fun r => M.bind (f r) fun x => M.bind (g r) fun y => M.bind (cmpM o x y) fun k => if k then M.bind (h r) fun z => M.bind (cmpM o' y z) fun k2 => M.pure (.bl k2) else M.pure (.bl false)) := by
  refine PE.conseq (pe_chain (cmp_ok c0 o) (cmp_ok c0 o') ha hb hc hm) fun σ H Q q => ?_
  obtain ⟨m, r, st, E, S, q⟩ := q
  exact ⟨m, r, st, E, S, q.seq fun v H1 m1 st1 p t S1 rp F1 => ⟨m1, r, st1, E.step S t, S1, F1.seq fun w H2 m2 st2 q t2 S2 rq F2 => ⟨m2, st2, p, q, S2, Rep.step S1 t2 p v rp, rq, chain_in ((E.step S t).step S1 t2) S2 rq F2⟩⟩⟩
theorem t_chain (c0 : CxOk X) {o o' : CO} (ha : PE X a (rd X.K f)) (hb : PE X b (rd X.K g)) (hc : PE X c (rd X.K h)) (hm : lastMarks [copOf o, copOf o'] [b, c] = false) :
    PT X (.Compare a [copOf o, copOf o'] [b, c] pos) (rdB X.K fun r => M.bind (M.bind (f r) fun x => M.bind (g r) fun y => M.bind (cmpM o x y) fun k => if k then M.bind (h r) fun z => M.bind (cmpM o' y z) fun k2 => M.pure (.bl k2) else M.pure (.bl false)) truth) := by
  refine PT.conseq (pt_chain (cmp_ok c0 o) (cmp_ok c0 o') ha hb hc hm) fun σ H Q q => ?_
  obtain ⟨m, r, st, E, S, q⟩ := q
  have q := tb_of q fun p s' h => by
    obtain ⟨_, _, _, h⟩ := bind_inv h
    obtain ⟨_, _, _, h⟩ := bind_inv h
    obtain ⟨k, _, _, h⟩ := bind_inv h
    cases k with
    | false => cases h; exact ⟨_, rfl⟩
    | true =>
      obtain ⟨_, _, _, h⟩ := bind_inv h
      exact bl_last h
  exact ⟨m, r, st, E, S, q.seq fun v H1 m1 st1 p t S1 rp F1 => ⟨m1, r, st1, E.step S t, S1, F1.seq fun w H2 m2 st2 q t2 S2 rq F2 => ⟨m2, st2, p, q, S2, Rep.step S1 t2 p v rp, rq, chain_in ((E.step S t).step S1 t2) S2 rq F2⟩⟩⟩
theorem truth_same {p : PV} {st st' : Sto} {k : Bool} (e : truth p st = .ok k st') : st' = st := by
  cases p with
  | non => cases e; rfl
  | bl b => cases e; rfl
  | int i => cases e; rfl
  | str t =>
    have e : (if t.length ≤ 16777216 then R.ok (!t.isEmpty) st else .err) = R.ok k st' := e
    by_cases hl : t.length ≤ 16777216
    · rw [if_pos hl] at e; cases e; rfl
    · rw [if_neg hl] at e; cases e
  | tup xs => cases e; rfl
  | loc l =>
    have e : (match st.lstAt l with | some xs => R.ok (!xs.isEmpty) st | none => .err) = R.ok k st' := e
    cases q : st.lstAt l with
    | none => rw [q] at e; cases e
    | some xs => rw [q] at e; cases e; rfl
  | lv xs => cases e
  | rp x => cases e
theorem bind_as {α β γ : Type} (g : M α) (f : α → M β) (h : β → M γ) : M.bind (M.bind g f) h = M.bind g fun x => M.bind (f x) h := by
  funext st
  unfold M.bind
  cases g st <;> rfl
theorem bind_pure {α β : Type} (a : α) (f : α → M β) : M.bind (M.pure a) f = f a := rfl
theorem t_not (ha : PT X a (rdB X.K fun r => M.bind (f r) truth)) : PT X (.UnaryOp .Not a pos) (rdB X.K fun r => M.bind (M.bind (f r) fun x => M.bind (truth x) fun k => M.pure (.bl (!k))) truth) := by
  refine PT.conseq (pt_not ha) fun σ H Q q => ?_
  obtain ⟨m, r, st, E, S, q⟩ := q
  refine ⟨m, r, st, E, S, FinG.seq (rel := relB) (rel2 := relB) (Q := Q) (g := M.bind (f r) truth) (f := fun k => truth (.bl (!k))) ?_ fun v H1 m1 st1 p t S1 rp F1 => ?_⟩
  · have e : M.bind (M.bind (f r) truth) (fun k => truth (.bl (!k))) = M.bind (M.bind (f r) fun x => M.bind (truth x) fun k => M.pure (.bl (!k))) truth := by
      rw [bind_as, bind_as]
      congr 1
      funext x
      rw [bind_as]
      rfl
    rw [e]
    exact q
  · cases rp
    exact FinG.done (p := !v) F1 S1 rfl
theorem bool_and (F : M PV) (G : M PV) : M.bind (M.bind F fun x => M.bind (truth x) fun k => if k then G else M.pure x) truth = M.bind (M.bind F truth) fun k => if k then M.bind G truth else M.pure false := by
  rw [bind_as, bind_as]
  congr 1
  funext x
  rw [bind_as]
  funext st
  unfold M.bind
  cases e : truth x st with
  | err => rfl
  | ok k st' =>
    have e2 := truth_same e
    subst e2
    cases k with
    | true => rfl
    | false =>
      show (match M.pure x st' with | .ok a s' => truth a s' | .err => .err) = M.pure false st'
      show truth x st' = _
      rw [e]; rfl
theorem bool_or (F : M PV) (G : M PV) : M.bind (M.bind F fun x => M.bind (truth x) fun k => if k then M.pure x else G) truth = M.bind (M.bind F truth) fun k => if k then M.pure true else M.bind G truth := by
  rw [bind_as, bind_as]
  congr 1
  funext x
  rw [bind_as]
  funext st
  unfold M.bind
  cases e : truth x st with
  | err => rfl
  | ok k st' =>
    have e2 := truth_same e
    subst e2
    cases k with
    | false => rfl
    | true =>
      show (match M.pure x st' with | .ok a s' => truth a s' | .err => .err) = M.pure true st'
      show truth x st' = _
      rw [e]; rfl
theorem t_and {rest : List Expr} (ha : PT X a (rdB X.K fun r => M.bind (f r) truth)) (hb : PW X (.BoolOp .And (b :: rest) pos) (rdB X.K fun r => M.bind (g r) truth)) :
    PW X (.BoolOp .And (a :: b :: rest) pos) (rdB X.K fun r => M.bind (M.bind (f r) fun x => M.bind (truth x) fun k => if k then g r else M.pure x) truth) := by
  refine PW.conseq (pw_and ha hb) fun σ H Q q => ?_
  obtain ⟨m, r, st, E, S, q⟩ := q
  have q : FinG X.K relB m st H (M.bind (M.bind (f r) truth) (fun k => if k then M.bind (g r) truth else M.pure false) st) Q := by rw [← bool_and]; exact q
  refine ⟨m, r, st, E, S, FinG.seq (rel := relB) (rel2 := relB) q fun v H1 m1 st1 p t S1 rp F1 => ?_⟩
  cases rp
  cases v with
  | true => exact ⟨m1, r, st1, E.step S t, S1, F1⟩
  | false => exact FinG.done (p := false) F1 S1 rfl
theorem t_or {rest : List Expr} (ha : PT X a (rdB X.K fun r => M.bind (f r) truth)) (hb : PW X (.BoolOp .Or (b :: rest) pos) (rdB X.K fun r => M.bind (g r) truth)) :
    PW X (.BoolOp .Or (a :: b :: rest) pos) (rdB X.K fun r => M.bind (M.bind (f r) fun x => M.bind (truth x) fun k => if k then M.pure x else g r) truth) := by
  refine PW.conseq (pw_or ha hb) fun σ H Q q => ?_
  obtain ⟨m, r, st, E, S, q⟩ := q
  have q : FinG X.K relB m st H (M.bind (M.bind (f r) truth) (fun k => if k then M.pure true else M.bind (g r) truth) st) Q := by rw [← bool_or]; exact q
  refine ⟨m, r, st, E, S, FinG.seq (rel := relB) (rel2 := relB) q fun v H1 m1 st1 p t S1 rp F1 => ?_⟩
  cases rp
  cases v with
  | false => exact ⟨m1, r, st1, E.step S t, S1, F1⟩
  | true => exact FinG.done (p := true) F1 S1 rfl
theorem r_ifx (hc : PT X c (rdB X.K fun r => M.bind (f r) truth)) (ha : PE X a (rd X.K g)) (hb : PE X b (rd X.K h)) : PE X (.IfExp c a b pos) (rd X.K fun r => M.bind (f r) fun x => M.bind (truth x) fun k => if k then g r else h r) := by
  refine PE.conseq (pe_ifExp hc ha hb) fun σ H Q q => ?_
  obtain ⟨m, r, st, E, S, q⟩ := q
  have q : FinG X.K (Rep X.K) m st H (M.bind (M.bind (f r) truth) (fun k => if k then g r else h r) st) Q := by rw [bind_as]; exact q
  refine ⟨m, r, st, E, S, FinG.seq (rel := relB) q fun v H1 m1 st1 p t S1 rp F1 => ?_⟩
  cases rp
  cases v with
  | true => exact ⟨m1, r, st1, E.step S t, S1, F1⟩
  | false => exact ⟨m1, r, st1, E.step S t, S1, F1⟩
/-! displays, subscripts -/
theorem ra_nil : PA X [] (rdA X.K fun _ => M.pure []) := PA.conseq pa_nil fun σ H Q ⟨m, r, st, E, S, q⟩ => FinG.done (rel := Reps X.K) (p := []) q S .nil
theorem ra_cons (ha : PE X a (rd X.K f)) (hs : PA X es (rdA X.K fs)) (hn : NoStar X a) : PA X (a :: es) (rdA X.K fun r => M.bind (f r) fun x => M.bind (fs r) fun xs => M.pure (x :: xs)) :=
  PA.conseq (pa_cons ha hs (hn _)) fun σ H Q ⟨m, r, st, E, S, q⟩ =>
    ⟨m, r, st, E, S, FinG.seq (rel := Rep X.K) (rel2 := Reps X.K) q fun v H1 m1 st1 p t S1 rp F1 => ⟨m1, r, st1, E.step S t, S1, FinG.seq (rel := Reps X.K) (rel2 := Reps X.K) F1 fun w H2 m2 st2 ps t2 S2 rs F2 =>
      FinG.done (rel := Reps X.K) (p := p :: ps) F2 S2 (.cons (Rep.step S1 t2 p v rp) rs)⟩⟩
theorem r_tup {k : Nat} (hs : PA X es (rdA X.K fs)) : PE X (.Tuple es k pos) (rd X.K fun r => M.bind (fs r) mkTup) :=
  PE.conseq (pe_tupD hs) fun σ H Q ⟨m, r, st, E, S, q⟩ =>
    ⟨m, r, st, E, S, FinG.seq (rel := Reps X.K) q fun vs H1 m1 st1 ps t S1 rs F1 => by
      obtain ⟨hl, F2⟩ := mkTup_fin F1
      exact ⟨by rw [rs.length, sizeLine_eq]; exact hl, newTup_fin F2 S1 rs⟩⟩
theorem r_lst (hs : PA X es (rdA X.K fs)) : PE X (.List es pos) (rd X.K fun r => M.bind (fs r) newLst) :=
  PE.conseq (pe_lst hs) fun σ H Q ⟨m, r, st, E, S, q⟩ =>
    ⟨m, r, st, E, S, FinG.seq (rel := Reps X.K) q fun vs H1 m1 st1 ps t S1 rs F1 => by
      obtain ⟨hl, F2⟩ := newLst_fin F1
      exact ⟨by rw [rs.length, sizeLine_eq]; exact hl, fun p hp => F2 vs p S1 rs hp⟩⟩
theorem r_idx (ha : PE X a (rd X.K f)) (hb : PE X b (rd X.K g)) (hs : PlainIx b) : PE X (.Subscript a b pos) (rd X.K fun r => M.bind (f r) fun x => M.bind (g r) fun y => idxM x y) :=
  PE.conseq (pe_ix ix_ok ha hb hs) fun σ H Q q => rd2_of q
theorem ro_none : L2.PO X none (rdO X.K fun _ => M.pure none) := ⟨fun pins s σ H Q I ⟨m, r, st, E, S, q⟩ => po_none.run pins s σ H Q I (FinG.done (rel := relO) (p := none) q S rfl)⟩
theorem ro_some (ha : PE X a (rd X.K f)) : L2.PO X (some a) (rdO X.K fun r => M.bind (f r) fun x => (match x with | .int i => M.pure (some i) | _ => M.err)) :=
  ⟨fun pins s σ H Q I ⟨m, r, st, E, S, q⟩ => (po_some ha).run pins s σ H Q I ⟨m, r, st, E, S, FinG.seq (rel := Rep X.K) (rel2 := relO) q fun v H1 m1 st1 p t S1 rp F1 => by
    cases p <;> first | exact False.elim F1 | skip
    case int i => cases rp; exact ⟨i, rfl, FinG.done (rel := relO) (p := some i) F1 S1 rfl⟩⟩⟩
theorem r_sl {lo hi : Option Expr} {fl fh : Env → M (Option Int)} {p2 : Pos} (ha : PE X a (rd X.K f)) (hl : L2.PO X lo (rdO X.K fl)) (hh : L2.PO X hi (rdO X.K fh)) : PE X (.Subscript a (.Slice lo hi none p2) pos) (rd X.K fun r => M.bind (f r) fun x => M.bind (fl r) fun l => M.bind (fh r) fun h => slM x l h) :=
  PE.conseq (pe_slice sl_ok ha hl hh) fun σ H Q ⟨m, r, st, E, S, q⟩ =>
    ⟨m, r, st, E, S, FinG.seq (rel := Rep X.K) q fun v H1 m1 st1 p t S1 rp F1 => ⟨m1, r, st1, E.step S t, S1, FinG.seq (rel := relO) F1 fun l H2 m2 st2 l' t2 S2 rl F2 =>
      ⟨m2, r, st2, (E.step S t).step S1 t2, S2, FinG.seq (rel := relO) F2 fun u H3 m3 st3 u' t3 S3 ru F3 => by
        cases rl
        cases ru
        exact ⟨m3, st3, p, S3, Rep.step S2 t3 p v (Rep.step S1 t2 p v rp), F3⟩⟩⟩⟩
/-! names, constants -/
theorem r_var {i : Nat} {x : Str} (hN : X.N[i]? = some x) (hv : Vis X.env.scope x) (hd : (x == ("__debug__" : Str)) = false) (hcd : (x == ("__classdict__" : Str)) = false) : PE X (.Name x pos) (rd X.K fun r => (match r[i]? with | some (some v) => M.pure v | _ => M.err)) := by
  refine PE.conseq (pe_var hN hv hd hcd) fun σ H Q ⟨m, r, st, E, S, q⟩ => ?_
  simp only at q
  cases e : r[i]? with
  | none => rw [e] at q; exact q.elim
  | some o =>
    cases o with
    | none => rw [e] at q; exact q.elim
    | some v =>
      rw [e] at q
      obtain ⟨w, e1, rv⟩ := E.at_ i v e
      exact ⟨w, e1, FinG.done (p := v) q S rv⟩
theorem r_const {w : V} {v : PV} (he : PE X e (tC w)) (rv : ∀ m n H, Rep X.K m n H w v) : PE X e (rd X.K fun _ => M.pure v) :=
  PE.conseq he fun σ H Q ⟨m, r, st, E, S, q⟩ => FinG.done (p := v) q S (rv _ _ _)
end
end Dp


set_option Elab.async false
set_option linter.all false
set_option maxRecDepth 100000
set_option maxHeartbeats 4000000
set_option autoImplicit false
/-! DpRd2: calls and methods. -/
namespace Dp
open PySem L2 PySem.Spec PyProof.Rows

theorem star_all {X : Cx} : ∀ {es : List Expr}, (∀ e ∈ es, NoStar X e) → starEach es X.env = es.map fun e => (false, eval e X.env)
  | [], _ => rfl
  | e :: es, h => by rw [h e (List.mem_cons_self ..), star_all fun x hx => h x (List.mem_cons_of_mem _ hx)]; rfl
theorem back_plain {pos : Pos} : ∀ {l : List (Bool × Sem Value)}, l.any (·.1) = false → (backTo pos l).any (·.1) = false := by
  intro l h
  unfold backTo
  rw [List.any_map]
  exact h
theorem plain_args {X : Cx} {pos : Pos} {es : List Expr} (h : ∀ e ∈ es, NoStar X e) : (backTo pos (starEach es X.env)).any (·.1) = false := by
  refine back_plain ?_
  rw [star_all h, List.any_map]
  simp
theorem few_args {X : Cx} {pos : Pos} {es : List Expr} (h : ∀ e ∈ es, NoStar X e) (hn : es.length < 30) : ((backTo pos (starEach es X.env)).all (fun x => !x.1) && (backToKw pos (keywordEach [] X.env)).all (fun x => x.1.isSome)
      && decide (es.length + ([] : List Keyword).length + (if ([] : List Keyword).isEmpty then 0 else 1) < 30)) = true := by
  rw [Bool.and_eq_true, Bool.and_eq_true]
  refine ⟨⟨?_, rfl⟩, by simp; exact hn⟩
  rw [star_all h]
  unfold backTo
  simp
section
variable {X : Cx} {a b c e o : Expr} {es : List Expr} {f g h : Env → M PV} {fs : Env → M (List PV)} {pos p apos : Pos} {x : Str}
theorem r_call0 {fa : Addr} {F : List PV → M PV} (hg : Gl X x) (hm : X.mg x = some (.ref fa)) (hk : PySem.W.keepIn X.K (.ref fa) = true) (hd : (x == ("__debug__" : Str)) = false) (hc : CallR X (.ref fa) (rdL X.K F)) :
    PE X (.Call (.Name x p) [] [] pos) (rd X.K fun _ => F []) := by
  refine ⟨fun pins s σ H Q I ⟨m, r, st, E, S, h⟩ => wpAny_Call_Name_kw (ld_glob I hg hm ?_ hd)⟩
  exact PySem.W.callWith_K0 I.kIn hk (hc pins s σ H [] [] Q I .nil ⟨m, st, [], S, .nil, h⟩)
theorem r_call {fa : Addr} {F : List PV → M PV} (hg : Gl X x) (hm : X.mg x = some (.ref fa)) (hk : PySem.W.keepIn X.K (.ref fa) = true) (hd : (x == ("__debug__" : Str)) = false) (hc : CallR X (.ref fa) (rdL X.K F)) (hs : PA X (e :: es) (rdA X.K fs)) (hn : ∀ z ∈ e :: es, NoStar X z) :
    PE X (.Call (.Name x p) (e :: es) [] pos) (rd X.K fun r => M.bind (fs r) F) := by
  refine ⟨fun pins s σ H Q I h => wpAny_Call_Name_kw (ld_glob I hg hm ?_ hd)⟩
  have h := rdL_of h
  exact PySem.W.callWith_K (h₀ := X.base) I.ok.mod.kin hk (thn (hs.run pos pins s σ H _ I h) fun us s1 ⟨vs, H1, I1, r, q⟩ => ⟨I1.kIn, hc pins s1 σ H1 vs us Q I1 r q⟩) (hn e (List.mem_cons_self ..) es) (plain_args fun z hz => hn z (List.mem_cons_of_mem _ hz))
/-- a built-in of values -/
theorem r_bi (c0 : CxOk X) {k : Bi} {u : Value} (hu : fnOf k = some u) (hg : Gl X x) (hm : X.mg x = none) (hv : bootBuiltins x = some u) (hnm : x ≠ "__name__") (hd : (x == ("__debug__" : Str)) = false) (hs : PA X (e :: es) (rdA X.K fs)) (hn : ∀ z ∈ e :: es, NoStar X z) :
    PE X (.Call (.Name x p) (e :: es) [] pos) (rd X.K fun r => M.bind (fs r) (biM k)) := by
  have hc := bi_val c0 k u hu
  cases k <;> cases hu <;> first
    | exact PE.conseq (pe_callB hc hg hm hv hs hnm hd (hn e (List.mem_cons_self ..) es) (plain_args fun z hz => hn z (List.mem_cons_of_mem _ hz))) fun σ H Q q => rdL_of q
    | exact PE.conseq (pe_callTy hc hg hm hv hs hnm hd (hn e (List.mem_cons_self ..) es) (plain_args fun z hz => hn z (List.mem_cons_of_mem _ hz))) fun σ H Q q => rdL_of q
/-! ### isinstance -/
def tyNm : Nat → String
  | 0 => "str" | 1 => "int" | 2 => "tuple" | 3 => "list" | _ => "bool"
theorem ty_of {K : PySem.W.Frag} {m : Pl} {st st' : Sto} {H : Hp} (S : SRep K m H st) {v : V} {q : PV} (r : Rep K m st.nxt H v q) {k : Nat} (hk : k ≤ 4) {w : PV} (e : isinM k q st = .ok w st') :
    st' = st ∧ ∃ T b, TyX K H v (.type T) ∧ kitB T (tyNm k) = some b ∧ w = .bl b := by
  have five : ∀ P : Nat → Prop, P 0 → P 1 → P 2 → P 3 → P 4 → P k := fun P a b c d f => by
    match k, hk with
    | 0, _ => exact a
    | 1, _ => exact b
    | 2, _ => exact c
    | 3, _ => exact d
    | 4, _ => exact f
  cases r with
  | non => cases e; exact ⟨rfl, "NoneType", false, .base .non, five (fun k => kitB "NoneType" (tyNm k) = some false) (by decide +kernel) (by decide +kernel) (by decide +kernel) (by decide +kernel) (by decide +kernel), rfl⟩
  | bl b => cases e; exact ⟨rfl, "bool", _, .base (.bl b), five (fun k => kitB "bool" (tyNm k) = some (k == 1 || k == 4)) (by decide +kernel) (by decide +kernel) (by decide +kernel) (by decide +kernel) (by decide +kernel), rfl⟩
  | int i => cases e; exact ⟨rfl, "int", _, .base (.int i), five (fun k => kitB "int" (tyNm k) = some (k == 1)) (by decide +kernel) (by decide +kernel) (by decide +kernel) (by decide +kernel) (by decide +kernel), rfl⟩
  | str t h => cases e; exact ⟨rfl, "str", _, .base (.str _), five (fun k => kitB "str" (tyNm k) = some (k == 0)) (by decide +kernel) (by decide +kernel) (by decide +kernel) (by decide +kernel) (by decide +kernel), rfl⟩
  | rp y => cases e; exact ⟨rfl, "str", _, .base (.str _), five (fun k => kitB "str" (tyNm k) = some (k == 0)) (by decide +kernel) (by decide +kernel) (by decide +kernel) (by decide +kernel) (by decide +kernel), rfl⟩
  | tup d q =>
    cases e
    refine ⟨rfl, "tuple", _, ?_, five (fun k => kitB "tuple" (tyNm k) = some (k == 2)) (by decide +kernel) (by decide +kernel) (by decide +kernel) (by decide +kernel) (by decide +kernel), rfl⟩
    rcases d with ⟨o, h, _⟩ | ⟨o, its, n, ⟨h, c, _⟩, _⟩
    · exact .fTuple h
    · exact .kTuple h c
  | loc hl =>
    rename_i l
    have e : (match st.lstAt l with | some xs => R.ok (PV.bl (k == 3)) st | none => if isDicAt st l = true then .ok (.bl false) st else .err) = .ok w st' := e
    cases e1 : st.lstAt l with
    | none =>
      rw [e1] at e
      by_cases hd : isDicAt st l = true
      · simp only [hd, if_true] at e
        cases e
        unfold isDicAt at hd
        cases e2 : st.get l with
        | none => rw [e2] at hd; cases hd
        | some o =>
          rw [e2] at hd
          cases o <;> first | (cases hd; done) | skip
          obtain ⟨_, ws, h1, _⟩ := S.ob l _ e2
          exact ⟨rfl, "dict", _, .base (.dK h1), five (fun k => kitB "dict" (tyNm k) = some false) (by decide +kernel) (by decide +kernel) (by decide +kernel) (by decide +kernel) (by decide +kernel), rfl⟩
      · simp only [hd] at e
        cases e
    | some xs =>
      rw [e1] at e
      cases e
      refine ⟨rfl, "list", _, ?_, five (fun k => kitB "list" (tyNm k) = some (k == 3)) (by decide +kernel) (by decide +kernel) (by decide +kernel) (by decide +kernel) (by decide +kernel), rfl⟩
      obtain ⟨vs, h1, _⟩ := S.at e1
      rcases h1 with (h1 | ⟨o, h1⟩) | ⟨o, its, n, h1, c, _⟩
      · exact .base (.lst h1)
      · exact .base (.frz h1)
      · exact .kList h1 c
theorem r_isi {k : Nat} {tn : Str} {p2 : Pos} (hk : k ≤ 4) (hg : Gl X "isinstance") (hm : X.mg "isinstance" = none) (ha : PE X a (rd X.K f)) (hn : NoStar X a)
    (hg2 : Gl X tn) (hm2 : X.mg tn = none) (hv2 : bootBuiltins tn = some (.type (tyNm k))) (hnm : tn ≠ "__name__") (hd : (tn == ("__debug__" : Str)) = false) :
    PE X (.Call (.Name "isinstance" p) [a, .Name tn p2] [] pos) (rd X.K fun r => M.bind (f r) (isinM k)) := by
  have hT : PE X (.Name tn p2) (tC (.ty (tyNm k))) := pe_bltn hg2 hm2 hv2 rfl hnm hd
  refine PE.conseq (pe_callB call_isi hg hm (by decide +kernel) (pa_cons ha (pa_cons hT pa_nil rfl) (hn _)) (by decide) (by decide) (hn _) rfl) fun σ H Q q => ?_
  obtain ⟨m, r, st, E, S, q⟩ := q
  refine ⟨m, r, st, E, S, FinG.seq (rel := Rep X.K) q fun v H1 m1 st1 p1 t S1 rp F1 => ?_⟩
  obtain ⟨w, s', e⟩ := fin_ok F1
  obtain ⟨rfl, T, b, ty, kb, rfl⟩ := ty_of S1 rp hk e
  rw [e] at F1
  exact ⟨v, _, _, _, b, rfl, .ty _, ty, kit_ty kb, FinG.done (p := PV.bl b) F1 S1 (.bl b)⟩
/-! ### methods -/
structure MtF (X : Cx) (m : Mt) (T id : String) : Prop where
  pa : PlainAttrs T
  slot : Slot T (mtNm m) id
  ty : typeOf (.builtin id) = pure (.type "method_descriptor")
  w : MtW X id m T
def mtOk : Mt → Bool
  | .get => false
  | .get2 => false
  | _ => true
theorem mtf (c0 : CxOk X) {m : Mt} {q : PV} {st : Sto} {T : String} (h : mtT m q st = some T) (hm : mtOk m = true) : ∃ id, MtF X m T id := by
  have lc : ∀ {m : Mt} {l : Nat}, (match st.lstAt l with | some _ => some "list" | none => none) = some T → T = "list" := fun {m l} h => by
    cases e : st.lstAt l with
    | none => rw [e] at h; cases h
    | some xs => rw [e] at h; cases h; rfl
  cases m <;> first | cases hm | skip
  case append =>
    cases q <;> first | cases h | (cases lc (m := .append) h; exact ⟨_, F.plainAttrs_list, F.slot_list_append, F.type_list_append, w_append⟩)
  case pop0 =>
    cases q <;> first | cases h | (cases lc (m := .append) h; exact ⟨_, F.plainAttrs_list, F.slot_list_pop, F.type_list_pop, w_pop0⟩)
  case pop =>
    cases q <;> first | cases h | (cases lc (m := .append) h; exact ⟨_, F.plainAttrs_list, F.slot_list_pop, F.type_list_pop, w_pop⟩)
  case extend =>
    cases q <;> first | cases h | (cases lc (m := .append) h; exact ⟨_, F.plainAttrs_list, F.slot_list_extend, F.type_list_extend, w_extend⟩)
  case index =>
    cases q <;> first | (cases h; exact ⟨_, F.plainAttrs_tuple, F.slot_tuple_index, F.type_tuple_index, (w_index c0).2⟩) | (cases h; exact ⟨_, F.plainAttrs_str, F.slot_str_index, F.type_str_index, w_sindex⟩) | cases h | (cases lc (m := .append) h; exact ⟨_, F.plainAttrs_list, F.slot_list_index, F.type_list_index, (w_index c0).1⟩)
  case count =>
    cases q <;> first | (cases h; exact ⟨_, F.plainAttrs_tuple, F.slot_tuple_count, F.type_tuple_count, (w_count c0).2⟩) | cases h | (cases lc (m := .append) h; exact ⟨_, F.plainAttrs_list, F.slot_list_count, F.type_list_count, (w_count c0).1⟩)
  case join =>
    cases q <;> first | (cases h; exact ⟨_, F.plainAttrs_str, F.slot_str_join, F.type_str_join, w_join⟩) | cases h
  case starts =>
    cases q <;> first | (cases h; exact ⟨_, F.plainAttrs_str, F.slot_str_startswith, F.type_str_startswith, w_starts⟩) | cases h
/-- the receiver -/
theorem recv_ok {pins : List (Addr × Obj)} {σ : L2.St} {H : Hp} {s : Shared} {μ : Pl} {st : Sto} {v : V} {u : Value} {q : PV} {m : Mt} {T : String} (I : L2.Inv X pins σ H s) (S : SRep X.K μ H st) (rq : Rep X.K μ st.nxt H v q) (ru : RelV v u) (h : mtT m q st = some T) :
    s.TypeIs u T ∧ ∀ a, u = .ref a → ∃ ob, s.heap.get? a = some ob ∧ ob.dict = none := by
  have hl : ∀ {l : Nat}, Rep X.K μ st.nxt H v (.loc l) → (match st.lstAt l with | some _ => some "list" | none => none) = some T → s.TypeIs u T ∧ ∀ a, u = .ref a → ∃ ob, s.heap.get? a = some ob ∧ ob.dict = none := fun {l} rq h => by
    cases e : st.lstAt l with
    | none => rw [e] at h; cases h
    | some xs =>
      rw [e] at h
      cases h
      cases rq
      cases ru
      obtain ⟨vs, h1, h2⟩ := S.at e
      obtain ⟨its, rv, pl, hz⟩ := I.list h1
      obtain ⟨o, n, e1, e2, e3, e4⟩ := id pl
      exact ⟨pl.isList.typeIs, fun a ea => by cases ea; exact ⟨o, e1, e3⟩⟩
  have ht : ∀ {xs : List PV}, Rep X.K μ st.nxt H v (.tup xs) → T = "tuple" → s.TypeIs u T ∧ ∀ a, u = .ref a → ∃ ob, s.heap.get? a = some ob ∧ ob.dict = none := fun {xs} rq h => by
    cases h
    cases rq with
    | tup d q =>
      cases ru
      obtain ⟨o, its, n, e1, e2, e3, _⟩ := tup_obj I d
      exact ⟨⟨o, e1, e2⟩, fun a ea => by cases ea; exact ⟨o, e1, e3⟩⟩
  cases q with
  | loc l => cases m <;> first | exact hl rq h | cases h
  | tup xs => cases m <;> first | (cases h; exact ht rq rfl) | cases h
  | str t =>
    cases m <;> first | (cases h; cases rq; obtain ⟨tk, rfl⟩ := ru; exact ⟨typeIs_str _ _ _, fun a ea => nomatch ea⟩) | cases h
  | _ => cases m <;> cases h
theorem chk_of {K : PySem.W.Frag} {α β : Type} {rel : Pl → Nat → Hp → β → α → Prop} {μ : Pl} {st : Sto} {H : Hp} {m : Mt} {q : PV} {F : Unit → M α} {Q : β → Hp → Prop} (h : FinG K rel μ st H (M.bind (mtChk m q) F st) Q) : ∃ T, mtT m q st = some T ∧ FinG K rel μ st H (F () st) Q := by
  unfold M.bind mtChk at h
  cases e : mtT m q st with
  | none => simp only [e] at h; exact h.elim
  | some T => simp only [e] at h; exact ⟨T, rfl, h⟩
theorem r_mt (c0 : CxOk X) {m : Mt} (hm : mtOk m = true) (ho : PE X o (rd X.K f)) (hs : PA X (e :: es) (rdA X.K fs)) (hn : ∀ z ∈ e :: es, NoStar X z) (hl : (e :: es).length < 30)
    (hbase : attributeBase o (mtNm m) X.env (eval o X.env) = eval o X.env) (hline : (apos.endLine == pos.line) = true) :
    PE X (.Call (.Attribute o (mtNm m) apos) (e :: es) [] pos) (rd X.K fun r => M.bind (f r) fun x => M.bind (mtChk m x) fun _ => M.bind (fs r) fun vs => mtM m x vs) := by
  refine ⟨fun pins s σ H Q I ⟨μ, r, st, E, S, h⟩ => ?_⟩
  refine wpAny_Call_method_late hbase (few_args hn hl) hline rfl (thn (ho.run pins s σ H (fun v H1 => ∃ μ1 st1 q T, ERep X.K μ1 st1.nxt H1 σ r ∧ SRep X.K μ1 H1 st1 ∧ Rep X.K μ1 st1.nxt H1 v q ∧ mtT m q st1 = some T ∧ FinG X.K (Rep X.K) μ1 st1 H1 (M.bind (fs r) (fun vs => mtM m q vs) st1) Q) I
    ⟨μ, r, st, E, S, FinG.seq (rel := Rep X.K) h fun v H1 m1 st1 q t S1 rq F1 => by
      obtain ⟨T, hT, F2⟩ := chk_of F1
      exact ⟨m1, st1, q, T, E.step S t, S1, rq, hT, F2⟩⟩) fun u s1 ⟨v, H1, I1, ru, μ1, st1, q, T, E1, S1, rq, hT, F1⟩ => ?_)
  obtain ⟨id, M⟩ := mtf c0 hT hm
  obtain ⟨h1, h2⟩ := recv_ok I1 S1 rq ru hT
  refine ⟨T, id, M.pa, M.slot, M.ty, h1, h2, ?_⟩
  have hA := hs.run pos pins s1 σ H1 (fun vs H2 => ∃ μ2 st2 ps, SRep X.K μ2 H2 st2 ∧ Rep X.K μ2 st2.nxt H2 v q ∧ Reps X.K μ2 st2.nxt H2 vs ps ∧ FinG X.K (Rep X.K) μ2 st2 H2 (mtM m q ps st2) Q) I1
    ⟨μ1, r, st1, E1, S1, FinG.seq (rel := Reps X.K) F1 fun vs H2 m2 st2 ps t S2 rs F2 => ⟨m2, st2, ps, S2, Rep.step S1 t q v rq, rs, F2⟩⟩
  have hpl := plain_args (pos := pos) hn
  rw [hn e (List.mem_cons_self ..) es] at hA hpl ⊢
  refine Calls.callWith_builtin hpl (Calls.evalArgs_plain ?_)
  exact thn hA fun us s2 ⟨vs, H2, I2, r2, μ2, st2, ps, S2, rq2, rs, F2⟩ => M.w pins s2 σ H2 v vs u us Q μ2 st2 q ps I2 ru r2 S2 rq2 rs F2 ⟨st1, hT⟩
theorem r_mt0 (c0 : CxOk X) {m : Mt} (hm : mtOk m = true) (ho : PE X o (rd X.K f)) (hbase : attributeBase o (mtNm m) X.env (eval o X.env) = eval o X.env) (hline : (apos.endLine == pos.line) = true) :
    PE X (.Call (.Attribute o (mtNm m) apos) [] [] pos) (rd X.K fun r => M.bind (f r) fun x => M.bind (mtChk m x) fun _ => mtM m x []) := by
  refine ⟨fun pins s σ H Q I ⟨μ, r, st, E, S, h⟩ => ?_⟩
  refine wpAny_Call_method0_late hbase hline (thn (ho.run pins s σ H (fun v H1 => ∃ μ1 st1 q T, SRep X.K μ1 H1 st1 ∧ Rep X.K μ1 st1.nxt H1 v q ∧ mtT m q st1 = some T ∧ FinG X.K (Rep X.K) μ1 st1 H1 (mtM m q [] st1) Q) I
    ⟨μ, r, st, E, S, FinG.seq (rel := Rep X.K) h fun v H1 m1 st1 q t S1 rq F1 => by
      obtain ⟨T, hT, F2⟩ := chk_of F1
      exact ⟨m1, st1, q, T, S1, rq, hT, F2⟩⟩) fun u s1 ⟨v, H1, I1, ru, μ1, st1, q, T, S1, rq, hT, F1⟩ => ?_)
  obtain ⟨id, M⟩ := mtf c0 hT hm
  obtain ⟨h1, h2⟩ := recv_ok I1 S1 rq ru hT
  refine ⟨T, id, M.pa, M.slot, M.ty, h1, h2, Calls.callWith_builtin rfl (PySem.evalArgs_none ?_)⟩
  exact M.w pins s1 σ H1 v [] u [] Q μ1 st1 q [] I1 ru .nil S1 rq .nil F1 ⟨st1, hT⟩
end
end Dp


set_option Elab.async false
set_option linter.all false
set_option maxRecDepth 100000
set_option maxHeartbeats 4000000
set_option autoImplicit false
/-! DpLc: targets, comprehensions. -/
namespace Dp
open PySem L2 PySem.Spec PyProof.Rows

/-! ### targets -/
mutual
def tsl : IT → List Nat
  | .nm i => [i]
  | .tp ts => tsls ts
def tsls : ITs → List Nat
  | .nil => []
  | .cons t ts => tsl t ++ tsls ts
end
def Same (sl : List Nat) (σ σ' : L2.St) : Prop := (∀ i, i ∉ sl → σ'[i]? = σ[i]?) ∧ σ'.length = σ.length
theorem Same.refl (sl : List Nat) (σ : L2.St) : Same sl σ σ := ⟨fun _ _ => rfl, rfl⟩
theorem Same.trans {a b : List Nat} {σ σ1 σ2 : L2.St} (h : Same a σ σ1) (k : Same b σ1 σ2) : Same (a ++ b) σ σ2 :=
  ⟨fun i hi => (k.1 i fun z => hi (List.mem_append_right _ z)).trans (h.1 i fun z => hi (List.mem_append_left _ z)), k.2.trans h.2⟩
def rdG (K : PySem.W.Frag) (t : IT) : TG := fun v σ H Q => ∃ m r st p r', ERep K m st.nxt H σ r ∧ SRep K m H st ∧ Rep K m st.nxt H v p ∧ setT t p r = some r' ∧ ∀ σ', ERep K m st.nxt H σ' r' → Same (tsl t) σ σ' → Q σ' H
def rdGs (K : PySem.W.Frag) (ts : ITs) : TGs := fun vs σ H Q => ∃ m r st ps r', ERep K m st.nxt H σ r ∧ SRep K m H st ∧ Reps K m st.nxt H vs ps ∧ setTs ts ps r = some r' ∧ ∀ σ', ERep K m st.nxt H σ' r' → Same (tsls ts) σ σ' → Q σ' H
abbrev NoStarT (X : Cx) (e : Expr) : Prop := ∀ rest, assignEach (e :: rest) X.env = (false, assign e X.env) :: assignEach rest X.env
theorem PG.conseq {X : Cx} {e : Expr} {t t' : TG} (h : PG X e t) (k : ∀ v σ H Q, t' v σ H Q → t v σ H Q) : PG X e t' := ⟨fun pins s σ H v u Q I r q => h.run pins s σ H v u Q I r (k _ _ _ _ q)⟩
theorem PGs.conseq {X : Cx} {e : List Expr} {t t' : TGs} (h : PGs X e t) (k : ∀ v σ H Q, t' v σ H Q → t v σ H Q) : PGs X e t' := ⟨fun pins s σ H v u Q I r q => h.run pins s σ H v u Q I r (k _ _ _ _ q)⟩
section
variable {X : Cx} {x : Str} {pos : Pos} {e : Expr} {es : List Expr} {t : IT} {ts : ITs} {k : Nat}
theorem g_nm {i : Nat} (hN : X.N.Nodup) (hi : X.N[i]? = some x) (hx : Loc X.env.scope x) (hf : X.fn x = true ∨ X.env.scope.names.lookup x = some .local) : PG X (.Name x pos) (rdG X.K (.nm i)) := by
  refine PG.conseq (pg_name hN hi hx hf) fun v σ H Q ⟨m, r, st, p, r', E, S, rp, e, q⟩ => ?_
  cases e
  refine q _ (E.set rp) ⟨fun j hj => ?_, by rw [List.length_set]⟩
  rw [List.getElem?_set_ne]
  exact fun z => hj (by rw [z]; exact List.mem_singleton.mpr rfl)
theorem gs_nil : PGs X [] (rdGs X.K .nil) := by
  refine PGs.conseq pgs_nil fun vs σ H Q ⟨m, r, st, ps, r', E, S, rs, e, q⟩ => ?_
  cases ps with
  | nil => cases e; cases rs; exact ⟨rfl, q σ E (Same.refl _ _)⟩
  | cons p ps => cases e
theorem gs_cons (h1 : PG X e (rdG X.K t)) (h2 : PGs X es (rdGs X.K ts)) (hs : NoStarT X e) : PGs X (e :: es) (rdGs X.K (.cons t ts)) := by
  refine PGs.conseq (pgs_cons h1 h2 (by rw [hs]; rfl)) fun vs σ H Q ⟨m, r, st, ps, r', E, S, rs, e, q⟩ => ?_
  cases ps with
  | nil => cases e
  | cons p ps =>
    cases rs with
    | cons rp rs =>
      have e : (match setT t p r with | some r' => setTs ts ps r' | none => none) = some r' := e
      cases e1 : setT t p r with
      | none => rw [e1] at e; cases e
      | some r1 =>
        rw [e1] at e
        exact ⟨_, _, rfl, m, r, st, p, r1, E, S, rp, e1, fun σ1 E1 sm1 => ⟨m, r1, st, ps, r', E1, S, rs, e, fun σ2 E2 sm2 => q σ2 E2 (sm1.trans sm2)⟩⟩
theorem setTs_len : ∀ {ts : ITs} {ps : List PV} {r r' : Env}, setTs ts ps r = some r' → ∀ {n : Nat}, n = ps.length → ∃ l : List IT, l.length = n
  | _, ps, _, _, _, n, h => ⟨List.replicate n (.nm 0), List.length_replicate⟩
def itsLen : ITs → Nat
  | .nil => 0
  | .cons _ ts => itsLen ts + 1
theorem setTs_lenE : ∀ {ts : ITs} {ps : List PV} {r r' : Env}, setTs ts ps r = some r' → ps.length = itsLen ts
  | .nil, [], _, _, _ => rfl
  | .nil, _ :: _, _, _, h => by cases h
  | .cons t ts, [], _, _, h => by cases h
  | .cons t ts, p :: ps, r, r', h => by
    have h : (match setT t p r with | some r' => setTs ts ps r' | none => none) = some r' := h
    cases e1 : setT t p r with
    | none => rw [e1] at h; cases h
    | some r1 =>
      rw [e1] at h
      rw [List.length_cons, setTs_lenE h]
      rfl
theorem starT_all : ∀ {es : List Expr}, (∀ e ∈ es, NoStarT X e) → assignEach es X.env = es.map fun e => (false, assign e X.env)
  | [], _ => rfl
  | e :: es, h => by rw [h e (List.mem_cons_self ..), starT_all fun x hx => h x (List.mem_cons_of_mem _ hx)]; rfl
theorem g_tp (hc : X.calm = true) (h : PGs X es (rdGs X.K ts)) (hn : es.length = itsLen ts) (hst : ∀ e ∈ es, NoStarT X e) : PG X (.Tuple es k pos) (rdG X.K (.tp ts)) := by
  refine PG.conseq (pg_tup hc h (n := itsLen ts) (by rw [starT_all hst, List.length_map]; exact hn) (by rw [starT_all hst]; rw [List.findIdx?_eq_none_iff]; intro z hz; obtain ⟨e, _, rfl⟩ := List.mem_map.mp hz; rfl)) fun v σ H Q ⟨m, r, st, p, r', E, S, rp, e, q⟩ => ?_
  cases p <;> first | (cases e; done) | skip
  case tup ps =>
    cases rp with
    | tup d rs =>
      have e : setTs ts ps r = some r' := e
      exact ⟨_, _, rfl, d.sq, rs.length.trans (setTs_lenE e), m, r, st, ps, r', E, S, rs, e, q⟩
end
theorem wipe_get {σ : L2.St} : ∀ {vs : List Nat} {i : Nat}, (L2.wipe σ vs)[i]? = if i ∈ vs ∧ i < σ.length then some none else σ[i]?
  | [], i => by simp [L2.wipe]
  | v :: vs, i => by
    show ((L2.wipe σ vs).set v none)[i]? = _
    rw [List.getElem?_set, L2.wipe_length, wipe_get]
    by_cases h : v = i
    · subst h
      by_cases hl : v < σ.length
      · simp [hl]
      · simp [hl]
    · have h' : ¬ i = v := fun z => h z.symm
      simp [h, h']
theorem wipe_same {vs sl : List Nat} {σ σ' : L2.St} (h : Same sl (L2.wipe σ vs) σ') (hs : ∀ i ∈ sl, i ∈ vs) : L2.wipe σ' vs = L2.wipe σ vs := by
  have hl : σ'.length = σ.length := h.2.trans (L2.wipe_length σ vs)
  apply List.ext_getElem?
  intro i
  rw [wipe_get, wipe_get, hl]
  by_cases hi : i ∈ vs
  · by_cases hz : i < σ.length
    · simp [hi, hz]
    · simp only [hz, and_false, if_false]
      rw [List.getElem?_eq_none (by rw [hl]; exact Nat.le_of_not_lt hz), List.getElem?_eq_none (Nat.le_of_not_lt hz)]
  · have := h.1 i (fun z => hi (hs i z))
    rw [wipe_get] at this
    simp only [hi, false_and, if_false] at this ⊢
    exact this

/-! ### the list that a comprehension makes -/
def FinC (K : PySem.W.Frag) (m : Pl) (st : Sto) (H : Hp) (r : R (List PV)) (Q : VK) : Prop :=
  match r with
  | .ok ps st1 => ∀ (D : Addr) (vs : List V) (H1 : Hp) (m1 : Pl), Step m st H m1 st1 H1 → SRep K m1 H1 st1 → H1 D = some (.lst vs) → ¬ Own m1 st1 D → (Own m st D ∨ H D = none) → Reps K m1 st1.nxt H1 vs ps → Q (.ref D) H1
  | .err => False
def rdC (K : PySem.W.Frag) (f : Env → M (List PV)) : TE := fun σ H Q => ∃ m r st, ERep K m st.nxt H σ r ∧ SRep K m H st ∧ FinC K m st H (f r st) Q
theorem FinC.later {K : PySem.W.Frag} {m m1 : Pl} {st st1 : Sto} {H H1 : Hp} {r : R (List PV)} {Q : VK} (F : FinC K m st H r Q) (t : Step m st H m1 st1 H1) : FinC K m1 st1 H1 r Q := by
  cases r with
  | err => exact F
  | ok p s =>
    refine fun D vs H' m' t1 a b c d e => F D vs H' m' (t.trans t1) a b c ?_ e
    rcases d with d | d
    · exact t.ow D d
    · by_cases ow : Own m st D
      · exact .inl ow
      · cases q : H D with
        | none => exact .inr rfl
        | some o => rw [t.fr D o q ow] at d; cases d
theorem FinC.seq {α β : Type} {K : PySem.W.Frag} {rel : Pl → Nat → Hp → β → α → Prop} {m0 m : Pl} {st0 st : Sto} {H0 H : Hp} {g : M α} {f : α → M (List PV)} {Q : VK} {Q' : β → Hp → Prop} (h : FinC K m0 st0 H0 (M.bind g f st) Q)
    (k : ∀ (v : β) (H1 : Hp) (m1 : Pl) (st1 : Sto) (p : α), Step m st H m1 st1 H1 → SRep K m1 H1 st1 → rel m1 st1.nxt H1 v p → FinC K m0 st0 H0 (f p st1) Q → Q' v H1) : FinG K rel m st H (g st) Q' := by
  unfold M.bind at h
  cases e : g st with
  | err => rw [e] at h; exact h
  | ok p st1 => rw [e] at h; exact fun v H1 m1 s1 s2 s3 => k v H1 m1 st1 p s1 s2 s3 h
theorem FinC.seqI {K : PySem.W.Frag} {m0 m : Pl} {st0 st : Sto} {H0 H : Hp} {g : M Itr} {f : Itr → M (List PV)} {Q : VK} {Q' : It → Hp → Prop} (h : FinC K m0 st0 H0 (M.bind g f st) Q)
    (k : ∀ (J : It) (H1 : Hp) (m1 : Pl) (st1 : Sto) (I : Itr), Step m st H m1 st1 H1 → SRep K m1 H1 st1 → JOk K m1 st1 H1 J I → FinC K m0 st0 H0 (f I st1) Q → Q' J H1) : FinI K m st H (g st) Q' := by
  unfold M.bind at h
  cases e : g st with
  | err => rw [e] at h; exact h
  | ok p st1 => rw [e] at h; exact fun v H1 m1 s1 s2 s3 => k v H1 m1 st1 p s1 s2 s3 h
section
variable {K : PySem.W.Frag} {m m1 : Pl} {st st1 : Sto} {H H1 : Hp} {D : Addr} {vs ws : List V}
/-- an untracked list is written: what is known stays -/
theorem Rep.over_d (hD : H D = some (.lst vs)) {a : Addr} {us : List V} (h : SqD K H a us) : SqD K (upd H D (.lst ws)) a us := by
  rcases h with ⟨o, h, d⟩ | h
  · refine .inl ⟨o, ?_, d⟩
    rw [upd_ne (fun z => by rw [z, hD] at h; cases h)]
    exact h
  · exact .inr h
mutual
theorem Rep.over (hD : H D = some (.lst vs)) : ∀ (p : PV) (v : V), Rep K m st.nxt H v p → Rep K m st.nxt (upd H D (.lst ws)) v p
  | .non, _, h => by cases h; exact .non
  | .bl b, _, h => by cases h; exact .bl b
  | .int i, _, h => by cases h; exact .int i
  | .str s, _, h => by
    cases h with
    | str _ q => exact .str s q
  | .rp x, _, h => by cases h; exact .rp x
  | .tup xs, _, h => by
    cases h with
    | tup d q => exact .tup (Rep.over_d hD d) (Reps.over hD xs _ q)
  | .loc l, _, h => by
    cases h with
    | loc h => exact .loc h
  | .lv xs, _, h => by cases h
theorem Reps.over (hD : H D = some (.lst vs)) : ∀ (ps : List PV) (us : List V), Reps K m st.nxt H us ps → Reps K m st.nxt (upd H D (.lst ws)) us ps
  | [], _, h => by cases h; exact .nil
  | p :: ps, _, h => by
    cases h with
    | cons a b => exact .cons (Rep.over hD p _ a) (Reps.over hD ps _ b)
end
theorem SRep.over (s : SRep K m H st) (hD : H D = some (.lst vs)) (ho : ¬ Own m st D) : SRep K m (upd H D (.lst ws)) st := by
  refine ⟨fun l o e => ?_, s.inj⟩
  obtain ⟨h1, h2⟩ := s.ob l o e
  refine ⟨h1, h2.mv rfl (fun h e3 hf => ?_) (Rep.over hD)⟩
  have ne : m l ≠ D := fun z => by
    by_cases hu : o.mut = true
    · exact ho ⟨l, o, e, hu, z⟩
    · unfold fits at hf
      rw [if_neg hu] at hf
      obtain ⟨ob, v, rfl⟩ := hf
      rw [z, hD] at e3
      cases e3
  rw [upd_ne ne]
  exact e3
theorem ERep.over {σ : L2.St} {r : Env} (E : ERep K m st.nxt H σ r) (hD : H D = some (.lst vs)) : ERep K m st.nxt (upd H D (.lst ws)) σ r :=
  ⟨E.len, fun i p h => let ⟨v, h1, h2⟩ := E.at_ i p h; ⟨v, h1, Rep.over hD p v h2⟩⟩
/-- a step that never saw D -/
theorem Step.over (t : Step m st H m1 st1 H1) (h0 : H D = none) : Step m st H m1 st1 (upd H1 D (.lst ws)) :=
  ⟨t.nx, t.mu, fun a o h n => by rw [upd_ne (fun z => by rw [z, h0] at h; cases h)]; exact t.fr a o h n, t.ow⟩
/-- D stays as it is, and stays nobody's -/
theorem Step.keepD (t : Step m st H m1 st1 H1) (hD : H D = some (.lst vs)) (ho : ¬ Own m st D) : H1 D = some (.lst vs) ∧ ¬ Own m1 st1 D :=
  ⟨t.fr D _ hD ho, fun z => by
    rcases t.ow D z with q | q
    · exact ho q
    · rw [hD] at q; cases q⟩
mutual
theorem Rep.lift {m' : Pl} {n n' : Nat} (hm : ∀ l, l < n → m' l = m l) (hn : n ≤ n') : ∀ (p : PV) (v : V), Rep K m n H v p → Rep K m' n' H v p
  | .non, _, h => by cases h; exact .non
  | .bl b, _, h => by cases h; exact .bl b
  | .int i, _, h => by cases h; exact .int i
  | .str s, _, h => by
    cases h with
    | str _ q => exact .str s q
  | .rp x, _, h => by cases h; exact .rp x
  | .tup xs, _, h => by
    cases h with
    | tup d q => exact .tup d (Reps.lift hm hn xs _ q)
  | .loc l, _, h => by
    cases h with
    | loc h => rw [← hm l h]; exact .loc (Nat.lt_of_lt_of_le h hn)
  | .lv xs, _, h => by cases h
theorem Reps.lift {m' : Pl} {n n' : Nat} (hm : ∀ l, l < n → m' l = m l) (hn : n ≤ n') : ∀ (ps : List PV) (us : List V), Reps K m n H us ps → Reps K m' n' H us ps
  | [], _, h => by cases h; exact .nil
  | p :: ps, _, h => by
    cases h with
    | cons a b => exact .cons (Rep.lift hm hn p _ a) (Reps.lift hm hn ps _ b)
end
/-- the list is taken into the store -/
theorem SRep.adopt {xs : List PV} (s : SRep K m H st) (hD : H D = some (.lst vs)) (ho : ¬ Own m st D) (r : Reps K m st.nxt H vs xs) : SRep K (plNew m st.nxt D) H (st.new (.lst xs)) := by
  have lift : ∀ (p : PV) (v : V), Rep K m st.nxt H v p → Rep K (plNew m st.nxt D) (st.new (.lst xs)).nxt H v p :=
    Rep.lift (fun l hl => plNew_old hl) (Nat.le_succ _)
  refine ⟨fun l u e => ?_, fun l k ys zs e1 e2 m1 m2 q => ?_⟩
  · rcases get_newE e with ⟨rfl, rfl⟩ | ⟨n1, e⟩
    · exact ⟨Nat.lt_succ_self _, vs, by rw [plNew_new]; exact hD, r.mv lift⟩
    · obtain ⟨h1, h2⟩ := s.ob l u e
      exact ⟨Nat.lt_succ_of_lt h1, h2.mv (plNew_old h1) (fun _ e _ => e) lift⟩
  · rcases get_newE e1 with ⟨rfl, _⟩ | ⟨n1, e1⟩
    · rcases get_newE e2 with ⟨rfl, _⟩ | ⟨n2, e2⟩
      · rfl
      · rw [plNew_new, plNew_old (s.ob k _ e2).1] at q
        exact absurd ⟨k, _, e2, m2, q.symm⟩ ho
    · rcases get_newE e2 with ⟨rfl, _⟩ | ⟨n2, e2⟩
      · rw [plNew_new, plNew_old (s.ob l _ e1).1] at q
        exact absurd ⟨l, _, e1, m1, q⟩ ho
      · rw [plNew_old (s.ob l _ e1).1, plNew_old (s.ob k _ e2).1] at q
        exact s.inj l k _ _ e1 e2 m1 m2 q
theorem Step.adopt {xs : List PV} (t : Step m st H m1 st1 H1) (s : SRep K m1 H1 st1) (h0 : H D = none) : Step m st H (plNew m1 st1.nxt D) (st1.new (.lst xs)) H1 := by
  refine ⟨Nat.le_succ_of_le t.nx, fun l hl => (plNew_old (Nat.lt_of_lt_of_le hl t.nx)).trans (t.mu l hl), t.fr, fun a h => ?_⟩
  obtain ⟨l, ys, e, hm, rfl⟩ := h
  rcases get_newE e with ⟨rfl, _⟩ | ⟨n1, e⟩
  · rw [plNew_new]; exact .inr h0
  · have hl := (s.ob l _ e).1
    rw [plNew_old hl]
    exact t.ow _ ⟨l, ys, e, hm, rfl⟩
end

/-! ### comprehensions -/
/-- a turn's test and element -/
abbrev lcF (c : Env → M Bool) (e : Env → M PV) : Env → List PV → M (List PV) := fun r' acc => M.bind (c r') fun b => if b then M.bind (e r') (accM acc) else M.pure acc
section
variable {X : Cx} {elt tg iter : Expr} {ifs : List Expr} {scope : Scope} {own : List (Str × Nat)} {pos : Pos} {t : IT} {fi : Env → M Itr} {fc : Env → M Bool} {fe : Env → M PV}
/-- the list at D as it stands, and what is to be done with it -/
def LcN (K : PySem.W.Frag) (D : Addr) (m0 : Pl) (st0 : Sto) (H0 : Hp) (F : List PV → M (List PV)) (Q : VK) (mJ : Pl) (nJ : Nat) (HJ : Hp) (H : Hp) : Prop :=
  ∃ m1 st1 acc ps, Step m0 st0 H0 m1 st1 H ∧ Stp mJ nJ HJ m1 st1.nxt H ∧ SRep K m1 H st1 ∧ H D = some (.lst acc) ∧ ¬ Own m1 st1 D ∧ Reps K m1 st1.nxt H acc ps ∧ FinC K m0 st0 H0 (F ps st1) Q
theorem Stp.over {m m1 : Pl} {n n1 : Nat} {H H1 : Hp} {D : Addr} {vs ws : List V} (t : Stp m n H m1 n1 H1) (hD : H1 D = some (.lst vs)) : Stp m n H m1 n1 (upd H1 D (.lst ws)) :=
  ⟨t.nx, t.mu, fun a o u h => by
    have q := t.fz a o u h
    rw [upd_ne (fun z => by rw [z, hD] at q; cases q)]
    exact q⟩
theorem ERep.stp {K : PySem.W.Frag} {m m1 : Pl} {n n1 : Nat} {H H1 : Hp} {σ : L2.St} {r : Env} (E : ERep K m n H σ r) (t : Stp m n H m1 n1 H1) : ERep K m1 n1 H1 σ r :=
  ⟨E.len, fun i p h => let ⟨v, h1, h2⟩ := E.at_ i p h; ⟨v, h1, Rep.stp t p v h2⟩⟩
/-- the innermost loop, whatever comes behind it -/
theorem lc_loop {K : PySem.W.Frag} {D : Addr} {m0 mJ : Pl} {st0 stJ : Sto} {H0 HJ : Hp} {J : It} {I : Itr} {vs : List Nat} {σ : L2.St} {r : Env} {Q : VK} {cont : List PV → M (List PV)} (hs : ∀ i ∈ tsl t, i ∈ vs) (h0 : Own m0 st0 D ∨ H0 D = none) (hD0 : H0 D = none) (JK : JOk K mJ stJ HJ J I) (E : ERep K mJ stJ.nxt HJ (L2.wipe σ vs) r)
    {n : Nat} {Hs : Hp} (start : LcN K D m0 st0 H0 (fun ps => M.bind (lcGo t I r (lcF fc fe) n 0 ps) cont) Q mJ stJ.nxt HJ Hs) :
    ∃ W : Nat → Nat → Hp → Prop, (∃ k, W 0 k Hs) ∧ ∀ i k H, W i k H → (J.stop i H ∧ LcN K D m0 st0 H0 cont Q mJ stJ.nxt HJ H) ∨ (J.go i H ∧ ∃ Nx : Hp → Prop, (∀ H', Nx H' → ∃ k', k' < k ∧ W (i + 1) k' H') ∧
      ∀ x H', J.yld i H x H' → rdG K t x (L2.wipe σ vs) H' fun σ2 H2 => L2.wipe σ2 vs = L2.wipe σ vs ∧ rdB K fc σ2 H2 fun b H3 =>
        if b = true then rd K fe σ2 H3 fun y H4 => ∃ acc, H4 D = some (.lst acc) ∧ acc.length < sizeLine ∧ Nx (upd H4 D (.lst (acc ++ [y]))) else Nx H3) := by
  refine ⟨fun i k H => LcN K D m0 st0 H0 (fun ps => M.bind (lcGo t I r (lcF fc fe) k i ps) cont) Q mJ stJ.nxt HJ H, ⟨n, start⟩, ?_⟩
  rintro i k H ⟨m2, st2, acc, ps, t2, p2, S2, hD2, ho, ra, F⟩
  cases k with
  | zero => exact F.elim
  | succ k =>
    simp only [lcGo, M.bind] at F
    cases e : I.at st2 i with
    | none => rw [e] at F; exact F.elim
    | some o =>
      rw [e] at F
      cases o with
      | none => exact .inl ⟨JK.stop m2 st2 H i p2 S2 e, m2, st2, acc, ps, t2, p2, S2, hD2, ho, ra, F⟩
      | some p =>
        obtain ⟨g1, g2⟩ := JK.go m2 st2 H i p p2 S2 e
        refine .inr ⟨g1, LcN K D m0 st0 H0 (fun ps => M.bind (lcGo t I r (lcF fc fe) k (i + 1) ps) cont) Q mJ stJ.nxt HJ, fun H' q => ⟨k, Nat.lt_succ_self k, q⟩, fun x H3 y => ?_⟩
        obtain ⟨t3, S3, rp⟩ := g2 x H3 y
        have p3 := p2.trans (t3.stp S2)
        simp only at F
        cases e2 : setT t p r with
        | none => rw [e2] at F; exact F.elim
        | some r' =>
          rw [e2] at F
          refine ⟨m2, r, st2, p, r', E.stp p3, S3, rp, e2, fun σ' E' sm => ⟨wipe_same sm hs, ?_⟩⟩
          have F : FinC K m0 st0 H0 (M.bind (M.bind (fc r') fun b => if b then M.bind (fe r') (accM ps) else M.pure ps) (fun a => M.bind (lcGo t I r (lcF fc fe) k (i + 1) a) cont) st2) Q := by
            have e3 : M.bind (M.bind (fc r') fun b => if b then M.bind (fe r') (accM ps) else M.pure ps) (fun a => M.bind (lcGo t I r (lcF fc fe) k (i + 1) a) cont) = M.bind (M.bind (M.bind (fc r') fun b => if b then M.bind (fe r') (accM ps) else M.pure ps) (lcGo t I r (lcF fc fe) k (i + 1))) cont := (bind_as _ _ _).symm
            rw [e3]
            exact F
          rw [bind_as] at F
          refine ⟨m2, r', st2, E', S3, FinC.seq (rel := relB) F fun b H4 m4 st4 b' t4 S4 rb F4 => ?_⟩
          cases rb
          have d3 := t3.keepD hD2 ho
          have d4 := t4.keepD d3.1 d3.2
          cases b with
          | false =>
            exact ⟨m4, st4, acc, ps, (t2.trans t3).trans t4, p3.trans (t4.stp S3), S4, d4.1, d4.2, Reps.step S3 t4 ps acc (Reps.step S2 t3 ps acc ra), F4⟩
          | true =>
            have F4 : FinC K m0 st0 H0 (M.bind (M.bind (fe r') (accM ps)) (fun a => M.bind (lcGo t I r (lcF fc fe) k (i + 1) a) cont) st4) Q := F4
            rw [bind_as] at F4
            rw [if_pos rfl]
            refine ⟨m4, r', st4, E'.step S3 t4, S4, FinC.seq (rel := Rep K) F4 fun v H5 m5 st5 q t5 S5 rq F5 => ?_⟩
            have d5 := t5.keepD d4.1 d4.2
            have r5 := Reps.step S4 t5 ps acc (Reps.step S3 t4 ps acc (Reps.step S2 t3 ps acc ra))
            have hl : ps.length < 16777216 := by
              by_cases z : ps.length < 16777216
              · exact z
              · unfold accM M.bind at F5; rw [if_neg z] at F5; exact F5.elim
            refine ⟨acc, d5.1, by rw [r5.length, sizeLine_eq]; exact hl, ?_⟩
            refine ⟨m5, st5, acc ++ [v], ps ++ [q], Step.over (((t2.trans t3).trans t4).trans t5) hD0, (p3.trans ((t4.trans t5).stp S3)).over d5.1, S5.over d5.1 d5.2, upd_same, d5.2, ?_, ?_⟩
            · exact Reps.over d5.1 _ _ (r5.append (.cons rq .nil))
            · unfold accM M.bind at F5
              rw [if_pos hl] at F5
              exact F5
theorem bind_ret {α : Type} (g : M α) : M.bind g M.pure = g := by
  funext st
  unfold M.bind
  cases g st <;> rfl
theorem lc_read (hs : ∀ i ∈ tsl t, i ∈ own.map (·.2)) {σ : L2.St} {H : Hp} {Q : VK} (h : rdC X.K (fun r => M.bind (fi r) fun J => M.bind (bndM J) fun k => lcGo t J (wipeE r (own.map (·.2))) (lcF fc fe) k 0 []) σ H Q) :
    tLc (rdI X.K fi) (rdG X.K t) (rdB X.K fc) (rd X.K fe) (own.map (·.2)) σ H Q := by
  obtain ⟨m, r, st, E, S, h⟩ := h
  refine ⟨m, r, st, E, S, FinC.seqI h fun J H1 m1 st1 I t1 S1 JK F => ?_⟩
  intro D hD
  have F : FinC X.K m1 st1 H1 (lcGo t I (wipeE r (own.map (·.2))) (lcF fc fe) (I.bnd st1 + 1) 0 [] st1) Q := FinC.later F t1
  have no : ¬ Own m1 st1 D := fun z => by obtain ⟨ws, e, _⟩ := S1.own z; rw [hD] at e; cases e
  have st0 : LcN X.K D m1 st1 H1 (fun ps => M.bind (lcGo t I (wipeE r (own.map (·.2))) (lcF fc fe) (I.bnd st1 + 1) 0 ps) M.pure) Q m1 st1.nxt H1 (upd H1 D (.lst [])) :=
    ⟨m1, st1, [], [], (Step.refl _ _ _).over hD, ((Step.refl _ _ _).over hD).stp S1, S1.tup hD _, upd_same, no, .nil, by show FinC X.K m1 st1 H1 (M.bind (lcGo t I (wipeE r (own.map (·.2))) (lcF fc fe) (I.bnd st1 + 1) 0 []) M.pure st1) Q; rw [bind_ret]; exact F⟩
  obtain ⟨W, w0, wt⟩ := lc_loop hs (.inr hD) hD JK ((E.step S t1).wipe _) st0
  refine ⟨W, w0, fun i k H2 w => ?_⟩
  rcases wt i k H2 w with ⟨z, m2, st2, acc, ps, t2, p2, S2, hD2, ho, ra, F2⟩ | z
  · exact .inl ⟨z, F2 D acc H2 m2 t2 S2 hD2 ho (.inr hD) ra⟩
  · exact .inr z
/-! two clauses -/
abbrev lcF2 (fc : Env → M Bool) (t1 : IT) (fi1 : Env → M Itr) (own1 : List Nat) (fc1 : Env → M Bool) (fe : Env → M PV) : Env → List PV → M (List PV) := fun r' acc => M.bind (fc r') fun b => if b then
    M.bind (fi1 r') fun J1 => M.bind (bndM J1) fun k1 => lcGo t1 J1 (wipeE r' own1) (lcF fc1 fe) k1 0 acc
  else M.pure acc
variable {t1 : IT} {fi1 : Env → M Itr} {fc1 : Env → M Bool} {vs1 : List Nat}
theorem lc_read2 (hs : ∀ i ∈ tsl t, i ∈ own.map (·.2)) (hs1 : ∀ i ∈ tsl t1, i ∈ vs1) {σ : L2.St} {H : Hp} {Q : VK}
    (h : rdC X.K (fun r => M.bind (fi r) fun J => M.bind (bndM J) fun k => lcGo t J (wipeE r (own.map (·.2))) (lcF2 fc t1 fi1 vs1 fc1 fe) k 0 []) σ H Q) :
    tLc2 (rdI X.K fi) (rdG X.K t) (rdB X.K fc) (rdI X.K fi1) (rdG X.K t1) (rdB X.K fc1) (rd X.K fe) (own.map (·.2)) vs1 σ H Q := by
  obtain ⟨m, r, st, E, S, h⟩ := h
  refine ⟨m, r, st, E, S, FinC.seqI h fun J H1 mJ stJ I tJ SJ JK F => ?_⟩
  intro D hD
  have F : FinC X.K mJ stJ H1 (lcGo t I (wipeE r (own.map (·.2))) (lcF2 fc t1 fi1 vs1 fc1 fe) (I.bnd stJ + 1) 0 [] stJ) Q := FinC.later F tJ
  have no : ¬ Own mJ stJ D := fun z => by obtain ⟨ws, e, _⟩ := SJ.own z; rw [hD] at e; cases e
  have E0 := (E.step S tJ).wipe (own.map (·.2))
  refine ⟨fun i k H => LcN X.K D mJ stJ H1 (fun ps => lcGo t I (wipeE r (own.map (·.2))) (lcF2 fc t1 fi1 vs1 fc1 fe) k i ps) Q mJ stJ.nxt H1 H,
    ⟨_, mJ, stJ, [], [], (Step.refl _ _ _).over hD, ((Step.refl _ _ _).over hD).stp SJ, SJ.tup hD _, upd_same, no, .nil, F⟩, ?_⟩
  rintro i k H2 ⟨m2, st2, acc, ps, t2, p2, S2, hD2, ho, ra, F⟩
  cases k with
  | zero => exact F.elim
  | succ k =>
    simp only [lcGo, M.bind] at F
    cases e : I.at st2 i with
    | none => rw [e] at F; exact F.elim
    | some o =>
      rw [e] at F
      cases o with
      | none => exact .inl ⟨JK.stop m2 st2 H2 i p2 S2 e, F D acc H2 m2 t2 S2 hD2 ho (.inr hD) ra⟩
      | some p =>
        obtain ⟨g1, g2⟩ := JK.go m2 st2 H2 i p p2 S2 e
        refine .inr ⟨g1, LcN X.K D mJ stJ H1 (fun ps => lcGo t I (wipeE r (own.map (·.2))) (lcF2 fc t1 fi1 vs1 fc1 fe) k (i + 1) ps) Q mJ stJ.nxt H1, fun H' q => ⟨k, Nat.lt_succ_self k, q⟩, fun x H3 y => ?_⟩
        obtain ⟨t3, S3, rp⟩ := g2 x H3 y
        have p3 := p2.trans (t3.stp S2)
        simp only at F
        cases e2 : setT t p (wipeE r (own.map (·.2))) with
        | none => rw [e2] at F; exact F.elim
        | some r' =>
          rw [e2] at F
          refine ⟨m2, _, st2, p, r', E0.stp p3, S3, rp, e2, fun σ' E' sm => ⟨wipe_same sm hs, ?_⟩⟩
          have F : FinC X.K mJ stJ H1 (M.bind (M.bind (fc r') fun b => if b then M.bind (fi1 r') fun J1 => M.bind (bndM J1) fun k1 => lcGo t1 J1 (wipeE r' vs1) (lcF fc1 fe) k1 0 ps else M.pure ps) (lcGo t I (wipeE r (own.map (·.2))) (lcF2 fc t1 fi1 vs1 fc1 fe) k (i + 1)) st2) Q := F
          rw [bind_as] at F
          refine ⟨m2, r', st2, E', S3, FinC.seq (rel := relB) F fun b H4 m4 st4 b' t4 S4 rb F4 => ?_⟩
          cases rb
          have d3 := t3.keepD hD2 ho
          have d4 := t4.keepD d3.1 d3.2
          have r4 := Reps.step S3 t4 ps acc (Reps.step S2 t3 ps acc ra)
          cases b with
          | false =>
            exact ⟨m4, st4, acc, ps, (t2.trans t3).trans t4, p3.trans (t4.stp S3), S4, d4.1, d4.2, r4, F4⟩
          | true =>
            have F4 : FinC X.K mJ stJ H1 (M.bind (M.bind (fi1 r') fun J1 => M.bind (bndM J1) fun k1 => lcGo t1 J1 (wipeE r' vs1) (lcF fc1 fe) k1 0 ps) (lcGo t I (wipeE r (own.map (·.2))) (lcF2 fc t1 fi1 vs1 fc1 fe) k (i + 1)) st4) Q := F4
            rw [bind_as] at F4
            rw [if_pos rfl]
            refine ⟨m4, r', st4, E'.step S3 t4, S4, FinC.seqI F4 fun J1 H5 m5 st5 I1 t5 S5 JK1 F5 => ?_⟩
            have d5 := t5.keepD d4.1 d4.2
            have r5 := Reps.step S4 t5 ps acc r4
            have p5 := p3.trans ((t4.trans t5).stp S3)
            have s5 : LcN X.K D mJ stJ H1 (fun ps => M.bind (lcGo t1 I1 (wipeE r' vs1) (lcF fc1 fe) (I1.bnd st5 + 1) 0 ps) (lcGo t I (wipeE r (own.map (·.2))) (lcF2 fc t1 fi1 vs1 fc1 fe) k (i + 1))) Q m5 st5.nxt H5 H5 :=
              ⟨m5, st5, acc, ps, ((t2.trans t3).trans t4).trans t5, Stp.refl _ _ _, S5, d5.1, d5.2, r5, F5⟩
            obtain ⟨W, w0, wt⟩ := lc_loop hs1 (.inr hD) hD JK1 (((E'.step S3 t4).step S4 t5).wipe vs1) s5
            refine ⟨W, w0, fun j l H6 w => ?_⟩
            rcases wt j l H6 w with ⟨z, m6, st6, acc6, ps6, t6, p6, S6, hD6, ho6, ra6, F6⟩ | z
            · exact .inl ⟨z, m6, st6, acc6, ps6, t6, p5.trans p6, S6, hD6, ho6, ra6, F6⟩
            · exact .inr z
/-! as expressions -/
theorem PTs.conseq {X : Cx} {e : List Expr} {t t' : TT} (h : PTs X e t) (k : ∀ σ H Q, t' σ H Q → t σ H Q) : PTs X e t' := ⟨fun pins s σ H Q I q => h.run pins s σ H Q I (k _ _ _ q)⟩
theorem ts_nil {X : Cx} : PTs X [] (rdB X.K fun _ => M.pure true) := PTs.conseq pts_nil fun σ H Q ⟨m, r, st, E, S, q⟩ => FinG.done (rel := relB) (p := true) q S rfl
theorem ts_one {X : Cx} {c : Expr} {f : Env → M Bool} (h : PT X c (rdB X.K f)) : PTs X [c] (rdB X.K f) := pts_one h
end
end Dp


set_option Elab.async false
set_option linter.all false
set_option maxRecDepth 100000
set_option maxHeartbeats 4000000
set_option autoImplicit false
/-! DpRd3: what is done with a comprehension's list. -/
namespace Dp
open PySem L2 PySem.Spec PyProof.Rows

theorem FinC.of {α β : Type} {K : PySem.W.Frag} {rel2 : Pl → Nat → Hp → β → α → Prop} {m : Pl} {st : Sto} {H : Hp} {g : M (List PV)} {f : List PV → M α} {Q : β → Hp → Prop} {Q' : VK} (h : FinG K rel2 m st H (M.bind g f st) Q)
    (k : ∀ (D : Addr) (vs : List V) (H1 : Hp) (m1 : Pl) (st1 : Sto) (ps : List PV), Step m st H m1 st1 H1 → SRep K m1 H1 st1 → H1 D = some (.lst vs) → ¬ Own m1 st1 D → (Own m st D ∨ H D = none) → Reps K m1 st1.nxt H1 vs ps → FinG K rel2 m st H (f ps st1) Q → Q' (.ref D) H1) : FinC K m st H (g st) Q' := by
  unfold M.bind at h
  cases e : g st with
  | err => rw [e] at h; exact h
  | ok ps st1 => rw [e] at h; exact fun D vs H1 m1 t S a b c d => k D vs H1 m1 st1 ps t S a b c d h
section
variable {X : Cx} {a c e z : Expr} {fC : Env → M (List PV)} {f : Env → M PV} {pos p apos : Pos} {x : Str}
theorem r_lc (he : PE X e (rdC X.K fC)) : PE X e (rd X.K fun r => M.bind (fC r) newLst) := by
  refine PE.conseq he fun σ H Q ⟨m, r, st, E, S, q⟩ => ⟨m, r, st, E, S, FinC.of q fun D vs H1 m1 st1 ps t S1 hD ho hn rs F => ?_⟩
  unfold newLst at F
  by_cases hl : ps.length ≤ 16777216
  · rw [if_pos hl] at F
    refine F _ H1 (plNew m1 st1.nxt D) ?_ (SRep.adopt S1 hD ho rs) ?_
    · refine ⟨Nat.le_succ_of_le t.nx, fun l hl => (plNew_old (Nat.lt_of_lt_of_le hl t.nx)).trans (t.mu l hl), t.fr, fun b h => ?_⟩
      obtain ⟨l, ys, e, hm, rfl⟩ := h
      rcases get_newE e with ⟨rfl, _⟩ | ⟨n1, e⟩
      · rw [plNew_new]; exact hn
      · have hl := (S1.ob l _ e).1
        rw [plNew_old hl]
        exact t.ow _ ⟨l, ys, e, hm, rfl⟩
    · have := Rep.loc (K := X.K) (m := plNew m1 st1.nxt D) (n := (st1.new (.lst ps)).nxt) (H := H1) (l := st1.nxt) (Nat.lt_succ_self _)
      rw [plNew_new] at this
      exact this
  · rw [if_neg hl] at F; exact F.elim
theorem r_biC (c0 : CxOk X) {k : Bi} {u : Value} (hu : seqBi k = some u) (hg : Gl X x) (hm : X.mg x = none) (hv : bootBuiltins x = some u) (hnm : x ≠ "__name__") (hd : (x == ("__debug__" : Str)) = false) (he : PE X e (rdC X.K fC)) (hn : NoStar X e) :
    PE X (.Call (.Name x p) [e] [] pos) (rd X.K fun r => M.bind (fC r) (biSeq k)) := by
  have hc := bi_seq c0 k u hu
  have ha : PA X [e] (tCons (rdC X.K fC) tNil) := pa_cons he pa_nil (hn _)
  have go : ∀ σ H Q, rd X.K (fun r => M.bind (fC r) (biSeq k)) σ H Q → tCB (rdSq X.K k) (tCons (rdC X.K fC) tNil) σ H Q := fun σ H Q ⟨m, r, st, E, S, q⟩ =>
    ⟨m, r, st, E, S, FinC.of q fun D vs H1 m1 st1 ps t S1 hD ho hn rs F => ⟨m1, st1, D, vs, ps, S1, rfl, SqL.of hD, rs, F.later t⟩⟩
  cases k <;> cases hu <;> first
    | exact PE.conseq (pe_callB hc hg hm hv ha hnm hd (hn _) rfl) go
    | exact PE.conseq (pe_callTy hc hg hm hv ha hnm hd (hn _) rfl) go
theorem r_joinC (c0 : CxOk X) (hz : PE X z (rd X.K f)) (he : PE X e (rdC X.K fC)) (hn : NoStar X e) (hbase : attributeBase z "join" X.env (eval z X.env) = eval z X.env) (hline : (apos.endLine == pos.line) = true) :
    PE X (.Call (.Attribute z "join" apos) [e] [] pos) (rd X.K fun r => M.bind (f r) fun x => M.bind (mtChk .join x) fun _ => M.bind (fC r) (joinM x)) := by
  have hn1 : ∀ y ∈ [e], NoStar X y := fun y hy => by rw [List.mem_singleton.mp hy]; exact hn
  refine ⟨fun pins s σ H Q I ⟨μ, r, st, E, S, h⟩ => ?_⟩
  refine wpAny_Call_method_late hbase (few_args hn1 (by show 1 < 30; decide)) hline rfl (thn (hz.run pins s σ H (fun v H1 => ∃ μ1 st1 q T, ERep X.K μ1 st1.nxt H1 σ r ∧ SRep X.K μ1 H1 st1 ∧ Rep X.K μ1 st1.nxt H1 v q ∧ mtT .join q st1 = some T ∧ FinG X.K (Rep X.K) μ1 st1 H1 (M.bind (fC r) (joinM q) st1) Q) I
    ⟨μ, r, st, E, S, FinG.seq (rel := Rep X.K) h fun v H1 m1 st1 q t S1 rq F1 => by
      obtain ⟨T, hT, F2⟩ := chk_of F1
      exact ⟨m1, st1, q, T, E.step S t, S1, rq, hT, F2⟩⟩) fun u s1 ⟨v, H1, I1, ru, μ1, st1, q, T, E1, S1, rq, hT, F1⟩ => ?_)
  obtain ⟨id, M⟩ := mtf c0 hT rfl
  obtain ⟨h1, h2⟩ := recv_ok I1 S1 rq ru hT
  have hT2 : T = "str" := by cases q <;> cases hT; rfl
  subst hT2
  refine ⟨"str", "str.join", F.plainAttrs_str, F.slot_str_join, F.type_str_join, h1, h2, ?_⟩
  have ha : PA X [e] (tCons (rdC X.K fC) tNil) := pa_cons he pa_nil (hn _)
  have hA := ha.run pos pins s1 σ H1 (fun vs H2 => ∃ μ2 st2 D ws ps, vs = [V.ref D] ∧ SRep X.K μ2 H2 st2 ∧ Rep X.K μ2 st2.nxt H2 v q ∧ H2 D = some (.lst ws) ∧ Reps X.K μ2 st2.nxt H2 ws ps ∧ FinG X.K (Rep X.K) μ2 st2 H2 (joinM q ps st2) Q) I1
    ⟨μ1, r, st1, E1, S1, FinC.of F1 fun D vs H2 m2 st2 ps t S2 hD ho hn rs F2 => ⟨m2, st2, D, vs, ps, rfl, S2, Rep.step S1 t q v rq, hD, rs, F2.later t⟩⟩
  rw [hn] at hA ⊢
  refine Calls.callWith_builtin rfl (Calls.evalArgs_plain ?_)
  refine thn hA fun us s2 ⟨vs, H2, I2, r2, μ2, st2, D, ws, ps, ev, S2, rq2, hD, rs, F2⟩ => ?_
  subst ev
  obtain ⟨u2, rfl, ru2⟩ := vals1 r2
  exact join_at I2 ru ru2 S2 rq2 (.inl (SqL.of hD)) rs F2
end
end Dp


set_option Elab.async false
set_option linter.all false
set_option maxRecDepth 100000
set_option maxHeartbeats 4000000
set_option autoImplicit false
/-! DpDic: dicts with ints and texts as keys; list(range(n)). -/
namespace Dp
open PySem L2 PySem.Spec PyProof.Rows

section
variable {K : PySem.W.Frag} {m : Pl} {n : Nat} {H : Hp}
theorem ky_keq {a b : Key} {x y : PV} (h1 : KyR a x) (h2 : KyR b y) : keq x y = decide (a = b) := by
  cases h1 with
  | int i =>
    cases h2 with
    | int j =>
      show (i == j) = _
      by_cases e : i = j
      · subst e; simp
      · rw [decide_eq_false (fun z => e (Sum.inl.inj z))]; simpa using e
    | str t q => rw [decide_eq_false (fun z => by cases z)]; rfl
  | str s p =>
    cases h2 with
    | int j => rw [decide_eq_false (fun z => by cases z)]; rfl
    | str t q =>
      show (s == t) = _
      by_cases e : s = t
      · subst e; simp
      · rw [decide_eq_false (fun z => e (S_inj (Sum.inr.inj z)))]; simpa using e
theorem ky_of {x : PV} {v : V} (r : Rep K m n H v x) (h : keyOk x = true) : ∃ k, KyR k x ∧ v = kV k := by
  cases x <;> first | (cases h; done) | skip
  case int i => cases r; exact ⟨.inl i, .int i, rfl⟩
  case str s =>
    cases r with
    | str _ q => exact ⟨.inr (S s), .str s q, rfl⟩
theorem dreps_len : ∀ {kvs : List (PV × PV)} {ws : List (Key × V)}, DReps K m n H ws kvs → ws.length = kvs.length
  | [], _, h => by cases h; rfl
  | _ :: _, _, h => by
    cases h with
    | cons a b c => rw [List.length_cons, List.length_cons, dreps_len c]
theorem dreps_val {k : Key} {x : PV} (hk : KyR k x) : ∀ {kvs : List (PV × PV)} {ws : List (Key × V)}, DReps K m n H ws kvs →
    (∃ v y, valV ws k = some v ∧ dfind x kvs = some y ∧ Rep K m n H v y) ∨ (valV ws k = none ∧ dfind x kvs = none)
  | [], _, h => by cases h; exact .inr ⟨rfl, rfl⟩
  | (j, u) :: r, _, h => by
    cases h with
    | cons a b c =>
      rename_i kj v ws
      have e := ky_keq a hk
      by_cases q : kj = k
      · rw [decide_eq_true q] at e
        refine .inl ⟨v, u, valV_pos q, ?_, b⟩
        rw [dfind, if_pos e]
      · rw [decide_eq_false q] at e
        rw [valV_neg (p := (kj, v)) q, dfind, if_neg (by rw [e]; decide)]
        exact dreps_val hk c
theorem dreps_any {k : Key} {x : PV} (hk : KyR k x) : ∀ {kvs : List (PV × PV)} {ws : List (Key × V)}, DReps K m n H ws kvs → (ws.any fun kv => decide (kv.1 = k)) = kvs.any fun p => keq p.1 x
  | [], _, h => by cases h; rfl
  | (j, u) :: r, _, h => by
    cases h with
    | cons a b c => rw [List.any_cons, List.any_cons, dreps_any hk c, ky_keq a hk]
theorem dreps_map {k : Key} {x : PV} {v : V} {y : PV} (hk : KyR k x) (hv : Rep K m n H v y) : ∀ {kvs : List (PV × PV)} {ws : List (Key × V)}, DReps K m n H ws kvs →
    DReps K m n H (ws.map fun kv => if kv.1 = k then (kv.1, v) else kv) (kvs.map fun p => if keq p.1 x then (p.1, y) else p)
  | [], _, h => by cases h; exact .nil
  | (j, u) :: r, _, h => by
    cases h with
    | cons a b c =>
      rename_i kj v0 ws
      have e := ky_keq a hk
      rw [List.map_cons, List.map_cons]
      by_cases q : kj = k
      · rw [decide_eq_true q] at e
        rw [if_pos q, if_pos e]
        exact .cons a hv (dreps_map hk hv c)
      · rw [decide_eq_false q] at e
        rw [if_neg q, if_neg (by rw [e]; decide)]
        exact .cons a b (dreps_map hk hv c)
theorem dreps_app {k : Key} {x : PV} {v : V} {y : PV} (hk : KyR k x) (hv : Rep K m n H v y) : ∀ {kvs : List (PV × PV)} {ws : List (Key × V)}, DReps K m n H ws kvs → DReps K m n H (ws ++ [(k, v)]) (kvs ++ [(x, y)])
  | [], _, h => by cases h; exact .cons hk hv .nil
  | _ :: _, _, h => by
    cases h with
    | cons a b c => exact .cons a b (dreps_app hk hv c)
theorem dreps_put {k : Key} {x : PV} {v : V} {y : PV} (hk : KyR k x) (hv : Rep K m n H v y) {kvs : List (PV × PV)} {ws : List (Key × V)} (h : DReps K m n H ws kvs) : DReps K m n H (putK ws k v) (dstore x y kvs) := by
  unfold putK dstore
  rw [dreps_any hk h]
  by_cases q : (kvs.any fun p => keq p.1 x) = true
  · rw [if_pos q, if_pos q]; exact dreps_map hk hv h
  · rw [if_neg q, if_neg q]; exact dreps_app hk hv h
theorem dicAt_get {st : Sto} {l : Nat} {kvs : List (PV × PV)} (h : st.dicAt l = some kvs) : st.get l = some (.dic kvs) := by
  unfold Sto.dicAt at h
  cases e : st.get l with
  | none => rw [e] at h; cases h
  | some o => rw [e] at h; cases o <;> cases h; rfl
theorem rd_mono {f : Env → M PV} {σ : L2.St} {Q Q' : VK} (h : rd K f σ H Q) (q : ∀ v H', Q v H' → Q' v H') : rd K f σ H Q' := by
  obtain ⟨μ, r, st, E, S1, F⟩ := h
  exact ⟨μ, r, st, E, S1, F.mono q⟩
theorem dchk_of {st s' : Sto} {o : PV} {u : Unit} (e0 : dchkM o st = .ok u s') : ∃ l kvs, o = .loc l ∧ st.get l = some (.dic kvs) ∧ s' = st := by
  cases o <;> first | (cases e0; done) | skip
  rename_i l
  have e0 : (match st.dicAt l with | some _ => R.ok () st | none => .err) = R.ok u s' := e0
  cases e : st.dicAt l with
  | none => rw [e] at e0; cases e0
  | some kvs =>
    rw [e] at e0
    cases e0
    exact ⟨l, kvs, rfl, dicAt_get e, rfl⟩
/-- a dict of the store -/
def dicDo (o : PV) (st : Sto) (f : List (PV × PV) → R PV) : R PV := match o with
  | .loc l => (match st.dicAt l with | some kvs => f kvs | none => .err)
  | _ => .err
theorem dic_of {st : Sto} {o : PV} {x : V} {f : List (PV × PV) → R PV} {Q : VK} (S1 : SRep K m H st) (rp : Rep K m st.nxt H x o)
    (F : FinG K (Rep K) m st H (dicDo o st f) Q) :
    ∃ l kvs ws, o = .loc l ∧ x = .ref (m l) ∧ st.get l = some (.dic kvs) ∧ H (m l) = some (.dK ws) ∧ DReps K m st.nxt H ws kvs ∧ FinG K (Rep K) m st H (f kvs) Q := by
  cases o <;> first | exact F.elim | skip
  case loc l =>
    cases rp
    unfold dicDo at F
    simp only at F
    cases e : st.dicAt l with
    | none => rw [e] at F; exact F.elim
    | some kvs =>
      rw [e] at F
      obtain ⟨_, ws, h1, h2⟩ := S1.ob l _ (dicAt_get e)
      exact ⟨l, kvs, ws, rfl, rfl, dicAt_get e, h1, h2, F⟩
end
section
variable {X : Cx} {a b c : Expr} {f g h : Env → M PV} {pos p apos : Pos}
theorem r_dnew : PE X (.Dict [] [] pos) (rd X.K fun _ => newDic) :=
  PE.conseq pe_dnewK fun σ H Q ⟨m, r, st, E, S1, q⟩ p hp => by
    have rl := Rep.loc (K := X.K) (m := plNew m st.nxt p) (n := (st.new (.dic [])).nxt) (H := upd H p (.dK [])) (l := st.nxt) (Nat.lt_succ_self _)
    rw [plNew_new] at rl
    exact q (.ref p) _ _ (Step.newD S1 hp) (SRep.newD S1 hp) rl
/-- dict([]) -/
theorem r_dl0 (c0 : CxOk X) {p2 : Pos} (hg : Gl X "dict") (hm : X.mg "dict" = none) : PE X (.Call (.Name "dict" p) [.List [] p2] [] pos) (rd X.K fun _ => M.bind (newLst []) fun _ => newDic) := by
  refine PE.conseq (pe_callTy (call_dictP c0.calm) hg hm (by decide +kernel) (pa_cons (pe_lst (pos := p2) pa_nil) pa_nil rfl) (by decide) (by decide) rfl rfl) fun σ H Q ⟨m, r, st, E, S1, q⟩ => ?_
  refine ⟨by rw [sizeLine_eq]; decide, fun p hp => ⟨p, [], [], rfl, SqL.of (upd_same (H := H)), .nil, fun p2 hp2 => ?_⟩⟩
  have S2 : SRep X.K (plNew m st.nxt p) (upd H p (.lst [])) (st.new (.lst [])) := SRep.newL S1 hp .nil
  have rl := Rep.loc (K := X.K) (m := plNew (plNew m st.nxt p) (st.new (.lst [])).nxt p2) (n := ((st.new (.lst [])).new (.dic [])).nxt) (H := upd (upd H p (.lst [])) p2 (.dK [])) (l := (st.new (.lst [])).nxt) (Nat.lt_succ_self _)
  rw [plNew_new] at rl
  have q : ∀ (v : V) (H' : Hp) (m' : Pl), Step m st H m' ((st.new (.lst [])).new (.dic [])) H' → SRep X.K m' H' ((st.new (.lst [])).new (.dic [])) → Rep X.K m' ((st.new (.lst [])).new (.dic [])).nxt H' v (.loc (st.new (.lst [])).nxt) → Q v H' := q
  exact q (.ref p2) _ _ ((Step.newL S1 hp [] []).trans (Step.newD S2 hp2)) (SRep.newD S2 hp2) rl
theorem r_dget (c0 : CxOk X) (ha : PE X a (rd X.K f)) (hb : PE X b (rd X.K g)) (hp : NoSl b) : PE X (.Subscript a b pos) (rd X.K fun r => M.bind (f r) fun x => M.bind (g r) fun y => dgetM x y) := by
  refine PE.conseq (pe_dget (by have := c0.un; omega) ha hb hp) fun σ H Q q => ?_
  refine rd_mono (rd2_of q) fun x H1 q1 => rd_mono q1 fun y H2 q2 => ?_
  obtain ⟨m, st, o, k, S1, ro, rk, F⟩ := q2
  obtain ⟨l, kvs, ws, rfl, rfl, e, h1, h2, F⟩ := dic_of (f := fun kvs => if keyOk k = true then (match dfind k kvs with | some v => .ok v st | none => .err) else .err) S1 ro F
  obtain ⟨hk, F⟩ := ite_fin F
  obtain ⟨ky, k1, rfl⟩ := ky_of rk hk
  rcases dreps_val k1 h2 with ⟨v, z, e1, e2, rv⟩ | ⟨e1, e2⟩
  · rw [e2] at F
    exact ⟨m l, v, rfl, by rw [← e1]; exact DGet.k h1, FinG.done (p := z) F S1 rv⟩
  · rw [e2] at F; exact F.elim
theorem r_dgetd (c0 : CxOk X) (ha : PE X a (rd X.K f)) (hb : PE X b (rd X.K g)) (hc : PE X c (rd X.K h)) (hbase : attributeBase a "get" X.env (eval a X.env) = eval a X.env) (hline : (apos.endLine == pos.line) = true) (n1 : NoStar X b) (n2 : NoStar X c) :
    PE X (.Call (.Attribute a "get" apos) [b, c] [] pos) (rd X.K fun r => M.bind (f r) fun x => M.bind (dchkM x) fun _ => M.bind (g r) fun y => M.bind (h r) fun z => dgetdM x y z) := by
  have hn : ∀ y ∈ [b, c], NoStar X y := fun y hy => by
    rcases List.mem_cons.mp hy with q | q
    · rw [q]; exact n1
    · rw [List.mem_singleton.mp q]; exact n2
  have tr : backTo pos (starEach [b, c] X.env) = [(false, eval b X.env), (false, eval c X.env)] := by rw [n1 [c], n2 []]; rfl
  refine PE.conseq (pe_dget2 (by have := c0.un; omega) ha hb hc ⟨hbase, few_args hn (by show 2 < 30; decide), hline, tr⟩) fun σ H Q q => ?_
  obtain ⟨m, r, st, E, S1, F⟩ := q
  refine ⟨m, r, st, E, S1, FinG.seq (rel := Rep X.K) F fun v H1 m1 st1 o t S2 ro F1 => ?_⟩
  obtain ⟨u, s', e0, F1⟩ := fin_bind F1
  obtain ⟨l, kvs0, rfl, hg, rfl⟩ := dchk_of e0
  obtain ⟨_, ws0, h1, _⟩ := S2.ob l _ hg
  cases ro
  refine ⟨_, rfl, .inl ⟨ws0, .inl h1⟩, m1, r, s', E.step S1 t, S2, FinG.seq (rel := Rep X.K) F1 fun y H2 m2 st2 k t2 S3 rk F2 => ?_⟩
  refine ⟨m2, r, st2, (E.step S1 t).step S2 t2, S3, FinG.seq (rel := Rep X.K) F2 fun z H3 m3 st3 w t3 S4 rz F3 => ?_⟩
  have ro3 := Rep.step S3 t3 _ _ (Rep.step S2 t2 _ _ (Rep.loc (K := X.K) (H := H1) ‹_›))
  obtain ⟨l', kvs, ws, el, ex, e, h2, hr, F3⟩ := dic_of (f := fun kvs => if keyOk k = true then .ok ((dfind k kvs).getD w) st3 else .err) S4 ro3 F3
  cases el
  obtain ⟨hk, F3⟩ := ite_fin F3
  obtain ⟨ky, k1, ek⟩ := ky_of (Rep.step S3 t3 _ _ rk) hk
  injection ex with ex
  rw [ex]
  subst ek
  refine ⟨valV ws ky, DGet.k h2, ?_⟩
  rcases dreps_val k1 hr with ⟨v1, z1, e1, e2, rv⟩ | ⟨e1, e2⟩
  · rw [e2] at F3
    rw [e1]
    exact FinG.done (p := z1) F3 S4 rv
  · rw [e2] at F3
    rw [e1]
    exact FinG.done (p := w) F3 S4 rz
/-- d.get(k) -/
theorem r_dget1 (c0 : CxOk X) (ha : PE X a (rd X.K f)) (hb : PE X b (rd X.K g)) (hbase : attributeBase a "get" X.env (eval a X.env) = eval a X.env) (hline : (apos.endLine == pos.line) = true) (n1 : NoStar X b) :
    PE X (.Call (.Attribute a "get" apos) [b] [] pos) (rd X.K fun r => M.bind (f r) fun x => M.bind (dchkM x) fun _ => M.bind (g r) fun y => dgetdM x y .non) := by
  have hn : ∀ y ∈ [b], NoStar X y := fun y hy => by rw [List.mem_singleton.mp hy]; exact n1
  have tr : backTo pos (starEach [b] X.env) = [(false, eval b X.env)] := by rw [n1 []]; rfl
  refine PE.conseq (pe_dget1 (by have := c0.un; omega) ha hb ⟨hbase, few_args hn (by show 1 < 30; decide), hline, tr⟩) fun σ H Q q => ?_
  obtain ⟨m, r, st, E, S1, F⟩ := q
  refine ⟨m, r, st, E, S1, FinG.seq (rel := Rep X.K) F fun v H1 m1 st1 o t S2 ro F1 => ?_⟩
  obtain ⟨u, s', e0, F1⟩ := fin_bind F1
  obtain ⟨l, kvs0, rfl, hg, rfl⟩ := dchk_of e0
  obtain ⟨_, ws0, h1, _⟩ := S2.ob l _ hg
  cases ro
  refine ⟨_, rfl, .inl ⟨ws0, .inl h1⟩, m1, r, s', E.step S1 t, S2, FinG.seq (rel := Rep X.K) F1 fun y H2 m2 st2 k t2 S3 rk F3 => ?_⟩
  have ro3 := Rep.step S2 t2 _ _ (Rep.loc (K := X.K) (H := H1) ‹_›)
  obtain ⟨l', kvs, ws, el, ex, e, h2, hr, F3⟩ := dic_of (f := fun kvs => if keyOk k = true then R.ok ((dfind k kvs).getD PV.non) st2 else .err) S3 ro3 F3
  cases el
  obtain ⟨hk, F3⟩ := ite_fin F3
  obtain ⟨ky, k1, ek⟩ := ky_of rk hk
  injection ex with ex
  rw [ex]
  subst ek
  refine ⟨valV ws ky, DGet.k h2, ?_⟩
  rcases dreps_val k1 hr with ⟨v1, z1, e1, e2, rv⟩ | ⟨e1, e2⟩
  · rw [e2] at F3
    rw [e1]
    exact FinG.done (p := z1) F3 S3 rv
  · rw [e2] at F3
    rw [e1]
    exact FinG.done (p := PV.non) F3 S3 Rep.non
/-- d.setdefault(k, z) -/
theorem r_dsetd (ha : PE X a (rd X.K f)) (hb : PE X b (rd X.K g)) (hc : PE X c (rd X.K h)) (hbase : attributeBase a "setdefault" X.env (eval a X.env) = eval a X.env) (hline : (apos.endLine == pos.line) = true) (n1 : NoStar X b) (n2 : NoStar X c) :
    PE X (.Call (.Attribute a "setdefault" apos) [b, c] [] pos) (rd X.K fun r => M.bind (f r) fun x => M.bind (dchkM x) fun _ => M.bind (g r) fun y => M.bind (h r) fun z => dsetdM x y z) := by
  have hn : ∀ y ∈ [b, c], NoStar X y := fun y hy => by
    rcases List.mem_cons.mp hy with q | q
    · rw [q]; exact n1
    · rw [List.mem_singleton.mp q]; exact n2
  have tr : backTo pos (starEach [b, c] X.env) = [(false, eval b X.env), (false, eval c X.env)] := by rw [n1 [c], n2 []]; rfl
  refine PE.conseq (pe_dsetd ha hb hc ⟨hbase, few_args hn (by show 2 < 30; decide), hline, tr⟩) fun σ H Q q => ?_
  obtain ⟨m, r, st, E, S1, F⟩ := q
  refine ⟨m, r, st, E, S1, FinG.seq (rel := Rep X.K) F fun v H1 m1 st1 o t S2 ro F1 => ?_⟩
  obtain ⟨u, s', e0, F1⟩ := fin_bind F1
  obtain ⟨l, kvs0, rfl, hg, rfl⟩ := dchk_of e0
  obtain ⟨_, ws0, h1, _⟩ := S2.ob l _ hg
  cases ro
  refine ⟨_, rfl, .inl ⟨ws0, .inl h1⟩, m1, r, s', E.step S1 t, S2, FinG.seq (rel := Rep X.K) F1 fun y H2 m2 st2 k t2 S3 rk F2 => ?_⟩
  refine ⟨m2, r, st2, (E.step S1 t).step S2 t2, S3, FinG.seq (rel := Rep X.K) F2 fun z H3 m3 st3 w t3 S4 rz F3 => ?_⟩
  have ro3 := Rep.step S3 t3 _ _ (Rep.step S2 t2 _ _ (Rep.loc (K := X.K) (H := H1) ‹_›))
  have em : m3 l = m1 l := by
    generalize hv : m1 l = q at ro3
    cases ro3
    rfl
  rw [← em]
  have F3 : FinG X.K (Rep X.K) m3 st3 H3 (match st3.dicAt l with
    | some kvs => if keyOk k = true ∧ kvs.length < 16777216 then (match dfind k kvs with | some v => R.ok v st3 | none => .ok w (st3.set l (.dic (dstore k w kvs)))) else .err
    | none => .err) Q := F3
  cases e : st3.dicAt l with
  | none => rw [e] at F3; exact F3.elim
  | some kvs =>
    rw [e] at F3
    obtain ⟨⟨hk, hl⟩, F3⟩ := ite_fin F3
    obtain ⟨_, ws, h2, hr⟩ := S4.ob l _ (dicAt_get e)
    obtain ⟨ky, k1, ek⟩ := ky_of (Rep.step S3 t3 _ _ rk) hk
    subst ek
    refine ⟨ws, ky, h2, rfl, by rw [dreps_len hr, sizeLine_eq]; exact hl, fun v hv => ?_, fun hn => ?_⟩
    · rcases dreps_val k1 hr with ⟨v1, z1, e1, e2, rv⟩ | ⟨e1, e2⟩
      · rw [e2] at F3
        rw [e1] at hv
        cases hv
        exact FinG.done (p := z1) F3 S4 rv
      · rw [e1] at hv; cases hv
    · rcases dreps_val k1 hr with ⟨v1, z1, e1, e2, rv⟩ | ⟨e1, e2⟩
      · rw [e1] at hn; cases hn
      · rw [e2] at F3
        have t4 := Step.setO (o2 := .dic (dstore k w kvs)) (ho := .dK (putK ws ky z)) S4 (dicAt_get e) rfl
        have S5 : SRep X.K m3 (upd H3 (m3 l) (.dK (putK ws ky z))) (st3.set l (.dic (dstore k w kvs))) := SRep.setO S4 (dicAt_get e) rfl ⟨_, upd_same, DReps.mv (Rep.step S4 t4) (dreps_put k1 rz hr)⟩
        exact F3 z _ m3 t4 S5 (Rep.step S4 t4 _ _ rz)
/-- list(range(n)) -/
theorem reps_rg (K : PySem.W.Frag) (m : Pl) (n : Nat) (H : Hp) : ∀ (k : Nat) (lo : Int), Reps K m n H ((List.range k).map fun i => V.int (lo + (i : Nat))) (upto lo k)
  | 0, _ => .nil
  | k + 1, lo => by
    rw [List.range_succ_eq_map, List.map_cons, List.map_map, upto]
    have e : (List.range k).map ((fun i : Nat => V.int (lo + (i : Nat))) ∘ Nat.succ) = (List.range k).map fun i => V.int (lo + 1 + (i : Nat)) := by
      refine List.map_congr_left fun i _ => ?_
      show V.int (lo + ((i + 1 : Nat) : Int)) = _
      congr 1
      omega
    rw [e]
    have e0 : lo + ((0 : Nat) : Int) = lo := by omega
    rw [e0]
    exact .cons (.int lo) (reps_rg K m n H k (lo + 1))
theorem r_lrng (c0 : CxOk X) {p1 p2 : Pos} (hg : Gl X "list") (hm : X.mg "list" = none) (hg2 : Gl X "range") (hm2 : X.mg "range" = none) (ha : PE X a (rd X.K f)) (hn : NoStar X a) :
    PE X (.Call (.Name "list" p1) [.Call (.Name "range" p2) [a] [] p] [] pos) (rd X.K fun r => M.bind (f r) rngL) := by
  refine PE.conseq (pe_listRg c0.calm hg hm (prg_1 hg2 hm2 ha (hn [])) rfl) fun σ H Q ⟨m, r, st, E, S1, F⟩ => ?_
  refine ⟨m, r, st, E, S1, FinG.seq (rel := Rep X.K) F fun v H1 m1 st1 o t S2 ro F1 => ?_⟩
  cases o <;> first | exact F1.elim | skip
  case int k =>
    cases ro
    have F1 : FinG X.K (Rep X.K) m1 st1 H1 ((if rngOk k = true then newLst (upto 0 k.toNat) else M.err) st1) Q := F1
    by_cases hk : rngOk k = true
    · rw [if_pos hk] at F1
      obtain ⟨hl, F1⟩ := newLst_fin F1
      unfold rngOk at hk
      rw [Bool.and_eq_true, decide_eq_true_eq, decide_eq_true_eq] at hk
      have ul : ∀ (j : Nat) (lo : Int), (upto lo j).length = j := fun j => by
        induction j with
        | zero => intro lo; rfl
        | succ j ih => intro lo; rw [upto, List.length_cons, ih]
      rw [ul] at hl
      have hz : ((k - 0).toNat) = k.toNat := by rw [Int.sub_zero]
      refine ⟨k, rfl, ⟨by decide, by decide, hk.1, hk.2, by rw [hz]; omega⟩, fun q hq => ?_⟩
      have rr := reps_rg X.K m1 st1.nxt H1 k.toNat 0
      unfold rgV
      rw [hz]
      exact F1 _ q S2 rr hq
    · rw [if_neg hk] at F1; exact F1.elim
/-- tuple(range(n)) -/
theorem pe_tupRgD {e : Expr} {te : L2.St → Hp → (Int → Int → Hp → Prop) → Prop} {p1 q1 : Pos} (hc : X.calm = true) (hg : Gl X "tuple") (hm : X.mg "tuple" = none) (he : PRg X e te) (na : starEach [e] X.env = (false, eval e X.env) :: starEach [] X.env := by rfl) :
    PE X (.Call (.Name "tuple" p1) [e] [] q1) (fun σ H Q => te σ H fun a b H1 => RgOk a b ∧ NewT H1 (rgV a b) Q) := by
  refine ⟨fun pins s σ H Q I h => ?_⟩
  refine Call_ (ld_blt I hg hm boot_tuple (PyProof.Rows.callWith_type1 (args_cons (thn (he pins s σ H _ I h) fun x s1 ⟨r, a, b, t, u, v, H1, ex, hr, I1, ok, q⟩ => args_nil ?_) na) na))
  subst ex
  obtain ⟨b1, b2, b3, b4, b5⟩ := ok
  refine call_tuple_range (n := (b - a).toNat) (I1.ok.hd hc) hr (small_one b1 b2 b3 b4) (rangeSize_nat a b) b5 fun h' tk acc hk hi => ?_
  have I2 : L2.Inv X pins σ H1 { s1 with heap := h', toks := tk } := I1.kept hk
  have ea : acc = acc.toList.toArray := (Array.toArray_toList ..).symm
  refine ⟨.ref h'.objs.size, _, laidT (s := { s1 with heap := h', toks := tk }) (its := acc.toList) (t' := tk) I2 (fun c o e => Heap.get?_push_of_some _ e) (Nat.le_refl _) ?_ (vals_rg hi) ?_, rfl, q _ _ (I2.hok.fresh (Nat.le_refl _)) rfl⟩
  · exact Heap.get?_push_size _ rfl
  · rw [rgV_length, sizeLine_eq]; omega
theorem r_trng (c0 : CxOk X) {p1 p2 : Pos} (hg : Gl X "tuple") (hm : X.mg "tuple" = none) (hg2 : Gl X "range") (hm2 : X.mg "range" = none) (ha : PE X a (rd X.K f)) (hn : NoStar X a) :
    PE X (.Call (.Name "tuple" p1) [.Call (.Name "range" p2) [a] [] p] [] pos) (rd X.K fun r => M.bind (f r) rngT) := by
  refine PE.conseq (pe_tupRgD c0.calm hg hm (prg_1 hg2 hm2 ha (hn [])) rfl) fun σ H Q ⟨m, r, st, E, S1, F⟩ => ?_
  refine ⟨m, r, st, E, S1, FinG.seq (rel := Rep X.K) F fun v H1 m1 st1 o t S2 ro F1 => ?_⟩
  cases o <;> first | exact F1.elim | skip
  case int k =>
    cases ro
    have F1 : FinG X.K (Rep X.K) m1 st1 H1 ((if rngOk k = true then mkTup (upto 0 k.toNat) else M.err) st1) Q := F1
    by_cases hk : rngOk k = true
    · rw [if_pos hk] at F1
      obtain ⟨hl, F1⟩ := mkTup_fin (xs := upto 0 k.toNat) F1
      unfold rngOk at hk
      rw [Bool.and_eq_true, decide_eq_true_eq, decide_eq_true_eq] at hk
      have ul : ∀ (j : Nat) (lo : Int), (upto lo j).length = j := fun j => by
        induction j with
        | zero => intro lo; rfl
        | succ j ih => intro lo; rw [upto, List.length_cons, ih]
      rw [ul] at hl
      have hz : ((k - 0).toNat) = k.toNat := by rw [Int.sub_zero]
      refine ⟨k, rfl, ⟨by decide, by decide, hk.1, hk.2, by rw [hz]; omega⟩, ?_⟩
      have rr := reps_rg X.K m1 st1.nxt H1 k.toNat 0
      unfold rgV
      rw [hz]
      exact newTup_fin F1 S2 rr
    · rw [if_neg hk] at F1; exact F1.elim
end
end Dp


set_option Elab.async false
set_option linter.all false
set_option maxRecDepth 100000
set_option maxHeartbeats 4000000
set_option autoImplicit false
/-! DpDit: dicts with tuples as keys: {}, d.get(k, x), {**d, k: v}. -/
namespace Dp
open PySem L2 PySem.Spec PyProof.Rows

/-! ### keys -/
def toLf : Kf → Leaf
  | .non => .none
  | .int i => .num i
def kfV : Kf → V
  | .non => .non
  | .int i => .int i
abbrev dKnd (P : Program) (w : World) : HeapKind P w (List Leaf) := tupleKind (leafKind P w)
theorem toLf_inj : ∀ {a b : Kf}, toLf a = toLf b → a = b
  | .non, .non, _ => rfl
  | .int _, .int _, e => by injection e with e; rw [e]
  | .non, .int _, e => nomatch e
  | .int _, .non, e => nomatch e
theorem toLfs_inj : ∀ {a b : List Kf}, a.map toLf = b.map toLf → a = b
  | [], [], _ => rfl
  | x :: a, y :: b, e => by
    rw [List.map_cons, List.map_cons] at e
    injection e with e1 e2
    rw [toLf_inj e1, toLfs_inj e2]
  | [], _ :: _, e => nomatch e
  | _ :: _, [], e => nomatch e
theorem hash_toLf (P : Program) (w : World) (k : List Kf) : (dKnd P w).hash (k.map toLf) = hashK k := by
  show reduceHash (Builtin.Tuple.tupleHashOf ((k.map toLf).map (leafKind P w).hash)) = reduceHash (Builtin.Tuple.tupleHashOf (k.map hK1))
  rw [List.map_map]
  have : ∀ f ∈ k, ((leafKind P w).hash ∘ toLf) f = hK1 f := fun f _ => by cases f <;> rfl
  rw [List.map_congr_left this]
def toL (x : List Kf × Addr × Value) : List Leaf × Addr × Value := (x.1.map toLf, x.2)
theorem ent_toL (P : Program) (w : World) (x : List Kf × Addr × Value) : entryOfKey (dKnd P w) (toL x) = entK x := by
  show (⟨(dKnd P w).hash (x.1.map toLf), .ref x.2.1, x.2.2⟩ : DictEntry) = _
  rw [hash_toLf]; rfl
theorem nodup_toL {xs : List (List Kf × Addr × Value)} : ((xs.map toL).map (·.1)).Nodup ↔ (xs.map (·.1)).Nodup := by
  have e : (xs.map toL).map (·.1) = (xs.map (·.1)).map (fun k : List Kf => k.map toLf) := by rw [List.map_map, List.map_map]; rfl
  rw [e]
  unfold List.Nodup
  rw [List.pairwise_map]
  constructor
  · intro h
    exact h.imp fun q z => q (by rw [z])
  · intro h
    exact h.imp fun q z => q (toLfs_inj z)
section
variable {K : PySem.W.Frag} {m : Pl} {n : Nat} {H : Hp}
theorem rep_kf {f : Kf} {v : V} (h : Rep K m n H v (kfPV f)) : v = kfV f := by
  cases f with
  | non => cases h; rfl
  | int i => cases h; rfl
theorem reps_kf : ∀ {k : List Kf} {vs : List V}, Reps K m n H vs (k.map kfPV) → vs = k.map kfV
  | [], _, h => by cases h; rfl
  | f :: k, _, h => by
    cases h with
    | cons a b => rw [rep_kf a, reps_kf b]; rfl
theorem rep_key {k : List Kf} {q : Addr} (h : Rep K m n H (.ref q) (kPV k)) : SqD K H q (k.map kfV) := by
  cases h with
  | tup h1 h2 => rw [reps_kf h2] at h1; exact h1
theorem kfs_of : ∀ {xs : List PV} {k : List Kf}, kfs xs = some k → xs = k.map kfPV
  | [], _, e => by cases e; rfl
  | x :: r, _, e => by
    unfold kfs at e
    cases e1 : kf1 x with
    | none => rw [e1] at e; cases e
    | some a =>
      cases e2 : kfs r with
      | none => rw [e1, e2] at e; cases e
      | some b =>
        rw [e1, e2] at e
        cases e
        rw [kfs_of e2, List.map_cons]
        congr 1
        cases x <;> first | (cases e1; done) | (cases e1; rfl)
theorem keyT_of {x : PV} {k : List Kf} (e : keyT x = some k) : x = kPV k := by
  cases x <;> first | (cases e; done) | skip
  case tup xs => rw [kfs_of (show kfs xs = some k from e)]; rfl
theorem key_of_rep {x : PV} {k : List Kf} {v : V} (e : keyT x = some k) (r : Rep K m n H v x) : ∃ q, v = .ref q ∧ SqD K H q (k.map kfV) ∧ Rep K m n H (.ref q) (kPV k) := by
  rw [keyT_of e] at r
  cases r with
  | tup h1 h2 => exact ⟨_, rfl, by rw [reps_kf h2] at h1; exact h1, .tup h1 h2⟩
theorem treps_keys : ∀ {kvs : List (List Kf × PV)} {xs : List (List Kf × Addr × Value)}, TReps K m n H xs kvs → ∀ x ∈ xs, SqD K H x.2.1 (x.1.map kfV)
  | [], _, h, x, hx => by cases h; cases hx
  | p :: kvs, _, h, x, hx => by
    cases h with
    | cons a b c d =>
      rcases List.mem_cons.mp hx with rfl | z
      · exact rep_key a
      · exact treps_keys d x z
theorem treps_map : ∀ {kvs : List (List Kf × PV)} {xs : List (List Kf × Addr × Value)}, TReps K m n H xs kvs → xs.map (·.1) = kvs.map (·.1)
  | [], _, h => by cases h; rfl
  | p :: kvs, _, h => by
    cases h with
    | cons a b c d => rw [List.map_cons, List.map_cons, treps_map d]
end
section
variable {X : Cx} {pins : List (Addr × Obj)} {σ : L2.St} {H : Hp} {s : Shared} {a q : Addr}
theorem items_kf : ∀ {k : List Kf} {its : List Value}, Vals (k.map kfV) its → ItemsAre (leafKind X.prog X.w) (k.map toLf) its
  | [], _, h => by cases h; exact .nil
  | f :: k, _, h => by
    cases h with
    | cons h1 h2 =>
      refine .cons ?_ (items_kf h2)
      cases f with
      | non =>
        cases (show _ = Value.none from h1)
        rfl
      | int i =>
        obtain ⟨t, rfl⟩ := (show ∃ t, _ = Value.int i t from h1)
        exact decide_eq_true rfl
theorem key_at (I : L2.Inv X pins σ H s) {k : List Kf} (h : SqD X.K H q (k.map kfV)) : (dKnd X.prog X.w).is s.heap (k.map toLf) q := by
  obtain ⟨o, its, n, ho, hc, _, hd, hv, _⟩ := tup_obj I h
  refine ⟨o, its.toArray, n, ho, hc, hd, ?_⟩
  exact items_kf (by simpa using hv)
theorem dit_at (I : L2.Inv X pins σ H s) {xs : List (List Kf × Addr × Value)} (h : H a = some (.ext (DitAt a xs))) (hk : ∀ x ∈ xs, SqD X.K H x.2.1 (x.1.map kfV)) :
    (a == sysModules) = false ∧ xs.length ≤ sizeLine ∧ (xs.map (·.1)).Nodup ∧ s.heap.DictOfH (dKnd X.prog X.w) a (xs.map toL) := by
  obtain ⟨⟨hs, hl, hn, o, es, ep, ho, hc, hd, he⟩, _⟩ := (show ObjOk X.prog X.w H s.heap a (.ext (DitAt a xs)) from I.hok a _ h)
  refine ⟨hs, hl, hn, o, es, ep, ho, hc, hd, ?_, fun x hx => ?_, nodup_toL.mpr hn⟩
  · rw [he, List.map_map]
    exact List.map_congr_left fun x _ => (ent_toL X.prog X.w x).symm
  · obtain ⟨y, hy, rfl⟩ := List.mem_map.mp hx
    exact key_at I (hk y hy)
theorem at_dit {P : Program} {w : World} {h : Heap} {xs : List (List Kf × Addr × Value)} (hs : (a == sysModules) = false) (hl : xs.length ≤ sizeLine) (hd : h.DictOfH (dKnd P w) a (xs.map toL)) : DitAt a xs h := by
  obtain ⟨o, es, ep, ho, hc, hd, he, _, hn⟩ := hd
  refine ⟨hs, hl, nodup_toL.mp hn, o, es, ep, ho, hc, hd, ?_⟩
  rw [he, List.map_map]
  exact List.map_congr_left fun x _ => ent_toL P w x
theorem ext_ok {P : Program} {w : World} {h : Heap} {H : Hp} {xs : List (List Kf × Addr × Value)} (hd : DitAt a xs h) : ObjOk P w H h a (.ext (DitAt a xs)) := by
  obtain ⟨x1, x2, x3, o, es, ep, ho, r⟩ := id hd
  refine ⟨hd, ⟨o, ho⟩, fun h1 h2 z k => ?_⟩
  obtain ⟨y1, y2, y3, o, es, ep, ho, r⟩ := z
  exact ⟨y1, y2, y3, o, es, ep, k o ho, r⟩
/-- what stands at a key -/
def atK (xs : List (List Kf × Addr × Value)) (k : List Kf) : Option (Addr × Value) := (xs.find? fun x => decide (x.1 = k)).map (·.2)
theorem atK_toL (xs : List (List Kf × Addr × Value)) (k : List Kf) : atKey (xs.map toL) (k.map toLf) = atK xs k := by
  unfold atKey atK
  induction xs with
  | nil => rfl
  | cons x xs ih =>
    rw [List.map_cons, List.find?_cons, List.find?_cons]
    by_cases h : x.1 = k
    · have h2 : (toL x).1 = k.map toLf := by show x.1.map toLf = _; rw [h]
      rw [decide_eq_true h, decide_eq_true h2]
      rfl
    · have h2 : ¬ (toL x).1 = k.map toLf := fun z => h (toLfs_inj z)
      rw [decide_eq_false h, decide_eq_false h2]
      exact ih
def storeK (xs : List (List Kf × Addr × Value)) (k : List Kf) (b : Addr) (v : Value) : List (List Kf × Addr × Value) :=
  if (atK xs k).isSome then xs.map (fun x => if x.1 = k then (x.1, x.2.1, v) else x) else xs ++ [(k, b, v)]
theorem storeK_toL (xs : List (List Kf × Addr × Value)) (k : List Kf) (b : Addr) (v : Value) : (storeK xs k b v).map toL = storedH (xs.map toL) (k.map toLf) b v := by
  unfold storeK
  have e := atK_toL xs k
  cases h : atK xs k with
  | none =>
    rw [h] at e
    rw [storedH_new e]
    simp [toL]
  | some p =>
    rw [h] at e
    rw [storedH_old e]
    simp only [Option.isSome_some, if_true]
    rw [List.map_map, List.map_map]
    refine List.map_congr_left fun x _ => ?_
    unfold putAt
    by_cases h : x.1 = k
    · have h2 : (toL x).1 = k.map toLf := by show x.1.map toLf = _; rw [h]
      simp only [Function.comp_apply, if_pos h, if_pos h2]
      rfl
    · have h2 : ¬ (toL x).1 = k.map toLf := fun z => h (toLfs_inj z)
      simp only [Function.comp_apply, if_neg h, if_neg h2]
end
section
variable {K : PySem.W.Frag} {m : Pl} {n : Nat} {H : Hp}
theorem treps_find (k : List Kf) : ∀ {kvs : List (List Kf × PV)} {xs : List (List Kf × Addr × Value)}, TReps K m n H xs kvs →
    (∃ q u v y, atK xs k = some (q, u) ∧ tfind k kvs = some y ∧ RelV v u ∧ Rep K m n H v y) ∨ (atK xs k = none ∧ tfind k kvs = none)
  | [], _, h => by cases h; exact .inr ⟨rfl, rfl⟩
  | (j, y) :: r, _, h => by
    cases h with
    | cons a b c d =>
      rename_i q u v xs
      unfold atK
      rw [List.find?_cons, tfind]
      by_cases e : j = k
      · rw [decide_eq_true (show (j, q, u).1 = k from e), if_pos e]
        exact .inl ⟨q, u, v, y, rfl, rfl, b, c⟩
      · rw [decide_eq_false (show ¬ (j, q, u).1 = k from e), if_neg e]
        exact treps_find k d
theorem treps_any (k : List Kf) : ∀ {kvs : List (List Kf × PV)} {xs : List (List Kf × Addr × Value)}, TReps K m n H xs kvs → (atK xs k).isSome = kvs.any fun p => decide (p.1 = k)
  | [], _, h => by cases h; rfl
  | (j, y) :: r, _, h => by
    cases h with
    | cons a b c d =>
      rename_i q u v xs
      unfold atK
      rw [List.find?_cons, List.any_cons]
      by_cases e : j = k
      · rw [decide_eq_true (show (j, q, u).1 = k from e)]
        rfl
      · rw [decide_eq_false (show ¬ (j, q, u).1 = k from e), Bool.false_or]
        exact treps_any k d
theorem treps_put {k : List Kf} {v : V} {u : Value} {y : PV} (hr : RelV v u) (hv : Rep K m n H v y) : ∀ {kvs : List (List Kf × PV)} {xs : List (List Kf × Addr × Value)}, TReps K m n H xs kvs →
    TReps K m n H (xs.map fun x => if x.1 = k then (x.1, x.2.1, u) else x) (kvs.map fun p => if p.1 = k then (p.1, y) else p)
  | [], _, h => by cases h; exact .nil
  | (j, z) :: r, _, h => by
    cases h with
    | cons a b c d =>
      rename_i q u' v' xs
      rw [List.map_cons, List.map_cons]
      by_cases e : j = k
      · rw [if_pos (show (j, q, u').1 = k from e), if_pos (show (j, z).1 = k from e)]
        exact .cons a hr hv (treps_put hr hv d)
      · rw [if_neg (show ¬ (j, q, u').1 = k from e), if_neg (show ¬ (j, z).1 = k from e)]
        exact .cons a b c (treps_put hr hv d)
theorem treps_snoc {k : List Kf} {b : Addr} {v : V} {u : Value} {y : PV} (hk : Rep K m n H (.ref b) (kPV k)) (hr : RelV v u) (hv : Rep K m n H v y) : ∀ {kvs : List (List Kf × PV)} {xs : List (List Kf × Addr × Value)}, TReps K m n H xs kvs →
    TReps K m n H (xs ++ [(k, b, u)]) (kvs ++ [(k, y)])
  | [], _, h => by cases h; exact .cons hk hr hv .nil
  | _ :: _, _, h => by
    cases h with
    | cons a b c d => exact .cons a b c (treps_snoc hk hr hv d)
theorem treps_store {k : List Kf} {b : Addr} {v : V} {u : Value} {y : PV} (hk : Rep K m n H (.ref b) (kPV k)) (hr : RelV v u) (hv : Rep K m n H v y) {kvs : List (List Kf × PV)} {xs : List (List Kf × Addr × Value)} (h : TReps K m n H xs kvs) :
    TReps K m n H (storeK xs k b u) (tstore k y kvs) := by
  unfold storeK tstore
  rw [treps_any k h]
  by_cases q : (kvs.any fun p => decide (p.1 = k)) = true
  · rw [if_pos q, if_pos q]; exact treps_put hr hv h
  · rw [if_neg q, if_neg q]; exact treps_snoc hk hr hv h
theorem treps_len {kvs : List (List Kf × PV)} {xs : List (List Kf × Addr × Value)} (h : TReps K m n H xs kvs) : xs.length = kvs.length := by
  have := congrArg List.length (treps_map h)
  rwa [List.length_map, List.length_map] at this
theorem treps_hash {kvs : List (List Kf × PV)} {xs : List (List Kf × Addr × Value)} (h : TReps K m n H xs kvs) (ok : hokT kvs = true) (P : Program) (w : World) : ((xs.map toL).map fun x => (dKnd P w).hash x.1).Nodup := by
  have e : ((xs.map toL).map fun x => (dKnd P w).hash x.1) = (kvs.map fun p => hashK p.1) := by
    have e1 : ((xs.map toL).map fun x => (dKnd P w).hash x.1) = (xs.map (·.1)).map hashK := by
      rw [List.map_map, List.map_map]
      exact List.map_congr_left fun x _ => hash_toLf P w x.1
    rw [e1, treps_map h, List.map_map]
    rfl
  rw [e]
  exact of_decide_eq_true ok
end
/-! ### what nobody owns may change -/
section
variable {K : PySem.W.Frag} {m m1 : Pl} {st st1 : Sto} {H H1 : Hp} {D : Addr} {φ ψ : Heap → Prop}
theorem stp_ext {n : Nat} (hD : H D = some (.ext φ)) {w : HO} : Stp m n H m n (upd H D w) :=
  ⟨Nat.le_refl _, fun _ _ => rfl, fun a o u h => by rw [upd_ne (fun z => by rw [z, hD] at h; cases h)]; exact h⟩
theorem SRep.overX (s : SRep K m H st) (hD : H D = some (.ext φ)) (ho : ¬ Own m st D) : SRep K m (upd H D (.ext ψ)) st := by
  refine ⟨fun l o e => ?_, s.inj⟩
  obtain ⟨h1, h2⟩ := s.ob l o e
  refine ⟨h1, h2.mv rfl (fun h e3 hf => ?_) (fun p v r => Rep.stp (stp_ext hD) p v r)⟩
  have ne : m l ≠ D := fun z => by
    by_cases hu : o.mut = true
    · exact ho ⟨l, o, e, hu, z⟩
    · unfold fits at hf
      rw [if_neg hu] at hf
      obtain ⟨ob, v, rfl⟩ := hf
      rw [z, hD] at e3
      cases e3
  rw [upd_ne ne]
  exact e3
theorem Step.overX (t : Step m st H m1 st1 H1) (h0 : H D = none) : Step m st H m1 st1 (upd H1 D (.ext ψ)) :=
  ⟨t.nx, t.mu, fun a o h n => by rw [upd_ne (fun z => by rw [z, h0] at h; cases h)]; exact t.fr a o h n, t.ow⟩
theorem Step.keepX (t : Step m st H m1 st1 H1) (hD : H D = some (.ext φ)) (ho : ¬ Own m st D) : H1 D = some (.ext φ) ∧ ¬ Own m1 st1 D :=
  ⟨t.fr D _ hD ho, fun z => by
    rcases t.ow D z with q | q
    · exact ho q
    · rw [hD] at q; cases q⟩
theorem SRep.adoptX {kvs : List (List Kf × PV)} {xs : List (List Kf × Addr × Value)} (s : SRep K m H st) (hD : H D = some (.ext (DitAt D xs))) (ho : ¬ Own m st D) (r : TReps K m st.nxt H xs kvs) : SRep K (plNew m st.nxt D) H (st.new (.dit kvs)) := by
  have lift : ∀ (p : PV) (v : V), Rep K m st.nxt H v p → Rep K (plNew m st.nxt D) (st.new (.dit kvs)).nxt H v p :=
    Rep.lift (fun l hl => plNew_old hl) (Nat.le_succ _)
  refine ⟨fun l u e => ?_, fun l k ys zs e1 e2 m1 m2 q => ?_⟩
  · rcases get_newE e with ⟨rfl, rfl⟩ | ⟨n1, e⟩
    · exact ⟨Nat.lt_succ_self _, xs, by rw [plNew_new]; exact hD, r.mv lift⟩
    · obtain ⟨h1, h2⟩ := s.ob l u e
      exact ⟨Nat.lt_succ_of_lt h1, h2.mv (plNew_old h1) (fun _ e _ => e) lift⟩
  · rcases get_newE e1 with ⟨rfl, _⟩ | ⟨n1, e1⟩
    · rcases get_newE e2 with ⟨rfl, _⟩ | ⟨n2, e2⟩
      · rfl
      · rw [plNew_new, plNew_old (s.ob k _ e2).1] at q
        exact absurd ⟨k, _, e2, m2, q.symm⟩ ho
    · rcases get_newE e2 with ⟨rfl, _⟩ | ⟨n2, e2⟩
      · rw [plNew_new, plNew_old (s.ob l _ e1).1] at q
        exact absurd ⟨l, _, e1, m1, q⟩ ho
      · rw [plNew_old (s.ob l _ e1).1, plNew_old (s.ob k _ e2).1] at q
        exact s.inj l k _ _ e1 e2 m1 m2 q
theorem Step.adoptX {o : PO} (t : Step m st H m1 st1 H1) (s : SRep K m1 H1 st1) (h0 : H D = none) : Step m st H (plNew m1 st1.nxt D) (st1.new o) H1 := by
  refine ⟨Nat.le_succ_of_le t.nx, fun l hl => (plNew_old (Nat.lt_of_lt_of_le hl t.nx)).trans (t.mu l hl), t.fr, fun a h => ?_⟩
  obtain ⟨l, ys, e, hm, rfl⟩ := h
  rcases get_newE e with ⟨rfl, _⟩ | ⟨n1, e⟩
  · rw [plNew_new]; exact .inr h0
  · have hl := (s.ob l _ e).1
    rw [plNew_old hl]
    exact t.ow _ ⟨l, ys, e, hm, rfl⟩
/-- of what was not there at the start nothing is asked -/
theorem Step.base (t : Step m st (upd H D (.ext φ)) m1 st1 H1) (h0 : H D = none) : Step m st H m1 st1 H1 := by
  refine ⟨t.nx, t.mu, fun a o h n => t.fr a o (by rw [upd_ne (fun z => by rw [z, h0] at h; cases h)]; exact h) n, fun a h => ?_⟩
  rcases t.ow a h with q | q
  · exact .inl q
  · by_cases e : a = D
    · rw [e]; exact .inr h0
    · rw [upd_ne e] at q; exact .inr q
end
/-! ### rules -/
section
variable {X : Cx} {a b c : Expr} {f g h : Env → M PV} {pos p apos : Pos}
theorem dit_new (P : Program) (w : World) {h : Heap} (hb : sysModules < h.objs.size) : DitAt h.objs.size [] (h.push ({ cls := .type "dict", data := .dict #[] } : Obj)) := by
  obtain ⟨o, es, ep, ho, hc, hd, he, _⟩ := Heap.DictOfH.new (knd := dKnd P w) h
  exact ⟨beq_eq_false_iff_ne.mpr (Nat.ne_of_gt hb), Nat.zero_le _, List.nodup_nil, o, es, ep, ho, hc, hd, by simpa using he⟩
theorem pe_tnew : PE X (.Dict [] [] pos) (fun _ H Q => ∀ p, H p = none → Q (.ref p) (upd H p (.ext (DitAt p [])))) := ⟨fun pins s σ H Q I h =>
  wpAny_Dict_empty ⟨.ref s.heap.objs.size, _, I.laid (a := s.heap.objs.size) (o := .ext (DitAt s.heap.objs.size [])) (t' := s.toks) (fun _ _ q => Heap.get?_push_of_some _ q) (Nat.le_refl _) (ext_ok (dit_new X.prog X.w I.big)), rfl, h _ (I.hok.fresh (Nat.le_refl _))⟩⟩
theorem r_tnew : PE X (.Dict [] [] pos) (rd X.K fun _ => tnew) :=
  PE.conseq pe_tnew fun σ H Q ⟨m, r, st, E, S1, q⟩ p hp => by
    have rl := Rep.loc (K := X.K) (m := plNew m st.nxt p) (n := (st.new (.dit [])).nxt) (H := upd H p (.ext (DitAt p []))) (l := st.nxt) (Nat.lt_succ_self _)
    rw [plNew_new] at rl
    exact q (.ref p) _ _ (Step.newO S1 hp _ _) (SRep.newO S1 hp ⟨[], upd_same, .nil⟩) rl
theorem pe_tget {td ty tx : TE} (hu : X.A.units + 1 < cLine) (ho : PE X a td) (he : PE X b ty) (hf : PE X c tx) (mm : M2 X a "get" apos b c pos) :
    PE X (.Call (.Attribute a "get" apos) [b, c] [] pos) (fun σ H Q => td σ H fun x H1 => ∃ d xs1, x = .ref d ∧ H1 d = some (.ext (DitAt d xs1)) ∧ (∀ x ∈ xs1, SqD X.K H1 x.2.1 (x.1.map kfV)) ∧ ty σ H1 fun y H2 => tx σ H2 fun z H3 =>
      ∃ q k xs, y = .ref q ∧ SqD X.K H3 q (k.map kfV) ∧ H3 d = some (.ext (DitAt d xs)) ∧ (∀ x ∈ xs, SqD X.K H3 x.2.1 (x.1.map kfV)) ∧ (∀ q' u, atK xs k = some (q', u) → ∃ v, RelV v u ∧ Q v H3) ∧ (atK xs k = none → Q z H3)) := by
  refine ⟨fun pins s σ H Q I h => ?_⟩
  refine wpAny_Call_method mm.base mm.few mm.line PySem.F.plainAttrs_dict PySem.F.slot_dict_get PySem.F.type_dict_get (thn (ho.run pins s σ H _ I h) fun u s1 ⟨x, H1, I1, rx, d, xs1, ex, hd, hk, q1⟩ => ?_)
  subst ex
  obtain rfl : u = Value.ref d := rx
  obtain ⟨_, _, _, dd⟩ := dit_at I1 hd hk
  refine ⟨dd.typeIs, fun b e => ?_, ?_⟩
  · cases e
    obtain ⟨ob, _, _, h1, h2, _⟩ := dd
    exact ⟨ob, h1, h2.2.1⟩
  rw [mm.trees]
  refine Calls.callWith_builtin rfl (Calls.evalArgs_plain (Calls.spliced_cons (thn (he.run pins s1 σ H1 _ I1 q1) fun iv s2 ⟨y, H2, I2, ry, q2⟩ =>
    Calls.spliced_cons (thn (hf.run pins s2 σ H2 _ I2 q2) fun fv s3 ⟨z, H3, I3, rz, q, k, xs, ey, hq, hd3, hk3, qs, qn⟩ => Calls.spliced_nil ?_))))
  subst ey
  obtain rfl : iv = Value.ref q := ry
  obtain ⟨hs, _, _, d3⟩ := dit_at I3 hd3 hk3
  refine call_meetsIn PySem.F.slot_dict_get d3.typeIs PySem.F.entry_dict_get (PySem.F.args_dict_get_3 _ _ _) (meetsH_dict_get_default (dKnd X.prog X.w) d q hs fv) ⟨tupleKind_room_in1 hu, k.map toLf, xs.map toL, key_at I3 hq, d3, ?_⟩
  rw [atK_toL]
  cases e : atK xs k with
  | none => exact ⟨z, H3, I3.tok _, rz, qn e⟩
  | some p =>
    obtain ⟨v, r, g⟩ := qs p.1 p.2 e
    exact ⟨v, H3, I3.tok _, r, g⟩
theorem tkvs_of {st s' : Sto} {o : PV} {kvs : List (List Kf × PV)} (e : tkvs o st = .ok kvs s') : ∃ l, o = .loc l ∧ st.get l = some (.dit kvs) ∧ s' = st := by
  cases o <;> first | (cases e; done) | skip
  rename_i l
  have e : (match st.get l with | some (.dit kvs) => R.ok kvs st | _ => .err) = .ok kvs s' := e
  cases e1 : st.get l with
  | none => rw [e1] at e; cases e
  | some u =>
    rw [e1] at e
    cases u <;> first | (cases e; done) | skip
    cases e
    exact ⟨l, rfl, e1, rfl⟩
theorem tchk_of {st s' : Sto} {o : PV} {u : Unit} (e : tchk o st = .ok u s') : ∃ l kvs, o = .loc l ∧ st.get l = some (.dit kvs) ∧ s' = st := by
  unfold tchk M.bind at e
  cases e1 : tkvs o st with
  | err => rw [e1] at e; cases e
  | ok kvs s1 =>
    rw [e1] at e
    obtain ⟨l, h1, h2, rfl⟩ := tkvs_of e1
    cases e
    exact ⟨l, kvs, h1, h2, rfl⟩
theorem r_tgetd (c0 : CxOk X) (ha : PE X a (rd X.K f)) (hb : PE X b (rd X.K g)) (hc : PE X c (rd X.K h)) (hbase : attributeBase a "get" X.env (eval a X.env) = eval a X.env) (hline : (apos.endLine == pos.line) = true) (n1 : NoStar X b) (n2 : NoStar X c) :
    PE X (.Call (.Attribute a "get" apos) [b, c] [] pos) (rd X.K fun r => M.bind (f r) fun x => M.bind (tchk x) fun _ => M.bind (g r) fun y => M.bind (h r) fun z => tgetdM x y z) := by
  have hn : ∀ y ∈ [b, c], NoStar X y := fun y hy => by
    rcases List.mem_cons.mp hy with q | q
    · rw [q]; exact n1
    · rw [List.mem_singleton.mp q]; exact n2
  have tr : backTo pos (starEach [b, c] X.env) = [(false, eval b X.env), (false, eval c X.env)] := by rw [n1 [c], n2 []]; rfl
  refine PE.conseq (pe_tget (by have := c0.un; omega) ha hb hc ⟨hbase, few_args hn (by show 2 < 30; decide), hline, tr⟩) fun σ H Q q => ?_
  obtain ⟨m, r, st, E, S1, F⟩ := q
  refine ⟨m, r, st, E, S1, FinG.seq (rel := Rep X.K) F fun v H1 m1 st1 o t S2 ro F1 => ?_⟩
  obtain ⟨u, s', e0, F1⟩ := fin_bind F1
  obtain ⟨l, kvs0, rfl, hg, rfl⟩ := tchk_of e0
  obtain ⟨_, xs0, h1, tr0⟩ := S2.ob l _ hg
  cases ro
  refine ⟨_, xs0, rfl, h1, treps_keys tr0, m1, r, s', E.step S1 t, S2, FinG.seq (rel := Rep X.K) F1 fun y H2 m2 st2 k t2 S3 rk F2 => ?_⟩
  refine ⟨m2, r, st2, (E.step S1 t).step S2 t2, S3, FinG.seq (rel := Rep X.K) F2 fun z H3 m3 st3 w t3 S4 rz F3 => ?_⟩
  have ro3 := Rep.step S3 t3 _ _ (Rep.step S2 t2 _ _ (Rep.loc (K := X.K) (H := H1) ‹_›))
  have rk3 := Rep.step S3 t3 _ _ rk
  obtain ⟨kvs, s4, e4, F3⟩ := fin_bind F3
  obtain ⟨l', el, hg3, rfl⟩ := tkvs_of e4
  cases el
  generalize hloc : V.ref (m1 l) = vloc at ro3
  cases ro3
  injection hloc with hloc
  obtain ⟨_, xs, hx, tr3⟩ := S4.ob l _ hg3
  rw [← hloc] at hx
  cases ek : keyT k with
  | none => rw [ek] at F3; exact F3.elim
  | some kk =>
    rw [ek] at F3
    have F3 : FinG X.K (Rep X.K) m3 s4 H3 (.ok ((tfind kk kvs).getD w) s4) Q := F3
    obtain ⟨b', rfl, hq, hq2⟩ := key_of_rep ek rk3
    have hx' : H3 (m1 l) = some (.ext (DitAt (m1 l) xs)) := hx
    refine ⟨b', kk, xs, rfl, hq, hx', treps_keys tr3, fun q' u' e => ?_, fun e => ?_⟩
    · rcases treps_find kk tr3 with ⟨q2, u2, v2, y2, a1, a2, a3, a4⟩ | ⟨a1, a2⟩
      · rw [e] at a1
        cases a1
        rw [a2] at F3
        exact ⟨v2, a3, FinG.done (p := y2) F3 S4 a4⟩
      · rw [e] at a1; cases a1
    · rcases treps_find kk tr3 with ⟨q2, u2, v2, y2, a1, a2, a3, a4⟩ | ⟨a1, a2⟩
      · rw [e] at a1; cases a1
      · rw [a2] at F3
        exact FinG.done (p := w) F3 S4 rz
theorem pe_tspread {ta tk tv : TE} (hu : X.A.units < cLine) (ha : PE X a ta) (hb : PE X b tk) (hc : PE X c tv) :
    PE X (.Dict [none, some b] [a, c] pos) (fun σ H Q => ∀ d, H d = none → ta σ (upd H d (.ext (DitAt d []))) fun x H1 => ∃ o xs, x = .ref o ∧ d ≠ o ∧ H1 d = some (.ext (DitAt d [])) ∧ H1 o = some (.ext (DitAt o xs)) ∧ (∀ x ∈ xs, SqD X.K H1 x.2.1 (x.1.map kfV)) ∧
      ((xs.map toL).map fun x => (dKnd X.prog X.w).hash x.1).Nodup ∧ xs.length + 1 ≤ sizeLine ∧ ∀ d2, upd H1 d (.ext (DitAt d xs)) d2 = none → tk σ (upd (upd H1 d (.ext (DitAt d xs))) d2 (.ext (DitAt d2 []))) fun y H2 => tv σ H2 fun z H3 =>
        ∃ q k, y = .ref q ∧ SqD X.K H3 q (k.map kfV) ∧ H3 d = some (.ext (DitAt d xs)) ∧ H3 d2 = some (.ext (DitAt d2 [])) ∧ (∀ x ∈ xs, SqD X.K H3 x.2.1 (x.1.map kfV)) ∧ d ≠ d2 ∧
          ∀ u, RelV z u → Q (.ref d) (upd (upd H3 d2 (.ext (DitAt d2 [(k, q, u)]))) d (.ext (DitAt d (storeK xs k q u))))) := by
  refine ⟨fun pins s σ H Q I h => ?_⟩
  rw [arm_eval_Dict]
  refine wpAny_bind (wpAny_standAt ?_)
  show wpAny _ _ (dictDisplay [(none, do let x ← eval a X.env; standAt pos; pure x), (some (eval b X.env), do let x ← eval c X.env; standAt pos; pure x)]) _ _ _
  have hd := I.hok.fresh (Nat.le_refl s.heap.objs.size)
  have hq := h _ hd
  have I0 : L2.Inv X pins σ (upd H s.heap.objs.size (.ext (DitAt s.heap.objs.size []))) { s with heap := s.heap.push ({ cls := .type "dict", data := .dict #[] } : Obj), toks := s.toks } :=
    I.laid (t' := s.toks) (fun _ _ q => Heap.get?_push_of_some _ q) (Nat.le_refl _) (ext_ok (dit_new X.prog X.w I.big))
  generalize hde : s.heap.objs.size = d at hd hq I0
  refine wpAny_spread (knd := dKnd X.prog X.w) hu ?_
  rw [hde]
  refine wpAny_bind (thn (ha.run pins _ σ _ _ I0 hq) fun m s1 ⟨x, H1, I1, rx, o, xs, ex, hdo, h1d, h1o, hk, hh, hsz, q1⟩ => ?_)
  refine wpAny_bind (wpAny_standAt (wpAny_pure ?_))
  subst ex
  obtain rfl : m = Value.ref o := rx
  obtain ⟨sd, _, _, dd⟩ := dit_at I1 h1d (xs := []) (fun x hx => nomatch hx)
  obtain ⟨so, lo, no, dO⟩ := dit_at I1 h1o hk
  refine ⟨o, xs.map toL, rfl, hdo, so, dd, dO, ⟨fun x hx => ?_, hh⟩, by rw [List.length_map]; exact hsz, fun h2 hd2 hs2 => ?_⟩
  · obtain ⟨y, hy, rfl⟩ := List.mem_map.mp hx
    exact IsTupleKey.typeIs (key_at I1 (hk y hy))
  have I2 : L2.Inv X pins σ (upd H1 d (.ext (DitAt d xs))) { s1 with heap := h2, toks := s1.toks } :=
    I1.write (x := d) (e := d) (t' := s1.toks) (by rw [h1d]; trivial) (.inl rfl) (fun c u hc e => (hs2.2 c hc).trans e) (by obtain ⟨ob, _, _, h1, _⟩ := hd2; exact ⟨ob, h1⟩) (ext_ok (at_dit sd lo hd2))
  have hn2 := I2.hok.fresh (Nat.le_refl h2.objs.size)
  have I3 : L2.Inv X pins σ (upd (upd H1 d (.ext (DitAt d xs))) h2.objs.size (.ext (DitAt h2.objs.size []))) { s1 with heap := h2.push ({ cls := .type "dict", data := .dict #[] } : Obj), toks := s1.toks } :=
    I2.laid (t' := s1.toks) (fun _ _ q => Heap.get?_push_of_some _ q) (Nat.le_refl _) (ext_ok (dit_new X.prog X.w I2.big))
  have q2 := q1 _ hn2
  show wpAny _ _ (do let kv ← eval b X.env; let vv ← holding [kv] (do let x ← eval c X.env; standAt pos; pure x); return (kv, vv) :: (← holding [kv, vv] (evalPairs []))) _ _ _
  refine wpAny_bind (thn (hb.run pins _ σ _ _ I3 q2) fun kv s2 ⟨y, H2, I4, ry, q3⟩ => ?_)
  refine wpAny_bind (wpAny_holding (wpAny_bind (thn (hc.run pins _ σ _ _ I4 q3) fun vv s3 ⟨z, H3, I5, rz, q, k, ey, hq3, h3d, h3e, hk3, hne, q4⟩ => ?_)))
  refine wpAny_bind (wpAny_standAt (wpAny_pure ?_))
  subst ey
  obtain rfl : kv = Value.ref q := ry
  refine wpAny_bind (wpAny_holding (wpAny_pure (wpAny_pure ?_)))
  obtain ⟨se, _, _, de⟩ := dit_at I5 h3e (xs := []) (fun x hx => nomatch hx)
  obtain ⟨_, _, _, dd3⟩ := dit_at I5 h3d hk3
  have kq := key_at I5 hq3
  refine ⟨k.map toLf, q, vv, rfl, kq, fun h' hs' => ?_, de, dd3, hne, se, fun h3 h4 tk hs3 hde3 hs4 hd4 => ?_⟩
  · obtain ⟨oe, ese, epe, g1, _, g3, _⟩ := id de
    exact IsTupleKey.typeIs (s := { s3 with heap := h' }) (IsTupleKey.keeps kq g1 g3 hs')
  have I6 : L2.Inv X pins σ (upd H3 h2.objs.size (.ext (DitAt h2.objs.size [(k, q, vv)]))) { s3 with heap := h3, toks := s3.toks } :=
    I5.write (x := h2.objs.size) (e := h2.objs.size) (t' := s3.toks) (by rw [h3e]; trivial) (.inl rfl) (fun c u hc e => (hs3.2 c hc).trans e) (by obtain ⟨ob, _, _, h1, _⟩ := hde3; exact ⟨ob, h1⟩) (ext_ok (at_dit (P := X.prog) (w := X.w) se (by show 1 ≤ sizeLine; rw [sizeLine_eq]; omega) hde3))
  have e6 : (upd H3 h2.objs.size (.ext (DitAt h2.objs.size [(k, q, vv)]))) d = some (.ext (DitAt d xs)) := by rw [upd_ne hne]; exact h3d
  rw [← storeK_toL] at hd4
  have ls : (storeK xs k q vv).length ≤ sizeLine := by
    unfold storeK
    split
    · rw [List.length_map]; omega
    · rw [List.length_append]; simp; omega
  have I7 : L2.Inv X pins σ (upd (upd H3 h2.objs.size (.ext (DitAt h2.objs.size [(k, q, vv)]))) d (.ext (DitAt d (storeK xs k q vv)))) { s3 with heap := h4, toks := tk } :=
    I6.write (x := d) (e := d) (t' := tk) (by rw [e6]; trivial) (.inl rfl) (fun c u hc e => (hs4.2 c hc).trans e) (by obtain ⟨ob, _, _, h1, _⟩ := hd4; exact ⟨ob, h1⟩) (ext_ok (at_dit sd ls hd4))
  exact ⟨.ref d, _, I7, rfl, q4 vv rz⟩
theorem fin_bind2 {α β γ : Type} {K : PySem.W.Frag} {rel : Pl → Nat → Hp → β → γ → Prop} {m : Pl} {st st1 : Sto} {H : Hp} {g : M α} {f : α → M γ} {Q : β → Hp → Prop} (h : FinG K rel m st H (M.bind g f st1) Q) : ∃ u s', g st1 = .ok u s' ∧ FinG K rel m st H (f u s') Q := by
  unfold M.bind at h
  cases e : g st1 with
  | err => rw [e] at h; exact h.elim
  | ok u s' => rw [e] at h; exact ⟨u, s', rfl, h⟩
theorem tok_of {st s' : Sto} {kvs : List (List Kf × PV)} {u : Unit} (e : tokM kvs st = .ok u s') : hokT kvs = true ∧ kvs.length ≤ 100000 ∧ s' = st := by
  unfold tokM at e
  by_cases h : hokT kvs = true ∧ kvs.length ≤ 100000
  · rw [if_pos h] at e
    cases e
    exact ⟨h.1, h.2, rfl⟩
  · rw [if_neg h] at e
    cases e
theorem tput_of {st s' : Sto} {o k v : PV} {u : Unit} (e0 : tputM o k v st = .ok u s') : ∃ l kvs q, o = .loc l ∧ st.get l = some (.dit kvs) ∧ keyT k = some q ∧ kvs.length ≤ 100000 ∧ s' = st.set l (.dit (tstore q v kvs)) := by
  unfold tputM M.bind at e0
  cases e1 : tkvs o st with
  | err => rw [e1] at e0; cases e0
  | ok kvs s1 =>
    rw [e1] at e0
    obtain ⟨l, rfl, hg, rfl⟩ := tkvs_of e1
    cases e2 : keyT k with
    | none => rw [e2] at e0; cases e0
    | some q =>
      rw [e2] at e0
      have e0 : (if kvs.length ≤ 100000 then R.ok () (s1.set l (.dit (tstore q v kvs))) else .err) = R.ok u s' := e0
      by_cases hc : kvs.length ≤ 100000
      · rw [if_pos hc] at e0
        cases e0
        exact ⟨l, kvs, q, rfl, hg, rfl, hc, rfl⟩
      · rw [if_neg hc] at e0; cases e0
theorem ps_tput {o i value : Expr} {pos' : Pos} {td ty tv : TE} (hu : X.A.units + 1 < cLine) (ho : PE X o td) (hi : PE X i ty) (hv : PE X value tv) (hs : swapsWith value (some (.Subscript o i pos')) pos.line X.env = pure false) :
    PS X (.Assign [.Subscript o i pos'] value pos) (fun D σ H => tv σ H fun v H1 => td σ H1 fun x H2 => ty σ H2 fun y H3 => ∃ a xs q k, x = .ref a ∧ y = .ref q ∧ SqD X.K H3 q (k.map kfV) ∧ H3 a = some (.ext (DitAt a xs)) ∧ (∀ x ∈ xs, SqD X.K H3 x.2.1 (x.1.map kfV)) ∧ xs.length + 1 ≤ sizeLine ∧
      ∀ u, RelV v u → D.nx σ (upd H3 a (.ext (DitAt a (storeK xs k q u))))) := by
  refine ⟨fun pins s σ H D I h => ?_⟩
  refine wpAny_Assign_Subscript (thn (hv.run pins s σ H _ I h) fun r s1 ⟨v, H1, I1, rv, q1⟩ => thn (ho.run pins s1 σ H1 _ I1 q1) fun u s2 ⟨x, H2, I2, rx, q2⟩ => thn (hi.run pins s2 σ H2 _ I2 q2) fun iv s3 ⟨y, H3, I3, ry, a, xs, q, k, ex, ey, hq, hx, hk, hl, q3⟩ => ?_) hs
  subst ex; subst ey
  obtain rfl : u = Value.ref a := rx
  obtain rfl : iv = Value.ref q := ry
  obtain ⟨sa, la, na, da⟩ := dit_at I3 hx hk
  refine wpAny_setItem_heap (knd := dKnd X.prog X.w) (tupleKind_room_in1 hu) (key_at I3 hq) da (fun h' hd' hs' => ?_) (by rw [List.length_map]; omega)
  -- the key's item must stand
  rw [← storeK_toL] at hd'
  have ls : (storeK xs k q r).length ≤ sizeLine := by
    unfold storeK
    split
    · rw [List.length_map]; omega
    · rw [List.length_append]; simp; omega
  have I4 : L2.Inv X pins σ (upd H3 a (.ext (DitAt a (storeK xs k q r)))) { s3 with heap := h', toks := s3.toks } :=
    I3.write (x := a) (e := a) (t' := s3.toks) (by rw [hx]; trivial) (.inl rfl) (fun c u hc e => (hs'.2 c hc).trans e) (by obtain ⟨ob, _, _, h1, _⟩ := hd'; exact ⟨ob, h1⟩) (ext_ok (at_dit sa ls hd'))
  exact ⟨σ, _, I4.tok _, q3 r rv⟩
theorem r_tspread (c0 : CxOk X) (ha : PE X a (rd X.K f)) (hb : PE X b (rd X.K g)) (hc : PE X c (rd X.K h)) :
    PE X (.Dict [none, some b] [a, c] pos) (rd X.K fun r => M.bind (f r) fun x => M.bind (tkvs x) fun kvs => M.bind (tokM kvs) fun _ => M.bind (g r) fun y => M.bind (h r) fun z => tmk kvs y z) := by
  refine PE.conseq (pe_tspread (by have := c0.un; omega) ha hb hc) fun σ H Q q d hd => ?_
  obtain ⟨m, r, st, E, S1, F⟩ := q
  have no1 : ¬ Own m st d := fun z => by
    obtain ⟨ho, e, _⟩ := S1.own z
    rw [hd] at e; cases e
  have t0 := Step.tup S1 hd (.ext (DitAt d []))
  have S1' := S1.tup hd (.ext (DitAt d []))
  have E0 := E.step S1 t0
  refine ⟨m, r, st, E0, S1', ?_⟩
  have F : FinG X.K (Rep X.K) m st H ((f r).bind (fun x => M.bind (tkvs x) fun kvs => M.bind (tokM kvs) fun _ => M.bind (g r) fun y => M.bind (h r) fun z => tmk kvs y z) st) Q := F
  cases ef : f r st with
  | err => unfold M.bind at F; rw [ef] at F; exact F.elim
  | ok o st1 =>
    intro x H1 m1 t1 S2 ro
    have F : FinG X.K (Rep X.K) m st H ((tkvs o).bind (fun kvs => M.bind (tokM kvs) fun _ => M.bind (g r) fun y => M.bind (h r) fun z => tmk kvs y z) st1) Q := by
      unfold M.bind at F
      rw [ef] at F
      exact F
    obtain ⟨kvs, s', ek, F2⟩ := fin_bind2 F
    clear F
    have F2 : FinG X.K (Rep X.K) m st H (M.bind (tokM kvs) (fun _ => M.bind (g r) fun y => M.bind (h r) fun z => tmk kvs y z) s') Q := F2
    obtain ⟨_, s'', et, F⟩ := fin_bind2 F2
    clear F2
    obtain ⟨l, rfl, hg, rfl⟩ := tkvs_of ek
    obtain ⟨hok, hlen, rfl⟩ := tok_of et
    cases ro
    obtain ⟨_, xs, hx, tr⟩ := S2.ob l _ hg
    obtain ⟨k1, n1⟩ := t1.keepX upd_same no1
    have ne1 : d ≠ m1 l := fun z => n1 ⟨l, _, hg, rfl, z.symm⟩
    refine ⟨m1 l, xs, rfl, ne1, k1, hx, treps_keys tr, treps_hash tr hok _ _, by rw [treps_len tr, sizeLine_eq]; omega, fun d2 hd2 => ?_⟩
    have S2' : SRep X.K m1 (upd H1 d (.ext (DitAt d xs))) s'' := S2.overX k1 n1
    have E1 := (E0.step S1' t1).stp (stp_ext (w := .ext (DitAt d xs)) k1)
    have T1 : Step m st H m1 s'' (upd H1 d (.ext (DitAt d xs))) := (t0.trans t1).overX hd
    have no2 : ¬ Own m1 s'' d2 := fun z => by
      obtain ⟨ho, e, _⟩ := S2'.own z
      rw [hd2] at e; cases e
    have hne : d ≠ d2 := fun z => by
      rw [← z, upd_same] at hd2; cases hd2
    have t2 := Step.tup S2' hd2 (.ext (DitAt d2 []))
    have S2'' := S2'.tup hd2 (.ext (DitAt d2 []))
    have E2 := E1.step S2' t2
    have a1 : (upd (upd H1 d (.ext (DitAt d xs))) d2 (.ext (DitAt d2 []))) d = some (.ext (DitAt d xs)) := by rw [upd_ne hne, upd_same]
    refine ⟨m1, r, s'', E2, S2'', ?_⟩
    cases eg : g r s'' with
    | err => unfold M.bind at F; rw [eg] at F; exact F.elim
    | ok k st2 =>
      intro y H2 m2 t3 S3 rk
      have F : FinG X.K (Rep X.K) m st H ((h r).bind (fun z => tmk kvs k z) st2) Q := by
        unfold M.bind at F
        rw [eg] at F
        exact F
      obtain ⟨b1, b2⟩ := t3.keepX a1 n1
      obtain ⟨c1, c2⟩ := t3.keepX upd_same no2
      refine ⟨m2, r, st2, E2.step S2'' t3, S3, ?_⟩
      cases eh : h r st2 with
      | err => unfold M.bind at F; rw [eh] at F; exact F.elim
      | ok w st3 =>
        intro z H3 m3 t4 S4 rz
        have F : FinG X.K (Rep X.K) m st H (tmk kvs k w st3) Q := by
          unfold M.bind at F
          rw [eh] at F
          exact F
        obtain ⟨b3, b4⟩ := t4.keepX b1 b2
        obtain ⟨c3, c4⟩ := t4.keepX c1 c2
        unfold tmk at F
        cases ekk : keyT k with
        | none => rw [ekk] at F; exact F.elim
        | some kk =>
          rw [ekk] at F
          have F : ∀ (v : V) (H' : Hp) (m' : Pl), Step m st H m' (st3.new (.dit (tstore kk w kvs))) H' → SRep X.K m' H' (st3.new (.dit (tstore kk w kvs))) → Rep X.K m' (st3.new (.dit (tstore kk w kvs))).nxt H' v (.loc st3.nxt) → Q v H' := F
          obtain ⟨q, rfl, hq, hqr⟩ := key_of_rep ekk (Rep.step S3 t4 _ _ rk)
          have p1 : Stp m1 s''.nxt H1 m1 s''.nxt (upd H1 d (.ext (DitAt d xs))) := stp_ext k1
          have p3 := ((p1.trans (t2.stp S2')).trans (t3.stp S2'')).trans (t4.stp S3)
          have tr3 : TReps X.K m3 st3.nxt H3 xs kvs := tr.mv fun p v r => Rep.stp p3 p v r
          refine ⟨q, kk, rfl, hq, b3, c3, treps_keys tr3, hne, fun u ru => ?_⟩
          have d1 : (upd H3 d2 (.ext (DitAt d2 [(kk, q, u)]))) d = some (.ext (DitAt d xs)) := by rw [upd_ne hne]; exact b3
          have p4 : Stp m3 st3.nxt H3 m3 st3.nxt (upd H3 d2 (.ext (DitAt d2 [(kk, q, u)]))) := stp_ext c3
          have p5 : Stp m3 st3.nxt (upd H3 d2 (.ext (DitAt d2 [(kk, q, u)]))) m3 st3.nxt (upd (upd H3 d2 (.ext (DitAt d2 [(kk, q, u)]))) d (.ext (DitAt d (storeK xs kk q u)))) := stp_ext d1
          have p6 := p4.trans p5
          have S5 : SRep X.K m3 (upd H3 d2 (.ext (DitAt d2 [(kk, q, u)]))) st3 := S4.overX c3 c4
          have S6 : SRep X.K m3 (upd (upd H3 d2 (.ext (DitAt d2 [(kk, q, u)]))) d (.ext (DitAt d (storeK xs kk q u)))) st3 := S5.overX d1 b4
          have tr6 : TReps X.K m3 st3.nxt (upd (upd H3 d2 (.ext (DitAt d2 [(kk, q, u)]))) d (.ext (DitAt d (storeK xs kk q u)))) (storeK xs kk q u) (tstore kk w kvs) :=
            treps_store (Rep.stp p6 _ _ hqr) ru (Rep.stp p6 _ _ rz) (tr3.mv fun p v r => Rep.stp p6 p v r)
          have T2 : Step m1 s'' (upd H1 d (.ext (DitAt d xs))) m3 st3 (upd H3 d2 (.ext (DitAt d2 [(kk, q, u)]))) := ((t2.trans t3).trans t4).overX hd2
          have T3 : Step m st H m3 st3 (upd (upd H3 d2 (.ext (DitAt d2 [(kk, q, u)]))) d (.ext (DitAt d (storeK xs kk q u)))) := (T1.trans T2).overX hd
          have rl := Rep.loc (K := X.K) (m := plNew m3 st3.nxt d) (n := (st3.new (.dit (tstore kk w kvs))).nxt) (H := upd (upd H3 d2 (.ext (DitAt d2 [(kk, q, u)]))) d (.ext (DitAt d (storeK xs kk q u)))) (l := st3.nxt) (Nat.lt_succ_self _)
          rw [plNew_new] at rl
          exact F (.ref d) _ _ (T3.adoptX S6 hd) (S6.adoptX upd_same b4 tr6) rl
end
end Dp


set_option Elab.async false
set_option linter.all false
set_option maxRecDepth 100000
set_option maxHeartbeats 4000000
set_option autoImplicit false
/-! DsRaw: {**d, k: v} of dicts whose keys are ints and texts. -/
namespace Dp
open PySem
section
variable {prog : Program} {w : World} {K : Type} [DecidableEq K] {knd : KeyKind prog w K} {A : Around} {E : Value → Shared → Prop} {s : Shared}
theorem wpAny_dictPut_pairs {d : Addr} {kvs : List (K × Value)} {k : K} {key v : Value} {Q : Unit → Shared → Prop} (hkey : knd.is k key = true) (hm : s.heap.DictOf knd d kvs)
    (hQ : ∀ h', h'.DictOf knd d (stored kvs k v) → Heap.SameBut d s.heap h' → Q () { s with heap := h' }) (hsz : kvs.length ≤ sizeLine) :
    wpAny (model prog w) A (dictPut d (knd.hash k) key v) Q E s := by
  obtain ⟨o, es, ep, ho, hc, hd, hk, hp, hn⟩ := hm
  have hes : es.size ≤ sizeLine := by
    have e1 := hp.length
    have e2 : es.toList.length = es.size := by simp
    omega
  unfold dictPut
  refine wpAny_bind (wpAny_dictFind_of hkey ho hd hk ?_)
  have hidx : (es.findIdx? fun e => knd.is k e.key) = kvs.findIdx? fun kv => decide (kv.1 = k) := by
    rw [← hp.findIdx k]; obtain ⟨l⟩ := es; simp
  cases hi : es.findIdx? fun e => knd.is k e.key with
  | some i =>
    refine wpAny_updateDict ho hd (hQ _ ⟨_, _, ep, Heap.get?_update_self _ ho (Obj.isFreed_of_dict (Obj.data_mapDict hd _)), hc.mapDict _, Obj.data_mapDict hd _, hk.modify _ _, ?_, ?_⟩ (Heap.SameBut.update ..))
    · rw [stored, if_pos (any_of_findIdx_some (hidx ▸ hi))]
      have hl : (es.toList.findIdx? fun e => knd.is k e.key) = some i := by rw [← hi]; obtain ⟨l⟩ := es; simp
      have := hp.modify hn hl v
      obtain ⟨l⟩ := es
      simpa using this
    · rw [stored, if_pos (any_of_findIdx_some (hidx ▸ hi)), keys_map_store]; exact hn
  | none =>
    have hnot : k ∉ kvs.map (·.1) := not_mem_of_findIdx_none (hidx ▸ hi)
    have hany : ¬ (kvs.any fun kv => decide (kv.1 = k)) = true := by
      rw [List.any_eq_true]; rintro ⟨kv, hkv, he⟩
      exact hnot (List.mem_map.mpr ⟨kv, hkv, of_decide_eq_true he⟩)
    refine wpAny_updateDictKeys (hz := hes) ho hd (hQ _ ⟨_, _, ep + 1, Heap.get?_update_self _ ho (Obj.isFreed_of_dict (Obj.data_mapDictKeys hd _)), hc.mapDictKeys _, Obj.data_mapDictKeys hd _, hk.push hkey _, ?_, ?_⟩ (Heap.SameBut.update ..))
    · rw [stored, if_neg hany]
      have := hp.append hkey (knd.hash k) v
      obtain ⟨l⟩ := es
      simpa using this
    · rw [stored, if_neg hany, List.map_append, List.nodup_append]
      refine ⟨hn, by simp, ?_⟩
      intro a ha b hb
      simp only [List.map_cons, List.map_nil, List.mem_singleton] at hb
      subst hb
      exact fun e => hnot (e ▸ ha)
theorem wpAny_mergeMapping_pairs {d o : Addr} {kvs more : List (K × Value)} {Q : Unit → Shared → Prop} (hdo : d ≠ o) (hoS : (o == sysModules) = false) (hnr : ∀ (k : K) (a : Addr), knd.is k (.ref a) = false)
    (hd : s.heap.DictOf knd d kvs) (ho : s.heap.DictOf knd o more)
    (hQ : ∀ h', h'.DictOf knd d (merged kvs more) → h'.DictOf knd o more → Heap.SameBut d s.heap h' → Q () { s with heap := h' })
    (hsz : kvs.length + more.length ≤ sizeLine) : wpAny (model prog w) A (mergeMapping d (.ref o) false) Q E s := by
  obtain ⟨od, esd, epd, hod, hcd, hdd, hkd, hpd, hnd⟩ := id hd
  obtain ⟨oo, eso, epo, hoo, hco, hdo', hko, hpo, hno⟩ := id ho
  have hlen : more.length = eso.size := by rw [← hpo.length]; simp
  unfold mergeMapping
  refine wpAny_bind (wpAny_isInstance ho.typeIs isSubtype_dict_dict ?_)
  simp only [if_true]
  refine wpAny_bind (wpAny_specialOf ho.typeIs F.slot_dict_iter.lookup (wpAny_bind (wpAny_pure ?_)))
  simp only [beq_self_eq_true, Bool.false_eq_true, if_false]
  rw [if_neg (by rw [hoS]; exact Bool.false_ne_true)]
  have loop : wpAny (model prog w) A (do
      let l ← dictEntries o
      let epoch ← dictEpoch o
      forIn (List.range l.size) PUnit.unit fun i (_ : PUnit) => (do
          let l' ← dictEntries o
          match l'[i]? with
            | some e => do
              holding [e.key, e.val] (dictPut d e.hash e.key e.val)
              let ep' ← dictEpoch o
              if (ep' != epoch) = true then do
                  (unsupported "dict.changed-during-merge" : Sem PUnit)
                  pure (ForInStep.yield PUnit.unit)
                else pure (ForInStep.yield PUnit.unit)
            | _ => do
              (unsupported "dict.changed-during-merge" : Sem PUnit)
              pure (ForInStep.yield PUnit.unit) : Sem (ForInStep PUnit))
      pure ()) Q E s := by
    refine wpAny_bind (wpAny_dictEntries hoo hdo' ?_)
    refine wpAny_bind (wpAny_dictEpoch hoo hdo' ?_)
    refine wpAny_bind ?_
    rw [List.range_eq_range']
    refine wpAny_forIn_list _
      (fun rest _ s' => ∃ h' i, s' = { s with heap := h' } ∧ rest = List.range' i (eso.size - i) ∧ i ≤ eso.size ∧ h'.DictOf knd d (merged kvs (more.take i)) ∧ h'.get? o = some oo ∧ Heap.SameBut d s.heap h')
      _ ?_ ?_ _ _ ⟨s.heap, 0, rfl, by simp, Nat.zero_le _, by simpa [merged] using hd, hoo, Heap.SameBut.refl _ _⟩
    · rintro x rest b s' ⟨h', i, rfl, hr, hi, hd', hoo', hs'⟩
      have hlt : i < eso.size := by
        rcases Nat.lt_or_ge i eso.size with h | h
        · exact h
        · rw [Nat.sub_eq_zero_of_le h] at hr; simp at hr
      obtain ⟨rfl, hrest⟩ : x = i ∧ rest = List.range' (i + 1) (eso.size - (i + 1)) := by
        have e : eso.size - i = (eso.size - (i + 1)) + 1 := by omega
        rw [e, List.range'_succ] at hr
        injection hr with h1 h2
        exact ⟨h1, h2⟩
      refine wpAny_bind (wpAny_dictEntries hoo' hdo' ?_)
      rw [Array.getElem?_eq_getElem hlt]
      obtain ⟨kv, hkv⟩ : ∃ kv, more[x]? = some kv := ⟨more[x]'(by rw [hlen]; exact hlt), List.getElem?_eq_getElem _⟩
      obtain ⟨k, v⟩ := kv
      obtain ⟨hkey, hval⟩ := hpo.get? (e := eso[x]) (by simp [hlt]) hkv
      obtain ⟨k', hkey', hhash⟩ := hko eso[x] (Array.getElem_mem hlt)
      obtain rfl : k' = k := knd.inj _ _ _ hkey' hkey
      show wpAny _ _ (holding [eso[x].key, eso[x].val] (dictPut d eso[x].hash eso[x].key eso[x].val) >>= _) _ _ _
      rw [hhash, hval]
      have hmx : (merged kvs (more.take x)).length ≤ sizeLine := by
        have e1 := merged_length_le kvs (more.take x)
        have e2 : (more.take x).length ≤ more.length := by rw [List.length_take]; omega
        omega
      refine wpAny_bind (wpAny_holding (wpAny_dictPut_pairs (s := { s with heap := h' }) (hsz := hmx) hkey hd' fun h'' hd'' hs'' => ?_))
      have hoo'' : h''.get? o = some oo := (hs''.2 o (Ne.symm hdo)).trans hoo'
      refine wpAny_bind (wpAny_dictEpoch hoo'' hdo' ?_)
      rw [if_neg (by simp)]
      exact wpAny_pure ⟨h'', x + 1, rfl, hrest, hlt, by rw [merged_take_succ kvs more x (k', v) hkv]; exact hd'', hoo'', hs'.trans hs''⟩
    · rintro b s' ⟨h', i, rfl, hr, hi, hd', hoo', hs'⟩
      have hin : i = eso.size := by
        rcases Nat.lt_or_ge i eso.size with h | h
        · have e : eso.size - i = (eso.size - (i + 1)) + 1 := by omega
          rw [e, List.range'_succ] at hr; exact nomatch hr
        · exact Nat.le_antisymm hi h
      refine wpAny_pure (hQ h' ?_ ⟨oo, eso, epo, hoo', hco, hdo', hko, hpo, hno⟩ hs')
      rw [hin, ← hlen, List.take_length] at hd'; exact hd'
  refine wpAny_bind (wpAny_dictEntries hod hdd ?_)
  split
  · refine wpAny_bind (wpAny_dictEntries hoo hdo' ?_)
    refine wpAny_bind ?_
    rw [← Array.forIn_toList]
    refine wpAny_forIn_list _ (fun rest _ s' => s' = s ∧ ∀ e ∈ rest, ∃ k, knd.is k e.key = true) _ ?_ ?_ _ _ ⟨rfl, fun e he => by
      obtain ⟨k, h1, _⟩ := hko e (by simpa using he)
      exact ⟨k, h1⟩⟩
    · rintro e rest b s' ⟨rfl, hall⟩
      obtain ⟨k, hk⟩ := hall e List.mem_cons_self
      have hrest : ∀ x ∈ rest, ∃ k, knd.is k x.key = true := fun x hx => hall x (List.mem_cons_of_mem _ hx)
      cases hke : e.key with
      | ref a => rw [hke, hnr] at hk; cases hk
      | _ => exact wpAny_pure ⟨rfl, hrest⟩
    · rintro b s' ⟨rfl, _⟩
      exact loop
  · exact loop
theorem wpAny_spreadP {a' k' v' : Sem Value} {Q : Value → Shared → Prop} (hnr : ∀ (k : K) (a : Addr), knd.is k (.ref a) = false)
    (h : wpAny (model prog w) A a' (fun m s1 => ∃ o xs, m = .ref o ∧ s.heap.objs.size ≠ o ∧ (o == sysModules) = false ∧ s1.heap.DictOf knd s.heap.objs.size [] ∧ s1.heap.DictOf knd o xs ∧ xs.length + 1 ≤ sizeLine ∧
      ∀ h2, h2.DictOf knd s.heap.objs.size xs → Heap.SameBut s.heap.objs.size s1.heap h2 →
        wpAny (model prog w) A (evalPairs [(k', v')]) (fun vs s2 => ∃ k key v xs', vs = [(key, v)] ∧ knd.is k key = true ∧ s2.heap.DictOf knd h2.objs.size [] ∧ s2.heap.DictOf knd s.heap.objs.size xs' ∧ xs'.length + 1 ≤ sizeLine ∧ s.heap.objs.size ≠ h2.objs.size ∧ (h2.objs.size == sysModules) = false ∧
          ∀ h3 h4 tk, Heap.SameBut h2.objs.size s2.heap h3 → h3.DictOf knd h2.objs.size [(k, v)] → Heap.SameBut s.heap.objs.size h3 h4 → h4.DictOf knd s.heap.objs.size (stored xs' k v) → Q (.ref s.heap.objs.size) { s2 with heap := h4, toks := tk }) E
          { s1 with heap := h2.push { cls := .type "dict", data := .dict #[] } }) E
      { s with heap := s.heap.push { cls := .type "dict", data := .dict #[] } }) :
    wpAny (model prog w) A (dictDisplay [(none, a'), (some k', v')]) Q E s := by
  unfold dictDisplay
  dsimp only
  rw [List.forIn_cons]
  dsimp only
  simp only [List.isEmpty_nil, if_true, pure_bind, bind_assoc]
  refine wpAny_bind (wpAny_alloc ?_)
  refine wpAny_bind (wpAny_holding ?_)
  refine wpAny_mono h (fun m s1 hm => ?_) fun _ _ e => e
  obtain ⟨o, xs, rfl, hdo, hoS, hd0, ho, hsz, hq⟩ := hm
  have nd : (xs.map (·.1)).Nodup := let ⟨_, _, _, _, _, _, _, _, hn⟩ := ho; hn
  have noE : ∀ (E' : Value → Shared → Prop) (Q' : Unit → Shared → Prop), (∀ h', h'.DictOf knd s.heap.objs.size xs → Heap.SameBut s.heap.objs.size s1.heap h' → Q' () { s1 with heap := h' }) → wpAny (model prog w) A (mergeMapping s.heap.objs.size (.ref o) false) Q' E' s1 := by
    intro E' Q' hQ
    refine wpAny_mergeMapping_pairs hdo hoS hnr hd0 ho (fun h' a b c => hQ h' ?_ c) (by simp; omega)
    rwa [merged_nil_of_nodup xs nd] at a
  refine wpAny_bind (wpAny_onRaise (wpAny_tryCatch (wpAny_onRaise (wpAny_holding (noE _ _ fun h2 hd2 hs2 => ?_)))))
  try simp only [pure_bind]
  rw [List.forIn_cons]
  dsimp only
  simp only [pure_bind, List.nil_append, List.length_singleton, List.forIn_nil, List.isEmpty_cons, Bool.false_eq_true, if_false]
  simp only [show ((1 : Nat) == 17) = false from rfl, Bool.false_eq_true, if_false, pure_bind, List.isEmpty_cons]
  refine wpAny_bind (wpAny_bind (wpAny_holding (wpAny_subDict (knd := knd) (by simp) ?_)))
  refine wpAny_mono (hq h2 hd2 hs2) (fun vs s2 hv => ?_) fun _ _ e => e
  obtain ⟨k, key, v, xs', rfl, hk, hn, hd3, hsz3, hne, hsy, hq2⟩ := hv
  refine ⟨[(k, v)], ⟨hk, rfl, trivial⟩, hn, fun h3 hd4 hs3 => ?_⟩
  have hd4 : h3.DictOf knd h2.objs.size [(k, v)] := hd4
  have hd5 : h3.DictOf knd s.heap.objs.size xs' := hd3.sameBut hs3 hne
  refine wpAny_bind (wpAny_onRaise (wpAny_holding (wpAny_mergeMapping_pairs (s := { s2 with heap := h3, toks := s2.toks + 1 }) hne hsy hnr hd5 hd4 (fun h4 hd6 hd7 hs4 => ?_) (by simp; omega))))
  refine wpAny_pure (wpAny_pure ?_)
  exact hq2 h3 h4 _ hs3 hd4 hs4 hd6
end
end Dp


set_option Elab.async false
set_option linter.all false
set_option maxRecDepth 100000
set_option maxHeartbeats 4000000
set_option autoImplicit false
/-! DsRd: {**d, k: v}, read. -/
namespace Dp
open PySem L2
/-! ### what nobody owns may change -/
section
variable {K : PySem.W.Frag} {m m1 : Pl} {st st1 : Sto} {H H1 : Hp} {D : Addr} {ws us : List (Key × V)}
theorem stp_dK {n : Nat} (hD : H D = some (.dK ws)) {w : HO} : Stp m n H m n (upd H D w) :=
  ⟨Nat.le_refl _, fun _ _ => rfl, fun a o u h => by rw [upd_ne (fun z => by rw [z, hD] at h; cases h)]; exact h⟩
theorem SRep.overD (s : SRep K m H st) (hD : H D = some (.dK ws)) (ho : ¬ Own m st D) : SRep K m (upd H D (.dK us)) st := by
  refine ⟨fun l o e => ?_, s.inj⟩
  obtain ⟨h1, h2⟩ := s.ob l o e
  refine ⟨h1, h2.mv rfl (fun h e3 hf => ?_) (fun p v r => Rep.stp (stp_dK hD) p v r)⟩
  have ne : m l ≠ D := fun z => by
    by_cases hu : o.mut = true
    · exact ho ⟨l, o, e, hu, z⟩
    · unfold fits at hf
      rw [if_neg hu] at hf
      obtain ⟨ob, v, rfl⟩ := hf
      rw [z, hD] at e3
      cases e3
  rw [upd_ne ne]
  exact e3
theorem Step.overD (t : Step m st H m1 st1 H1) (h0 : H D = none) : Step m st H m1 st1 (upd H1 D (.dK us)) :=
  ⟨t.nx, t.mu, fun a o h n => by rw [upd_ne (fun z => by rw [z, h0] at h; cases h)]; exact t.fr a o h n, t.ow⟩
theorem Step.keepDK (t : Step m st H m1 st1 H1) (hD : H D = some (.dK ws)) (ho : ¬ Own m st D) : H1 D = some (.dK ws) ∧ ¬ Own m1 st1 D :=
  ⟨t.fr D _ hD ho, fun z => by
    rcases t.ow D z with q | q
    · exact ho q
    · rw [hD] at q; cases q⟩
theorem SRep.adoptD {kvs : List (PV × PV)} (s : SRep K m H st) (hD : H D = some (.dK ws)) (ho : ¬ Own m st D) (r : DReps K m st.nxt H ws kvs) : SRep K (plNew m st.nxt D) H (st.new (.dic kvs)) := by
  have lift : ∀ (p : PV) (v : V), Rep K m st.nxt H v p → Rep K (plNew m st.nxt D) (st.new (.dic kvs)).nxt H v p :=
    Rep.lift (fun l hl => plNew_old hl) (Nat.le_succ _)
  refine ⟨fun l u e => ?_, fun l k ys zs e1 e2 m1 m2 q => ?_⟩
  · rcases get_newE e with ⟨rfl, rfl⟩ | ⟨n1, e⟩
    · exact ⟨Nat.lt_succ_self _, ws, by rw [plNew_new]; exact hD, r.mv lift⟩
    · obtain ⟨h1, h2⟩ := s.ob l u e
      exact ⟨Nat.lt_succ_of_lt h1, h2.mv (plNew_old h1) (fun _ e _ => e) lift⟩
  · rcases get_newE e1 with ⟨rfl, _⟩ | ⟨n1, e1⟩
    · rcases get_newE e2 with ⟨rfl, _⟩ | ⟨n2, e2⟩
      · rfl
      · rw [plNew_new, plNew_old (s.ob k _ e2).1] at q
        exact absurd ⟨k, _, e2, m2, q.symm⟩ ho
    · rcases get_newE e2 with ⟨rfl, _⟩ | ⟨n2, e2⟩
      · rw [plNew_new, plNew_old (s.ob l _ e1).1] at q
        exact absurd ⟨l, _, e1, m1, q⟩ ho
      · rw [plNew_old (s.ob l _ e1).1, plNew_old (s.ob k _ e2).1] at q
        exact s.inj l k _ _ e1 e2 m1 m2 q
end
theorem mix_nr (P : Program) (w : World) (k : Key) (a : Addr) : (mixKind P w).is k (.ref a) = false := by
  cases h : (mixKind P w).is k (.ref a) with
  | false => rfl
  | true =>
    rcases keyIs_shape h with ⟨i, t, _, e⟩ | ⟨x, t, _, e⟩ <;> cases e
theorem kv_is (P : Program) (w : World) {k : Key} {u : Value} (h : RelV (kV k) u) : (mixKind P w).is k u = true := by
  cases k with
  | inl i => obtain ⟨t, rfl⟩ := h; exact keyIs_int i t
  | inr x => obtain ⟨t, rfl⟩ := h; exact keyIs_str x t
section
variable {X : Cx} {a b c : Expr} {f g h : Env → M PV} {pos : Pos}
theorem pe_dspread {ta tk tv : TE} (ha : PE X a ta) (hb : PE X b tk) (hc : PE X c tv) :
    PE X (.Dict [none, some b] [a, c] pos) (fun σ H Q => ∀ d, H d = none → ta σ (upd H d (.dK [])) fun x H1 => ∃ o ws, x = .ref o ∧ d ≠ o ∧ H1 d = some (.dK []) ∧ H1 o = some (.dK ws) ∧ ws.length + 1 ≤ sizeLine ∧
      ∀ d2, upd H1 d (.dK ws) d2 = none → tk σ (upd (upd H1 d (.dK ws)) d2 (.dK [])) fun y H2 => tv σ H2 fun z H3 =>
        ∃ k, y = kV k ∧ H3 d = some (.dK ws) ∧ H3 d2 = some (.dK []) ∧ d ≠ d2 ∧ Q (.ref d) (upd (upd H3 d2 (.dK [(k, z)])) d (.dK (putK ws k z)))) := by
  refine ⟨fun pins s σ H Q I h => ?_⟩
  rw [arm_eval_Dict]
  refine wpAny_bind (wpAny_standAt ?_)
  show wpAny _ _ (dictDisplay [(none, do let x ← eval a X.env; standAt pos; pure x), (some (eval b X.env), do let x ← eval c X.env; standAt pos; pure x)]) _ _ _
  have hd := I.hok.fresh (Nat.le_refl s.heap.objs.size)
  have hq := h _ hd
  have I0 : L2.Inv X pins σ (upd H s.heap.objs.size (.dK [])) { s with heap := s.heap.push ({ cls := .type "dict", data := .dict #[] } : Obj), toks := s.toks } :=
    I.laid (t' := s.toks) (fun _ _ q => Heap.get?_push_of_some _ q) (Nat.le_refl _) (dk_empty s.heap I.big)
  generalize hde : s.heap.objs.size = d at hd hq I0
  refine wpAny_spreadP (knd := mixKind X.prog X.w) (mix_nr _ _) ?_
  rw [hde]
  refine wpAny_bind (thn (ha.run pins _ σ _ _ I0 hq) fun m s1 ⟨x, H1, I1, rx, o, ws, ex, hdo, h1d, h1o, hsz, q1⟩ => ?_)
  refine wpAny_bind (wpAny_standAt (wpAny_pure ?_))
  subst ex
  obtain rfl : m = Value.ref o := rx
  obtain ⟨_, sd, vs0, r0, dd⟩ := dk_of I1.hok h1d
  cases r0
  obtain ⟨lo, so, vs, rv, dO⟩ := dk_of I1.hok h1o
  refine ⟨o, vs, rfl, hdo, so, dd, dO, by rw [← rv.length]; exact hsz, fun h2 hd2 hs2 => ?_⟩
  have I2 : L2.Inv X pins σ (upd H1 d (.dK ws)) { s1 with heap := h2, toks := s1.toks } :=
    d_write I1 (by rw [h1d]; trivial) hs2 (let ⟨q, _, _, hq, _⟩ := hd2; ⟨q, hq⟩) (dk_new lo sd rv hd2)
  have hn2 := I2.hok.fresh (Nat.le_refl h2.objs.size)
  have I3 : L2.Inv X pins σ (upd (upd H1 d (.dK ws)) h2.objs.size (.dK [])) { s1 with heap := h2.push ({ cls := .type "dict", data := .dict #[] } : Obj), toks := s1.toks } :=
    I2.laid (t' := s1.toks) (fun _ _ q => Heap.get?_push_of_some _ q) (Nat.le_refl _) (dk_empty h2 I2.big)
  have q2 := q1 _ hn2
  show wpAny _ _ (do let kv ← eval b X.env; let vv ← holding [kv] (do let x ← eval c X.env; standAt pos; pure x); return (kv, vv) :: (← holding [kv, vv] (evalPairs []))) _ _ _
  refine wpAny_bind (thn (hb.run pins _ σ _ _ I3 q2) fun kv s2 ⟨y, H2, I4, ry, q3⟩ => ?_)
  refine wpAny_bind (wpAny_holding (wpAny_bind (thn (hc.run pins _ σ _ _ I4 q3) fun vv s3 ⟨z, H3, I5, rz, k, ey, h3d, h3e, hne, q4⟩ => ?_)))
  refine wpAny_bind (wpAny_standAt (wpAny_pure ?_))
  subst ey
  refine wpAny_bind (wpAny_holding (wpAny_pure (wpAny_pure ?_)))
  obtain ⟨_, se, vs1, r1, de⟩ := dk_of I5.hok h3e
  cases r1
  obtain ⟨l3, _, vs3, rv3, dd3⟩ := dk_of I5.hok h3d
  refine ⟨k, kv, vv, vs3, rfl, kv_is _ _ ry, de, dd3, by rw [← rv3.length]; exact hsz, hne, se, fun h3 h4 tk hs3 hde3 hs4 hd4 => ?_⟩
  have I6 : L2.Inv X pins σ (upd H3 h2.objs.size (.dK [(k, z)])) { s3 with heap := h3, toks := s3.toks } :=
    d_write I5 (by rw [h3e]; trivial) hs3 (let ⟨q, _, _, hq, _⟩ := hde3; ⟨q, hq⟩) (dk_new (by show 1 ≤ sizeLine; rw [sizeLine_eq]; omega) se (.cons ⟨rfl, rz⟩ .nil) hde3)
  have e6 : (upd H3 h2.objs.size (.dK [(k, z)])) d = some (.dK ws) := by rw [upd_ne hne]; exact h3d
  have lp : (putK ws k z).length ≤ sizeLine := by
    have r := rv3.put k rz
    have e1 := r.length
    have e2 := rv3.length
    unfold putK
    split
    · rw [List.length_map]; omega
    · rw [List.length_append]; simp; omega
  have I7 : L2.Inv X pins σ (upd (upd H3 h2.objs.size (.dK [(k, z)])) d (.dK (putK ws k z))) { s3 with heap := h4, toks := tk } :=
    d_write (s := { s3 with heap := h3, toks := s3.toks }) I6 (by rw [e6]; trivial) hs4 (let ⟨q, _, _, hq, _⟩ := hd4; ⟨q, hq⟩) (dk_new lp sd (rv3.put k rz) hd4)
  exact ⟨.ref d, _, I7, rfl, q4⟩
theorem dkvs_of {st s' : Sto} {o : PV} {kvs : List (PV × PV)} (e0 : dkvsM o st = .ok kvs s') : ∃ l, o = .loc l ∧ st.get l = some (.dic kvs) ∧ kvs.length < 16777216 ∧ s' = st := by
  cases o <;> first | (cases e0; done) | skip
  rename_i l
  have e0 : (match st.dicAt l with
    | some kvs => if kvs.length < 16777216 then R.ok kvs st else .err
    | none => .err) = .ok kvs s' := e0
  cases e : st.dicAt l with
  | none => rw [e] at e0; cases e0
  | some ks =>
    rw [e] at e0
    by_cases h : ks.length < 16777216
    · simp only [h, if_true] at e0
      cases e0
      exact ⟨l, rfl, dicAt_get e, h, rfl⟩
    · simp only [h, if_false] at e0
      cases e0
theorem r_dspread (ha : PE X a (rd X.K f)) (hb : PE X b (rd X.K g)) (hc : PE X c (rd X.K h)) :
    PE X (.Dict [none, some b] [a, c] pos) (rd X.K fun r => M.bind (f r) fun x => M.bind (dkvsM x) fun kvs => M.bind (g r) fun y => M.bind (h r) fun z => dmkM kvs y z) := by
  refine PE.conseq (pe_dspread ha hb hc) fun σ H Q q d hd => ?_
  obtain ⟨m, r, st, E, S1, F⟩ := q
  have no1 : ¬ Own m st d := fun z => by
    obtain ⟨ho, e, _⟩ := S1.own z
    rw [hd] at e; cases e
  have t0 := Step.tup S1 hd (.dK [])
  have S1' := S1.tup hd (.dK [])
  have E0 := E.step S1 t0
  refine ⟨m, r, st, E0, S1', ?_⟩
  have F : FinG X.K (Rep X.K) m st H ((f r).bind (fun x => M.bind (dkvsM x) fun kvs => M.bind (g r) fun y => M.bind (h r) fun z => dmkM kvs y z) st) Q := F
  cases ef : f r st with
  | err => unfold M.bind at F; rw [ef] at F; exact F.elim
  | ok o st1 =>
    intro x H1 m1 t1 S2 ro
    have F : FinG X.K (Rep X.K) m st H ((dkvsM o).bind (fun kvs => M.bind (g r) fun y => M.bind (h r) fun z => dmkM kvs y z) st1) Q := by
      unfold M.bind at F
      rw [ef] at F
      exact F
    obtain ⟨kvs, s', ek, F2⟩ := fin_bind2 F
    clear F
    obtain ⟨l, rfl, hg, hlen, rfl⟩ := dkvs_of ek
    cases ro
    obtain ⟨_, ws, hx, tr⟩ := S2.ob l _ hg
    obtain ⟨k1, n1⟩ := t1.keepDK upd_same no1
    have ne1 : d ≠ m1 l := fun z => n1 ⟨l, _, hg, rfl, z.symm⟩
    refine ⟨m1 l, ws, rfl, ne1, k1, hx, by rw [dreps_len tr, sizeLine_eq]; omega, fun d2 hd2 => ?_⟩
    have S2' : SRep X.K m1 (upd H1 d (.dK ws)) s' := S2.overD k1 n1
    have E1 := (E0.step S1' t1).stp (stp_dK (w := .dK ws) k1)
    have T1 : Step m st H m1 s' (upd H1 d (.dK ws)) := (t0.trans t1).overD hd
    have no2 : ¬ Own m1 s' d2 := fun z => by
      obtain ⟨ho, e, _⟩ := S2'.own z
      rw [hd2] at e; cases e
    have hne : d ≠ d2 := fun z => by
      rw [← z, upd_same] at hd2; cases hd2
    have t2 := Step.tup S2' hd2 (.dK [])
    have S2'' := S2'.tup hd2 (.dK [])
    have E2 := E1.step S2' t2
    have a1 : (upd (upd H1 d (.dK ws)) d2 (.dK [])) d = some (.dK ws) := by rw [upd_ne hne, upd_same]
    refine ⟨m1, r, s', E2, S2'', ?_⟩
    cases eg : g r s' with
    | err => unfold M.bind at F2; rw [eg] at F2; exact F2.elim
    | ok k st2 =>
      intro y H2 m2 t3 S3 rk
      have F : FinG X.K (Rep X.K) m st H ((h r).bind (fun z => dmkM kvs k z) st2) Q := by
        unfold M.bind at F2
        rw [eg] at F2
        exact F2
      obtain ⟨b1, b2⟩ := t3.keepDK a1 n1
      obtain ⟨c1, c2⟩ := t3.keepDK upd_same no2
      refine ⟨m2, r, st2, E2.step S2'' t3, S3, ?_⟩
      cases eh : h r st2 with
      | err => unfold M.bind at F; rw [eh] at F; exact F.elim
      | ok w st3 =>
        intro z H3 m3 t4 S4 rz
        have F : FinG X.K (Rep X.K) m st H (dmkM kvs k w st3) Q := by
          unfold M.bind at F
          rw [eh] at F
          exact F
        obtain ⟨b3, b4⟩ := t4.keepDK b1 b2
        obtain ⟨c3, c4⟩ := t4.keepDK c1 c2
        unfold dmkM at F
        by_cases hk : keyOk k = true
        · rw [if_pos hk] at F
          have F : ∀ (v : V) (H' : Hp) (m' : Pl), Step m st H m' (st3.new (.dic (dstore k w kvs))) H' → SRep X.K m' H' (st3.new (.dic (dstore k w kvs))) → Rep X.K m' (st3.new (.dic (dstore k w kvs))).nxt H' v (.loc st3.nxt) → Q v H' := F
          obtain ⟨kk, hky, rfl⟩ := ky_of rk hk
          have p1 : Stp m1 s'.nxt H1 m1 s'.nxt (upd H1 d (.dK ws)) := stp_dK k1
          have p3 := ((p1.trans (t2.stp S2')).trans (t3.stp S2'')).trans (t4.stp S3)
          have tr3 : DReps X.K m3 st3.nxt H3 ws kvs := tr.mv fun p v r => Rep.stp p3 p v r
          refine ⟨kk, rfl, b3, c3, hne, ?_⟩
          have d1 : (upd H3 d2 (.dK [(kk, z)])) d = some (.dK ws) := by rw [upd_ne hne]; exact b3
          have p4 : Stp m3 st3.nxt H3 m3 st3.nxt (upd H3 d2 (.dK [(kk, z)])) := stp_dK c3
          have p5 : Stp m3 st3.nxt (upd H3 d2 (.dK [(kk, z)])) m3 st3.nxt (upd (upd H3 d2 (.dK [(kk, z)])) d (.dK (putK ws kk z))) := stp_dK d1
          have p6 := p4.trans p5
          have S5 : SRep X.K m3 (upd H3 d2 (.dK [(kk, z)])) st3 := S4.overD c3 c4
          have S6 : SRep X.K m3 (upd (upd H3 d2 (.dK [(kk, z)])) d (.dK (putK ws kk z))) st3 := S5.overD d1 b4
          have tr6 : DReps X.K m3 st3.nxt (upd (upd H3 d2 (.dK [(kk, z)])) d (.dK (putK ws kk z))) (putK ws kk z) (dstore k w kvs) :=
            dreps_put hky (Rep.stp p6 _ _ rz) (tr3.mv fun p v r => Rep.stp p6 p v r)
          have T2 : Step m1 s' (upd H1 d (.dK ws)) m3 st3 (upd H3 d2 (.dK [(kk, z)])) := ((t2.trans t3).trans t4).overD hd2
          have T3 : Step m st H m3 st3 (upd (upd H3 d2 (.dK [(kk, z)])) d (.dK (putK ws kk z))) := (T1.trans T2).overD hd
          have rl := Rep.loc (K := X.K) (m := plNew m3 st3.nxt d) (n := (st3.new (.dic (dstore k w kvs))).nxt) (H := upd (upd H3 d2 (.dK [(kk, z)])) d (.dK (putK ws kk z))) (l := st3.nxt) (Nat.lt_succ_self _)
          rw [plNew_new] at rl
          exact F (.ref d) _ _ (T3.adoptX S6 hd) (S6.adoptD upd_same b4 tr6) rl
        · rw [if_neg hk] at F
          exact F.elim
end
end Dp


set_option Elab.async false
set_option linter.all false
set_option maxRecDepth 100000
set_option maxHeartbeats 4000000
set_option autoImplicit false
/-! DpKey: sorted by the key (len(word), word). -/
namespace Dp
open PySem L2 PySem.Spec PyProof.Rows
/-- a def whose body is: return (len(x), x) -/
structure KeyFn (K : PySem.W.Frag) (mg : Str → Option Value) (f : Addr) : Prop where
  ex : ∃ (fd : FuncData) (x qual : Str) (args : Arguments) (sc : Scope) (x0 : Str) (p1 p2 p3 p4 p5 p6 : Pos) (cx : Nat) (oc : Value) (od : Option Addr) (dV kV doc pm : Value) (an : Option Addr) (cdv ct : Value) (osl : Array (Option Value)),
    fd = PySem.W.fnOf x qual args [.Return (some (.Tuple [.Call (.Name "len" p1) [.Name x0 p2] [] p3, .Name x0 p4] cx p5)) p6] sc dV kV doc pm an cdv ct ∧
    K.lookup f = some ⟨oc, od, .func fd, osl⟩ ∧ PySem.W.codeIn K cdv qual = true ∧ Binds K fd [x0] [] ∧ sc.kind = .function ∧ sc.isCoroutine = false ∧ sc.isGenerator = false ∧
    sc.names.lookup x0 = some .local ∧ sc.names.lookup ("len" : Str) = some .globalImplicit ∧ (x0 == ("__debug__" : Str)) = false
  len : mg "len" = none
theorem reads_ints {h : Heap} : ∀ {its : List Value} {ns : List Int}, IntsAre its ns → ReadsAll h its (ns.map PyData.int) []
  | _, _, .nil => .nil
  | _, _, .cons n t r => by
    have := ReadsAll.cons (Reads.int n t) (reads_ints (h := h) r)
    exact this
section
variable {P : Program} {w : World} {K : PySem.W.Frag} {mg mb : Str → Option Value} {A : Around} {fa : Addr} {s : Shared}
/-- such a def's call, by hand -/
theorem key_turn (F : KeyFn K mg fa) (KX : K.In s.heap) (G : s.heap.Ns mainGlobals mg) (Bt : s.heap.Ns builtinsNs mb) (hb : mb "len" = some (.builtin "len")) (lim : s.heap.NoLimit) (hr : A.depth < recursionLimit)
    {a : Addr} {o : Obj} {its : List Value} {ns : List Int} {n : Nat} (ho : s.heap.get? a = some o) (hc : o.cls = .type "tuple") (hd : o.data = .seq its.toArray n) (hi : IntsAre its ns) (hl : its.length ≤ sizeLine) :
    wpAny (model P w) A (call (.ref fa) [.ref a]) (PySem.W.KeyPure (.tuple [.int ns.length, .tuple (ns.map .int)]) s) (fun _ _ => False) s := by
  obtain ⟨fd, x, qual, args, sc, x0, p1, p2, p3, p4, p5, p6, cx, oc, od, dV, kV, doc, pm, an, cdv, ct, osl, rfl, lk, hcd, bd, k1, k2, k3, l0, l1, d0⟩ := F.ex
  have hlen := hi.length
  have bd1 : BindsTo s _ ⟨[.ref a], []⟩ ([x0].zip ([.ref a] ++ [])) := bd s [.ref a] KX rfl
  refine wpAny_call (codeAny_mono (Att.call_fn (R := fun r s' => match r with | .ok (.ret u) => PySem.W.KeyPure (.tuple [.int ns.length, .tuple (ns.map .int)]) s u s' | _ => False) KX lim lk hcd hr bd1 ?_ (fun s₁ xc => ?_) k2 k3 k1) fun r s' hq => ?_)
  · show ([(x0, Value.ref a)].all fun y => sc.names.lookup y.1 == some .local || sc.names.lookup y.1 == some .cell) = true
    simp [l0]
  · obtain ⟨h1, tk, rfl, kp⟩ := xc.done
    have nsL : h1.Ns s.heap.objs.size (bindL (envOfC qual sc s.heap.objs.size fa cdv).kindOf ([x0].zip ([Value.ref a] ++ [])) fun _ => none) := xc.toInCall.ns
    have ev0 : ∀ (p : Pos) (t : Nat) (Q : Value → Shared → Prop) (E : Value → Shared → Prop), Q (.ref a) { s with heap := h1, toks := t } → wpAny (model P w) (A.deeper (envOfC qual sc s.heap.objs.size fa cdv)) (eval (.Name x0 p) (envOfC qual sc s.heap.objs.size fa cdv)) Q E { s with heap := h1, toks := t } := by
      intro p t Q E q
      refine wpAny_Name (wpAny_loadName_local (s := { s with heap := h1, toks := t }) (m := bindL (envOfC qual sc s.heap.objs.size fa cdv).kindOf ([x0].zip ([Value.ref a] ++ [])) fun _ => none) k1 l0 nsL ?_ q) d0
      show (if (envOfC qual sc s.heap.objs.size fa cdv).kindOf x0 = some .local then fun y => if y = x0 then some (Value.ref a) else none else fun _ => none) x0 = _
      rw [if_pos (show (envOfC qual sc s.heap.objs.size fa cdv).kindOf x0 = some .local from l0)]
      simp
    refine wpAny_execs_cons (wpAny_Return_some (wpAny_Tuple_spliced (spliced_more ?_)))
    refine wpAny_Call_Name_kw ?_
    refine Calls.Name_function_global k1 l1 (Calls.loadGlobal_builtin (mg := mg) (mb := mb) (G.keeps kp) F.len (Bt.keeps kp) hb ?_)
    refine PyProof.Rows.callWith_builtin1 (spliced_more (ev0 _ _ _ _ (spliced_none ?_)))
    refine len_tuple (t := a) (items := its.toArray) ?_ ?_ ?_
    · exact ⟨o, kp _ _ ho, hc, n, hd⟩
    · rw [List.size_toArray]
      have : sizeLine = 16777216 := sizeLine_eq
      omega
    · refine spliced_more (ev0 _ _ _ _ (spliced_none ⟨?_, ?_⟩))
      · show 2 ≤ sizeLine
        rw [sizeLine_eq]; decide
      · refine ⟨_, _, rfl, fun b o' e => Heap.get?_push_of_some _ (kp b o' e), ?_⟩
        refine Reads.tuple (o := { cls := .type "tuple", data := .seq ([_, _] : List Value).toArray }) (xs := [.int ns.length, .tuple (ns.map .int)]) (as := []) (Heap.get?_push_size _ rfl) rfl rfl ?_
        have r1 : Reads (h1.push { cls := .type "tuple", data := .seq ([Value.int (its.toArray.size : Nat) (tk + 1), Value.ref a] : List Value).toArray }) (.ref a) (.tuple (ns.map .int)) [] := Reads.tuple (Heap.get?_push_of_some _ (kp _ _ ho)) hc hd (reads_ints hi)
        have e : (its.toArray.size : Int) = (ns.length : Int) := by rw [List.size_toArray, hlen]
        rw [← e]
        exact ReadsAll.cons (Reads.int _ _) (ReadsAll.cons r1 ReadsAll.nil)
  · cases r with
    | error e => exact hq
    | ok fl => cases fl <;> first | exact hq | exact False.elim hq
end
/-! ### the order of the keys -/
theorem listLtK : ∀ v u : List Nat, PySem.W.listLt (niK v) (niK u) = lexK v u
  | [], [] => rfl
  | [], _ :: _ => rfl
  | _ :: _, [] => rfl
  | x :: v, y :: u => by
    show (if (x : Int) = (y : Int) then PySem.W.listLt (niK v) (niK u) else decide ((x : Int) < (y : Int))) = _
    rw [lexK, listLtK v u]
    by_cases h : x = y
    · rw [if_pos h, if_pos (by omega)]
    · rw [if_neg h, if_neg (by omega)]
      exact decide_eq_decide.mpr (by omega)
theorem toksK (v u : List Nat) : PyProof.Rows.lexLt PyProof.Rows.itemOrd (PySem.W.keyToksAll ((niK v).map PySem.PyData.int)) (PySem.W.keyToksAll ((niK u).map PySem.PyData.int)) = lexK v u := by
  rw [← listLtK]
  exact PySem.W.lexAll_map (α := Int) (niK v) (niK u)
theorem alikeK : ∀ v u : List Nat, PySem.W.alikeAll ((niK v).map PySem.PyData.int) ((niK u).map PySem.PyData.int) = true := fun v u => PySem.W.alikeAll_map (α := Int) (niK v) (niK u)
theorem eqvK : ∀ v u : List Nat, PySem.PyData.eqvAll ((niK v).map PySem.PyData.int) ((niK u).map PySem.PyData.int) = decide (v = u)
  | [], [] => by simp [niK, PySem.PyData.eqvAll]
  | [], _ :: _ => by simp [niK, PySem.PyData.eqvAll]
  | _ :: _, [] => by simp [niK, PySem.PyData.eqvAll]
  | x :: v, y :: u => by
    have ih := eqvK v u
    have e1 : (niK (x :: v)).map PySem.PyData.int = PySem.PyData.int x :: (niK v).map PySem.PyData.int := rfl
    have e2 : (niK (y :: u)).map PySem.PyData.int = PySem.PyData.int y :: (niK u).map PySem.PyData.int := rfl
    rw [e1, e2, PySem.W.eqv_all_cons, ih, Bool.eq_iff_iff]
    simp [PySem.PyData.eqv]
    omega
def keyD (v : List Nat) : PyData := .tuple [.int (niK v).length, .tuple ((niK v).map .int)]
theorem niK_len (v : List Nat) : (niK v).length = v.length := by unfold niK; rw [List.length_map]
theorem lexK_self : ∀ v : List Nat, lexK v v = false
  | [] => rfl
  | x :: v => by rw [lexK, if_pos rfl, lexK_self v]
theorem lt_keyD (v u : List Nat) : PySem.W.dataLt (keyD v) (keyD u) = ltW v u := by
  unfold keyD ltW
  rw [niK_len, niK_len, PySem.W.dataLt_tuple]
  have al : PySem.W.alike (.int (v.length : Nat)) (.int (u.length : Nat)) = true := by simp [PySem.W.alike]
  by_cases hl : v.length = u.length
  · rw [PySem.W.dataLt_all_yes al (by simp [PySem.PyData.eqv, hl]), decide_eq_false (by omega), decide_eq_true hl, Bool.false_or, Bool.true_and]
    have al2 : PySem.W.alike (.tuple ((niK v).map PySem.PyData.int)) (.tuple ((niK u).map PySem.PyData.int)) = true := by rw [PySem.W.alike]; exact alikeK v u
    by_cases e : v = u
    · rw [PySem.W.dataLt_all_yes al2 (by rw [PySem.PyData.eqv, eqvK]; exact decide_eq_true e), e, lexK_self]
      exact PyProof.Rows.lex_irrefl _
    · rw [PySem.W.dataLt_all_no al2 (by rw [PySem.PyData.eqv, eqvK]; exact decide_eq_false e), PySem.W.dataLt_tuple, toksK]
  · rw [PySem.W.dataLt_all_no al (by simp [PySem.PyData.eqv]; omega), PySem.W.dataLt_int, decide_eq_false hl, Bool.false_and, Bool.or_false]
    exact decide_eq_decide.mpr (by omega)
theorem le_keyD : PySem.W.dataLe false keyD = leW := by
  funext v u
  rw [PySem.W.dataLe_eq]
  show (!PySem.W.dataLt (keyD u) (keyD v)) = _
  rw [lt_keyD]
  rfl
theorem totW : PySem.W.TotalLe leW := le_keyD ▸ PySem.W.sortLe_total _ false _
theorem insW_mem {w v : List Nat} : ∀ {r : List (List Nat)}, v ∈ insW w r → v = w ∨ v ∈ r
  | [], h => .inl (List.mem_singleton.mp h)
  | x :: r, h => by
    unfold insW at h
    split at h
    · exact List.mem_cons.mp h
    · rcases List.mem_cons.mp h with e | h
      · exact .inr (e ▸ List.mem_cons_self)
      · exact (insW_mem h).imp id (List.mem_cons_of_mem _)
theorem insW_asc {w : List Nat} : ∀ {r : List (List Nat)}, r.Pairwise (fun a b => leW a b = true) → (insW w r).Pairwise fun a b => leW a b = true
  | [], _ => List.pairwise_singleton _ _
  | x :: r, h => by
    obtain ⟨h1, h2⟩ := List.pairwise_cons.mp h
    unfold insW
    by_cases c : leW w x = true
    · rw [if_pos c]
      refine List.pairwise_cons.mpr ⟨fun y hy => ?_, h⟩
      rcases List.mem_cons.mp hy with rfl | hy
      · exact c
      · exact totW.trans _ _ _ c (h1 y hy)
    · rw [if_neg c]
      refine List.pairwise_cons.mpr ⟨fun y hy => ?_, insW_asc h2⟩
      rcases insW_mem hy with rfl | hy
      · exact (totW.total _ _).resolve_left c
      · exact h1 y hy
theorem srtW_asc : ∀ r : List (List Nat), (srtW r).Pairwise fun a b => leW a b = true
  | [] => List.Pairwise.nil
  | w :: r => insW_asc (srtW_asc r)
theorem insW_filter (c w : List Nat) : ∀ r : List (List Nat), (insW w r).filter (PySem.W.sameRank leW c) = (w :: r).filter (PySem.W.sameRank leW c)
  | [] => rfl
  | x :: r => by
    unfold insW
    by_cases h : leW w x = true
    · rw [if_pos h]
    · rw [if_neg h, List.filter_cons, insW_filter c w r]
      by_cases hx : PySem.W.sameRank leW c x = true
      · have hw : ¬ PySem.W.sameRank leW c w = true := by
          intro hw
          unfold PySem.W.sameRank at hx hw
          rw [Bool.and_eq_true] at hx hw
          refine h ?_
          first | exact totW.trans _ _ _ hw.2 hx.1 | exact totW.trans _ _ _ hw.1 hx.2
        rw [List.filter_cons_of_neg hw, List.filter_cons_of_neg hw, if_pos hx, List.filter_cons_of_pos hx]
      · rw [if_neg hx]
        by_cases hw : PySem.W.sameRank leW c w = true
        · rw [List.filter_cons_of_pos hw, List.filter_cons_of_pos hw, List.filter_cons_of_neg hx]
        · rw [List.filter_cons_of_neg hw, List.filter_cons_of_neg hw, List.filter_cons_of_neg hx]
theorem srtW_filter (c : List Nat) : ∀ r : List (List Nat), (srtW r).filter (PySem.W.sameRank leW c) = r.filter (PySem.W.sameRank leW c)
  | [] => rfl
  | w :: r => by
    show (insW w (srtW r)).filter _ = _
    rw [insW_filter, List.filter_cons, List.filter_cons, srtW_filter c r]
theorem srtW_eq (r : List (List Nat)) : r.mergeSort (PySem.W.dataLe false keyD) = srtW r := by
  rw [le_keyD]
  exact (PySem.W.sort_unique totW (srtW_asc r) fun c => srtW_filter c r).symm
/-! ### the rule -/
def rSrtK (K : PySem.W.Frag) (fa : Addr) : List V → List V → Hp → VK → Prop := fun vs zs H Q => ∃ (l : Addr) (ts : List Addr) (ws : List (List Nat)), vs = [V.ref l] ∧ zs = [V.ref fa] ∧ SqL K H l (ts.map V.ref) ∧
  PySem.W.EachIs (fun t w => SqD K H t ((niK w).map V.int)) ts ws ∧ ∀ (out : List Addr) (p : Addr), PySem.W.EachIs (fun t w => SqD K H t ((niK w).map V.int)) out (srtW ws) → H p = none → Q (.ref p) (upd H p (.lst (out.map V.ref)))
theorem vals_refs : ∀ {ts : List Addr} {us : List Value}, Vals (ts.map V.ref) us → us = ts.map Value.ref
  | [], _, h => by cases h; rfl
  | t :: ts, _, h => by
    cases h with
    | cons r rs =>
      cases r
      rw [vals_refs rs]
      rfl
theorem refs_vals : ∀ ts : List Addr, Vals (ts.map V.ref) (ts.map Value.ref)
  | [] => .nil
  | t :: ts => .cons rfl (refs_vals ts)
theorem each_map {α β γ : Type} {R : α → β → Prop} {f : γ → α} : ∀ {cs : List γ} {bs : List β}, PySem.W.EachIs (fun c b => R (f c) b) cs bs → PySem.W.EachIs R (cs.map f) bs
  | _, _, .nil => .nil
  | _, _, .cons h t => .cons h (each_map t)
theorem each_ref {R : Addr → List Nat → Prop} : ∀ {vs : List Value} {bs : List (List Nat)}, PySem.W.EachIs (fun v b => ∃ a, v = .ref a ∧ R a b) vs bs → ∃ as : List Addr, vs = as.map Value.ref ∧ PySem.W.EachIs R as bs
  | _, _, .nil => ⟨[], rfl, .nil⟩
  | _, _, .cons ⟨a, e, h⟩ t => by
    obtain ⟨as, e2, h2⟩ := each_ref t
    exact ⟨a :: as, by rw [e, e2]; rfl, .cons h h2⟩
theorem cr_sortKey {X : Cx} {fa : Addr} (F : KeyFn X.K X.mg fa) (hu : X.A.units + 64 < cLine) (hr : X.A.depth < recursionLimit) : CallRK X (.builtin "sorted") [Str.ofString "key"] (rSrtK X.K fa) := by
  intro pins s σ H vs zs us ws0 Q I r rz h
  obtain ⟨l, ts, ws, rfl, rfl, hs, hw, q⟩ := h
  obtain rfl := Vals.ref1 r
  obtain ⟨w1, rfl, e1⟩ := vals1 rz
  obtain rfl : w1 = Value.ref fa := e1
  obtain ⟨its, rv, hl, hz⟩ := I.list hs
  obtain rfl := vals_refs rv
  have wl := hw.length
  rw [List.length_map] at hz
  obtain ⟨mb, b1, b2⟩ := I.mod.blt
  refine PySem.W.sorted_key_data (b := false) (bs := ws) (R := fun v w => ∃ a, v = .ref a ∧ SqD X.K H a ((niK w).map V.int)) keyD hl.isList (each_map (R := fun v w => ∃ a, v = .ref a ∧ SqD X.K H a ((niK w).map V.int)) (f := Value.ref) (by
      clear q hs rv hl hz wl r rz
      induction hw with
      | nil => exact .nil
      | cons h t ih => exact .cons ⟨_, rfl, h⟩ ih)) (PySem.W.AllAlike.of fun v u => by unfold keyD; simp only [PySem.W.alike, PySem.W.alikeAll, alikeK, Bool.and_self]) (PySem.W.Sortable.tuples fun v => ⟨_, _, rfl⟩) (by rw [← wl]; exact hz) (fun v _ => ?_)
    (PyProof.Rows.ksk_s1 _ _) (fun _ => PyProof.Rows.ksk_l1 _ _) (fun _ => PyProof.Rows.ksk_t1 _ _) (fun v w hv _ h tk kp => ?_) fun out c h' tk kp _ hD hlo eo => ?_
  · have hd : (keyD v).depth ≤ 2 := by
      unfold keyD
      have : ∀ l : List Int, PyData.depthAll (l.map PyData.int) = 0 := by
        intro l
        induction l with
        | nil => simp [PyData.depthAll]
        | cons a l ih => simp [PyData.depthAll, PyData.depth, ih]
      simp [PyData.depth, PyData.depthAll, this]
    omega
  · obtain ⟨a, rfl, ht⟩ := hv
    obtain ⟨its, r', ⟨o, e1, e2, n, e3⟩, hz'⟩ := I.tuple ht.sq
    have hi := Vals.ints r'
    have hil := hi.length
    exact key_turn (P := X.prog) (w := X.w) (A := X.A.in1.in1) (s := { s with heap := h, toks := tk }) F (I.mod.kin.keeps fun b o e => kp b o (I.bk b o e)) (I.mod.glob.keeps fun b o e => kp b o (I.bk b o e)) (b1.keeps fun b o e => kp b o (I.bk b o e)) ((b2 "len" (by decide)).trans (by rfl)) (I.mod.nolimit.keeps fun b o e => kp b o (I.bk b o e)) hr (kp _ _ e1) e2 e3 hi (by rw [hil]; rw [List.length_map] at hz'; exact hz')
  · obtain ⟨as, rfl, ea⟩ := each_ref eo
    rw [srtW_eq] at ea
    have hlen : (as.map V.ref).length ≤ sizeLine := by
      rw [List.length_map] at hlo ⊢
      rw [hlo, ← wl]
      exact hz
    exact ⟨.ref _, upd H (s.heap.objs.size + 1) (.lst (as.map V.ref)), I.laid (t' := tk) kp (Nat.le_succ _) ⟨hlen, _, c, refs_vals as, hD⟩, rfl, q _ _ ea (I.hok.fresh (Nat.le_succ _))⟩
/-! ### the reading -/
section
variable {K : PySem.W.Frag} {m : Pl} {n : Nat} {H : Hp}
theorem natsP_rep : ∀ {xs : List PV} {v : List Nat} {vs : List V}, natsP xs = some v → Reps K m n H vs xs → vs = (niK v).map V.int
  | [], v, vs, e, r => by
    cases e
    cases r
    rfl
  | .int i :: xs, v, vs, e, r => by
    unfold natsP at e
    by_cases h : 0 ≤ i
    · rw [if_pos h] at e
      cases e2 : natsP xs with
      | none => rw [e2] at e; cases e
      | some u =>
        rw [e2] at e
        cases e
        cases r with
        | cons h1 h2 =>
          cases h1
          rw [natsP_rep e2 h2]
          show _ = V.int ((i.toNat : Nat) : Int) :: _
          rw [Int.toNat_of_nonneg h]
          rfl
    · rw [if_neg h] at e; cases e
  | .non :: _, _, _, e, _ => by cases e
  | .bl _ :: _, _, _, e, _ => by cases e
  | .str _ :: _, _, _, e, _ => by cases e
  | .tup _ :: _, _, _, e, _ => by cases e
  | .loc _ :: _, _, _, e, _ => by cases e
  | .lv _ :: _, _, _, e, _ => by cases e
  | .rp _ :: _, _, _, e, _ => by cases e
theorem wordsP_rep : ∀ {xs : List PV} {ws : List (List Nat)} {vs : List V}, wordsP xs = some ws → Reps K m n H vs xs → ∃ ts : List Addr, vs = ts.map V.ref ∧ PySem.W.EachIs (fun t w => SqD K H t ((niK w).map V.int)) ts ws
  | [], ws, vs, e, r => by
    cases e
    cases r
    exact ⟨[], rfl, .nil⟩
  | .tup ps :: xs, ws, vs, e, r => by
    unfold wordsP at e
    cases e1 : natsP ps with
    | none => rw [e1] at e; cases e
    | some v =>
      cases e2 : wordsP xs with
      | none => rw [e1, e2] at e; cases e
      | some us =>
        rw [e1, e2] at e
        cases e
        cases r with
        | cons h1 h2 =>
          cases h1 with
          | tup q1 q2 =>
            obtain ⟨ts, rfl, et⟩ := wordsP_rep e2 h2
            refine ⟨_ :: ts, rfl, .cons ?_ et⟩
            rw [← natsP_rep e1 q2]
            exact q1
  | .non :: _, _, _, e, _ => by cases e
  | .bl _ :: _, _, _, e, _ => by cases e
  | .str _ :: _, _, _, e, _ => by cases e
  | .int _ :: _, _, _, e, _ => by cases e
  | .loc _ :: _, _, _, e, _ => by cases e
  | .lv _ :: _, _, _, e, _ => by cases e
  | .rp _ :: _, _, _, e, _ => by cases e
theorem intsK_reps : ∀ l : List Int, Reps K m n H (l.map V.int) (l.map PV.int)
  | [] => .nil
  | i :: l => .cons (.int i) (intsK_reps l)
theorem out_reps : ∀ {ts : List Addr} {ws : List (List Nat)}, PySem.W.EachIs (fun t w => SqD K H t ((niK w).map V.int)) ts ws → Reps K m n H (ts.map V.ref) (ws.map fun w => PV.tup ((niK w).map PV.int))
  | _, _, .nil => .nil
  | _, _, .cons h t => .cons (.tup h (intsK_reps _)) (out_reps t)
end
section
variable {X : Cx} {a : Expr} {p p2 p3 pos : Pos} {f : Env → M PV}
theorem r_srtk {z : Str} {fa : Addr} (c0 : CxOk X) (ha : PE X a (rd X.K f)) (F : KeyFn X.K X.mg fa) (hz : Gl X z) (hzm : X.mg z = some (.ref fa)) (hzd : (z == ("__debug__" : Str)) = false) (hg : Gl X "sorted") (hm : X.mg "sorted" = none)
    (hs : starEach [a] X.env = (false, eval a X.env) :: starEach [] X.env) :
    PE X (.Call (.Name "sorted" p) [a] [⟨some "key", .Name z p2, p3⟩] pos) (rd X.K fun r => M.bind (f r) srtkM) := by
  have hu : X.A.units + 64 < cLine := by have := c0.un; omega
  have hr : X.A.depth < recursionLimit := by have := c0.dp; omega
  refine PE.conseq (pe_callBK (ks := [Str.ofString "key"]) (t := tCons (rd X.K f) tNil) (tk := tCons (tC (.ref fa)) tNil) (r := rSrtK X.K fa) (cr_sortKey F hu hr) hg hm rfl (pa_cons ha pa_nil hs) (pk_cons (pe_glob hz hzm rfl hzd) pk_nil) (he := by rw [hs]; rfl) (hpl := by rw [hs]; rfl)) fun σ H Q ⟨m, r, st, E, S, q⟩ => ?_
  refine ⟨m, r, st, E, S, FinG.seq (rel := Rep X.K) q fun v H1 m1 st1 p t S1 rp F1 => ?_⟩
  show rSrtK X.K fa [v] [V.ref fa] H1 Q
  cases p <;> first | exact False.elim F1 | skip
  case loc l =>
    cases rp
    have F1 : FinG X.K (Rep X.K) m1 st1 H1 (match st1.lstAt l with
      | some xs => (match wordsP xs with
        | some ws => newLst ((srtW ws).map fun w => .tup ((niK w).map PV.int)) st1
        | none => .err)
      | none => .err) Q := F1
    cases e0 : st1.lstAt l with
    | none => rw [e0] at F1; exact False.elim F1
    | some xs =>
      rw [e0] at F1
      cases e1 : wordsP xs with
      | none => simp only [e1] at F1; exact False.elim F1
      | some ws =>
        simp only [e1] at F1
        obtain ⟨hl, F1⟩ := newLst_fin F1
        obtain ⟨vs, h1, h2⟩ := S1.at e0
        obtain ⟨ts, rfl, et⟩ := wordsP_rep e1 h2
        exact ⟨_, ts, ws, rfl, rfl, h1, et, fun out pp eo hp => F1 _ _ S1 (out_reps eo) hp⟩
end
end Dp


set_option Elab.async false
set_option linter.all false
set_option maxRecDepth 100000
set_option maxHeartbeats 4000000
set_option autoImplicit false
/-! DpChk: an IR and an expression of the program: when they belong together, the expression reads as the IR runs. -/
namespace Dp
open PySem L2 PySem.Spec PyProof.Rows

structure Tab where
  fn : Str → Option Nat
  cs : Str → Option PV
  nn : Str → Bool
  kf : Nat → Bool
  kw : Nat → List Str → Option (List Nat)
  f2 : Str → Nat → Bool
  st : Str → Option (Nat × Nat)
/-- the name x is that of the def f -/
def fnB (T : Tab) (x : Str) (f : Nat) : Bool := decide (T.fn x = some f) || T.f2 x f
theorem fnB_of {T : Tab} {x : Str} {f : Nat} (h : T.fn x = some f) : fnB T x f = true := by unfold fnB; rw [decide_eq_true h]; rfl

/-! ### small checks -/
def visB (sc : Scope) (x : Str) : Bool := match sc.names.lookup x with
  | some .local => true
  | some .cell => true
  | some .free => true
  | _ => false
theorem visB_ok {sc : Scope} {x : Str} (h : visB sc x = true) : Vis sc x := by
  unfold visB at h
  split at h
  · exact .inl (by assumption)
  · exact .inr (.inl (by assumption))
  · exact .inr (.inr (by assumption))
  · cases h
def glB (sc : Scope) (x : Str) : Bool := match sc.names.lookup x with
  | some .globalImplicit => true
  | _ => false
theorem glB_ok {X : Cx} {x : Str} (h : glB X.env.scope x = true) : Gl X x := by
  unfold glB at h
  split at h
  · assumption
  · cases h
def notStar : Expr → Bool
  | .Starred .. => false
  | _ => true
theorem notStar_ok {X : Cx} {e : Expr} (h : notStar e = true) : NoStar X e := by
  cases e <;> first | cases h; done | (intro rest; rfl)
theorem notStarT_ok {X : Cx} {e : Expr} (h : notStar e = true) : NoStarT X e := by
  cases e <;> first | cases h; done | (intro rest; rfl)
def notSet : Expr → Bool
  | .Set .. => false
  | _ => true
theorem notSet_ok {e : Expr} (h : notSet e = true) (env : PySem.Env) (x : Value) : foldedSetIterable e env x = pure x := by
  cases e <;> first | cases h; done | rfl
def plainIx : Expr → Bool
  | .Slice .. => false
  | _ => true
theorem plainIx_ok {e : Expr} (h : plainIx e = true) : PlainIx e := by
  cases e <;> first | cases h; done | (intro o i; rfl)
theorem noSl_ok {e : Expr} (h : plainIx e = true) : NoSl e := by
  intro o i
  cases e <;> first | cases h; done | rfl
/-- no test of its own form but those that are told -/
def notIf : Expr → Bool
  | .IfExp .. => false
  | _ => true
def plainTest : Expr → Bool
  | .IfExp .. => false
  | .BoolOp .. => false
  | .Compare .. => false
  | .UnaryOp .Not _ _ => false
  | _ => true
theorem plainTest_ok {e : Expr} (h : plainTest e = true) (env : PySem.Env) (whole : Sem Value) : isTrue e env whole = (do let v ← whole; standAt e.pos; holding [v] (truthy v)) := by
  cases e <;> first | cases h; done | rfl | skip
  case UnaryOp op x p => cases op <;> first | cases h; done | rfl
def plainBase : Expr → Bool
  | .Name .. => true
  | .Constant .. => true
  | .Subscript .. => true
  | .Attribute .. => true
  | .BinOp .. => true
  | _ => false
theorem plainBase_ok {e : Expr} (h : plainBase e = true) (a : Str) (env : PySem.Env) (whole : Sem Value) : attributeBase e a env whole = whole := by
  cases e <;> first | cases h; done | rfl
def cstB : PV → Const → Bool
  | .non, .none => true
  | .bl b, .bool c => b == c
  | .int i, .int j => decide (i = j)
  | .str s, .str x => decide (x = S s) && s.all fun c => decide (c < 1114112)
  | _, _ => false
theorem cst_ok {X : Cx} {v : PV} {k : Const} {j : Nat} {pos : Pos} (h : cstB v k = true) : PE X (.Constant k j pos) (rd X.K fun _ => M.pure v) := by
  cases v <;> cases k <;> first | (cases h; done) | skip
  · exact r_const pe_non fun m n H => .non
  · have e := beq_iff_eq.mp h; subst e; exact r_const pe_bl fun m n H => .bl _
  · have e := of_decide_eq_true h; subst e; exact r_const pe_int fun m n H => .int _
  · rename_i s x
    unfold cstB at h
    rw [Bool.and_eq_true] at h
    have e := of_decide_eq_true h.1
    subst e
    exact r_const pe_str fun m n H => .str s fun c hc => of_decide_eq_true (List.all_eq_true.mp h.2 c hc)

/-! ### contexts -/
structure Core (X X' : Cx) : Prop where
  prog : X'.prog = X.prog
  w : X'.w = X.w
  K : X'.K = X.K
  mg : X'.mg = X.mg
  base : X'.base = X.base
  A : X'.A = X.A
  calm : X'.calm = X.calm
theorem Core.refl (X : Cx) : Core X X := ⟨rfl, rfl, rfl, rfl, rfl, rfl, rfl⟩
/-- a def called by keywords alone -/
def CallKR (X : Cx) (u : Value) (ks : List Str) (pm : List Nat) (t : List V → Hp → VK → Prop) : Prop :=
  ∀ (pins : List (Addr × Obj)) (s : Shared) (σ : L2.St) (H : Hp) (xs : List V) (us : List Value) (Q : VK), L2.Inv X pins σ H s → Vals xs us → t (pmG pm xs) H Q → wpAny (model X.prog X.w) X.A (call u [] (ks.zip us)) (EP X pins σ Q) X.xe s
structure XOk (T : Tab) (F : FT) (X : Cx) : Prop where
  nd : X.N.Nodup
  cx : CxOk X
  fns : ∀ x f, fnB T x f = true → ∃ fa, X.mg x = some (.ref fa) ∧ PySem.W.keepIn X.K (.ref fa) = true ∧ ∀ X', Core X X' → CallR X' (.ref fa) (rdL X'.K (F f))
  cs : ∀ x v, T.cs x = some v → ∃ u w, X.mg x = some u ∧ RelV w u ∧ ∀ m n H, Rep X.K m n H w v
  nn : ∀ x, T.nn x = true → X.mg x = none
  kf : ∀ x f, T.fn x = some f → T.kf f = true → ∃ fa, X.mg x = some (.ref fa) ∧ KeyFn X.K X.mg fa
  kw : ∀ x f ks pm, T.fn x = some f → T.kw f ks = some pm → ∃ fa, X.mg x = some (.ref fa) ∧ PySem.W.keepIn X.K (.ref fa) = true ∧ ∀ X', Core X X' → CallKR X' (.ref fa) ks pm (rdL X'.K (F f))
  st : ∀ x f n, T.st x = some (f, n) → ∃ fa, X.mg x = some (.ref fa) ∧ PySem.W.keepIn X.K (.ref fa) = true ∧ ∀ X', Core X X' → CallR X' (.ref fa) (rdL X'.K (starM (F f) n))
theorem XOk.blk {T : Tab} {F : FT} {X : Cx} (h : XOk T F X) (s : Shared) (H : Hp) (scope : Scope) (cenv : PySem.Env) (fp : List Addr) : XOk T F (X.blk s H scope cenv fp) :=
  ⟨h.nd, ⟨h.cx.un, h.cx.gd, h.cx.calm, h.cx.mg, h.cx.seer, h.cx.dp, h.cx.sm⟩, fun x f e => let ⟨fa, a, b, c⟩ := h.fns x f e; ⟨fa, a, b, fun X' k => c X' ⟨k.prog, k.w, k.K, k.mg, k.base, k.A, k.calm⟩⟩, h.cs, h.nn, h.kf, fun x f ks pm e e2 => let ⟨fa, a, b, c⟩ := h.kw x f ks pm e e2; ⟨fa, a, b, fun X' k => c X' ⟨k.prog, k.w, k.K, k.mg, k.base, k.A, k.calm⟩⟩, fun x f n e => let ⟨fa, a, b, c⟩ := h.st x f n e; ⟨fa, a, b, fun X' k => c X' ⟨k.prog, k.w, k.K, k.mg, k.base, k.A, k.calm⟩⟩⟩

/-! ### the check -/
section
variable (T : Tab) (N : List Str)
def slotB (sc : Scope) (i : Nat) (x : Str) : Bool := decide (N[i]? = some x) && visB sc x && !(x == ("__debug__" : Str)) && !(x == ("__classdict__" : Str))
mutual
def chkT (sc : Scope) (fb : Str → Bool) : IT → Expr → Bool
  | .nm i, .Name x _ => decide (N[i]? = some x) && (decide (sc.names.lookup x = some .local) || (decide (sc.names.lookup x = some .cell) && fb x))
  | .tp ts, .Tuple es _ _ => chkTs sc fb ts es && decide (es.length = itsLen ts)
  | _, _ => false
def chkTs (sc : Scope) (fb : Str → Bool) : ITs → List Expr → Bool
  | .nil, [] => true
  | .cons t ts, e :: es => notStar e && chkT sc fb t e && chkTs sc fb ts es
  | _, _ => false
end
def ownP (own : List Nat) : List (Str × Nat) := own.map fun i => (N.getD i "", i)
def ownFn (scope : Scope) : Str → Bool := fun x => scope.names.lookup x == some .cell
def isTup : Expr → Bool
  | .Tuple .. => true
  | _ => false
/-- names of the built-ins that are called -/
def nameB (sc : Scope) (x y : Str) : Bool := decide (x = y) && glB sc x && T.nn x
mutual
def chkE (sc : Scope) : IE → Expr → Bool
  | .var i, e => (match e with | .Name x _ => slotB N sc i x | _ => false)
  | .cst c, e => (match e with | .Constant k _ _ => cstB c k | _ => false)
  | .glob _ v, e => (match e with | .Name x _ => glB sc x && !(x == ("__debug__" : Str)) && (match T.cs x with | some w => sam w v | none => false) | _ => false)
  | .bin o a b, e => (match e with | .BinOp l op r _ => decide (opOf o = op) && chkE sc a l && chkE sc b r | _ => false)
  | .cmp o a b, e => (match e with | .Compare l [op] [r] _ => decide (copOf o = op) && !behindInMarks op r && chkE sc a l && chkE sc b r | _ => false)
  | .chain o o' a b c, e => (match e with | .Compare l [op, op'] [r, s] _ => decide (copOf o = op) && decide (copOf o' = op') && !lastMarks [op, op'] [r, s] && chkE sc a l && chkE sc b r && chkE sc c s | _ => false)
  | .neg a, e => (match e with | .UnaryOp .USub x _ => chkE sc a x | _ => false)
  | .not a, e => (match e with | .UnaryOp .Not x _ => notIf x && chkE sc a x | _ => false)
  | .and a b, e => (match e with
    | .BoolOp .And [x, y] _ => notIf x && chkE sc a x && notIf y && chkE sc b y
    | .BoolOp .And (x :: y :: z :: r) p => notIf x && chkE sc a x && chkE sc b (.BoolOp .And (y :: z :: r) p)
    | _ => false)
  | .or a b, e => (match e with
    | .BoolOp .Or [x, y] _ => notIf x && chkE sc a x && notIf y && chkE sc b y
    | .BoolOp .Or (x :: y :: z :: r) p => notIf x && chkE sc a x && chkE sc b (.BoolOp .Or (y :: z :: r) p)
    | _ => false)
  | .ifx c a b, e => (match e with | .IfExp t x y _ => notIf t && chkE sc c t && chkE sc a x && chkE sc b y | _ => false)
  | .tup es, e => (match e with | .Tuple xs _ _ => chkEs sc es xs | _ => false)
  | .lst es, e => (match e with | .List xs _ => chkEs sc es xs | _ => false)
  | .idx a b, e => (match e with | .Subscript x y _ => plainIx y && chkE sc a x && chkE sc b y | _ => false)
  | .sl a lo hi, e => (match e with | .Subscript x (.Slice l h none _) _ => chkE sc a x && chkO sc lo l && chkO sc hi h | _ => false)
  | .rev a, e => (match e with | .Subscript x (.Slice none none (some (.UnaryOp .USub (.Constant (.int 1) _ _) _)) _) _ => chkE sc a x | _ => false)
  | .call f es, e => (match e with | .Call (.Name x _) xs [] _ => glB sc x && fnB T x f && !(x == ("__debug__" : Str)) && chkEs sc es xs | _ => false)
  | .stk, e => plainTest e
  | .calls f n es, e => (match e with | .Call (.Name x _) xs [] _ => glB sc x && decide (T.st x = some (f, n)) && !(x == ("__debug__" : Str)) && chkEs sc es xs | _ => false)
  | .callk f pm es, e => (match e with
    | .Call (.Name x _) [] kws _ => !kws.isEmpty && decide ((kws.filterMap (·.arg)).length = kws.length) && glB sc x && decide (T.fn x = some f) && !(x == ("__debug__" : Str)) && decide (T.kw f (kws.filterMap (·.arg)) = some pm) && chkEs sc es (kws.map (·.value))
    | _ => false)
  | .bi b es, e => (match e with
    | .Call (.Name x _) xs [] _ => (match b, es, xs with
      | .isinst k, .cons a .nil, [y, .Name tn _] => nameB T sc x "isinstance" && decide (k ≤ 4) && notStar y && chkE sc a y && glB sc tn && T.nn tn && decide (bootBuiltins tn = some (.type (tyNm k))) && !(tn == ("__name__" : Str)) && !(tn == ("__debug__" : Str))
      | b, es, xs => (match fnOf b with
        | some u => glB sc x && T.nn x && decide (bootBuiltins x = some u) && !(x == ("__name__" : Str)) && !(x == ("__debug__" : Str)) && !xs.isEmpty && chkEs sc es xs
        | none => false))
    | _ => false)
  | .biC b c, e => (match e with
    | .Call (.Name x _) [y] [] _ => (match seqBi b with
      | some u => glB sc x && T.nn x && decide (bootBuiltins x = some u) && !(x == ("__name__" : Str)) && !(x == ("__debug__" : Str)) && chkC sc c y
      | none => false)
    | _ => false)
  | .mt m o es, e => (match e with
    | .Call (.Attribute x nm apos) xs [] pos => decide (nm = (mtNm m : Str)) && mtOk m && plainBase x && (apos.endLine == pos.line) && decide (xs.length < 30) && chkE sc o x && chkEs sc es xs
    | _ => false)
  | .joinC z c, e => (match e with
    | .Call (.Attribute x nm apos) [y] [] pos => decide (nm = ("join" : Str)) && plainBase x && (apos.endLine == pos.line) && chkE sc z x && chkC sc c y
    | _ => false)
  | .lc c, e => chkC sc c e
  | .dnew, e => (match e with | .Dict [] [] _ => true | _ => false)
  | .dget a b, e => (match e with | .Subscript x y _ => plainIx y && chkE sc a x && chkE sc b y | _ => false)
  | .dgetd a b c, e => (match e with
    | .Call (.Attribute x nm apos) [y, z] [] pos => decide (nm = ("get" : Str)) && plainBase x && (apos.endLine == pos.line) && notStar y && notStar z && chkE sc a x && chkE sc b y && chkE sc c z
    | _ => false)
  | .dget1 a b, e => (match e with
    | .Call (.Attribute x nm apos) [y] [] pos => decide (nm = ("get" : Str)) && plainBase x && (apos.endLine == pos.line) && notStar y && chkE sc a x && chkE sc b y
    | _ => false)
  | .dsetd a b c, e => (match e with
    | .Call (.Attribute x nm apos) [y, z] [] pos => decide (nm = ("setdefault" : Str)) && plainBase x && (apos.endLine == pos.line) && notStar y && notStar z && chkE sc a x && chkE sc b y && chkE sc c z
    | _ => false)
  | .tnew, e => (match e with | .Dict [] [] _ => true | _ => false)
  | .tgetd a b c, e => (match e with
    | .Call (.Attribute x nm apos) [y, z] [] pos => decide (nm = ("get" : Str)) && plainBase x && (apos.endLine == pos.line) && notStar y && notStar z && chkE sc a x && chkE sc b y && chkE sc c z
    | _ => false)
  | .dl0, e => (match e with | .Call (.Name x _) [.List [] _] [] _ => nameB T sc x "dict" | _ => false)
  | .srtk a f, e => (match e with | .Call (.Name x _) [y] [⟨some k, .Name z _, _⟩] _ => nameB T sc x "sorted" && decide (k = ("key" : Str)) && notStar y && chkE sc a y && glB sc z && decide (T.fn z = some f) && T.kf f && !(z == ("__debug__" : Str)) | _ => false)
  | .dspread a b c, e => (match e with | .Dict [none, some y] [x, z] _ => chkE sc a x && chkE sc b y && chkE sc c z | _ => false)
  | .tspread a b c, e => (match e with | .Dict [none, some y] [x, z] _ => chkE sc a x && chkE sc b y && chkE sc c z | _ => false)
  | .lrng a, e => (match e with | .Call (.Name x _) [.Call (.Name x2 _) [y] [] _] [] _ => nameB T sc x "list" && nameB T sc x2 "range" && notStar y && chkE sc a y | _ => false)
  | .trng a, e => (match e with | .Call (.Name x _) [.Call (.Name x2 _) [y] [] _] [] _ => nameB T sc x "tuple" && nameB T sc x2 "range" && notStar y && chkE sc a y | _ => false)
def chkEs (sc : Scope) : IEs → List Expr → Bool
  | .nil, es => es.isEmpty
  | .cons a as, es => (match es with | x :: xs => notStar x && chkE sc a x && chkEs sc as xs | [] => false)
def chkO (sc : Scope) : IO → Option Expr → Bool
  | .none, e => e.isNone
  | .some a, e => (match e with | some x => chkE sc a x | none => false)
/-- a clause's tests -/
def chkIf (sc : Scope) : IO → List Expr → Bool
  | .none, es => es.isEmpty
  | .some a, es => (match es with | [x] => notIf x && chkE sc a x | _ => false)
def chkI (sc : Scope) (tg : Expr) : II → Expr → Bool
  | .ex a, e => chkE sc a e
  | .rng es, e => (match e with | .Call (.Name x _) xs [] _ => nameB T sc x "range" && (decide (xs.length = 1) || decide (xs.length = 2) || decide (xs.length = 3)) && chkEs sc es xs | _ => false)
  | .en a, e => (match e with | .Call (.Name x _) [y] [] _ => nameB T sc x "enumerate" && isTup tg && notStar y && chkE sc a y | _ => false)
  | .zp b a a2, e => (match e with
    | .Call (.Name x _) [y, z] [] _ => nameB T sc x "zip" && isTup tg && !b && notStar y && notStar z && chkE sc a y && chkE sc a2 z
    | .Call (.Name x _) [y, z] [⟨some k, .Constant (.bool true) _ _, _⟩] _ => nameB T sc x "zip" && isTup tg && b && decide (k = ("strict" : Str)) && notStar y && notStar z && chkE sc a y && chkE sc a2 z
    | _ => false)
def chkC (sc : Scope) : IC → Expr → Bool
  | .one own elt t it c, e => (match e with
    | .ListComp x [⟨tg, iter, ifs, 0⟩] scope _ => blkC N sc scope (ownP N own) && (tsl t).all (fun i => own.contains i) && notSet iter && chkI sc tg it iter &&
        chkT N (relS scope sc) (ownFn scope) t tg && chkIf (relS scope sc) c ifs && chkE (relS scope sc) elt x
    | _ => false)
  | .two own own1 elt t it c t1 it1 c1, e => (match e with
    | .ListComp x [⟨tg, iter, ifs, 0⟩, ⟨tg1, iter1, ifs1, 0⟩] scope _ => blkC N sc scope (ownP N own) && (tsl t).all (fun i => own.contains i) && own1.all (fun i => own.contains i) && (tsl t1).all (fun i => own1.contains i) && notSet iter && notSet iter1 && chkI sc tg it iter &&
        chkT N (relS scope sc) (ownFn scope) t tg && chkIf (relS scope sc) c ifs && chkI (relS scope sc) tg1 it1 iter1 && chkT N (relS scope sc) (ownFn scope) t1 tg1 && chkIf (relS scope sc) c1 ifs1 && chkE (relS scope sc) elt x
    | _ => false)
end
end

/-! ### targets -/
mutual
theorem sndT {X : Cx} (hN : X.N.Nodup) (hc : X.calm = true) {fb : Str → Bool} (hf : ∀ x, fb x = true → X.fn x = true) : ∀ (t : IT) (e : Expr), chkT X.N X.env.scope fb t e = true → PG X e (rdG X.K t)
  | .nm i, e, h => by
    cases e <;> first | (cases h; done) | skip
    unfold chkT at h
    rw [Bool.and_eq_true, Bool.or_eq_true, Bool.and_eq_true] at h
    rcases h.2 with q | ⟨q1, q2⟩
    · exact g_nm hN (of_decide_eq_true h.1) (.inl (of_decide_eq_true q)) (.inr (of_decide_eq_true q))
    · exact g_nm hN (of_decide_eq_true h.1) (.inr (of_decide_eq_true q1)) (.inl (hf _ q2))
  | .tp ts, e, h => by
    cases e <;> first | (cases h; done) | skip
    unfold chkT at h
    rw [Bool.and_eq_true] at h
    obtain ⟨h1, h2⟩ := sndTs hN hc hf ts _ h.1
    exact g_tp hc h1 (of_decide_eq_true h.2) h2
theorem sndTs {X : Cx} (hN : X.N.Nodup) (hc : X.calm = true) {fb : Str → Bool} (hf : ∀ x, fb x = true → X.fn x = true) : ∀ (ts : ITs) (es : List Expr), chkTs X.N X.env.scope fb ts es = true → PGs X es (rdGs X.K ts) ∧ ∀ e ∈ es, NoStarT X e
  | .nil, [], _ => ⟨gs_nil, fun e h => nomatch h⟩
  | .nil, _ :: _, h => by cases h
  | .cons t ts, [], h => by cases h
  | .cons t ts, e :: es, h => by
    unfold chkTs at h
    rw [Bool.and_eq_true, Bool.and_eq_true] at h
    obtain ⟨h1, h2⟩ := sndTs hN hc hf ts es h.2
    exact ⟨gs_cons (sndT hN hc hf t e h.1.2) h1 (notStarT_ok h.1.1), fun x hx => by
      rcases List.mem_cons.mp hx with q | q
      · rw [q]; exact notStarT_ok h.1.1
      · exact h2 x q⟩
end
end Dp


set_option Elab.async false
set_option linter.all false
set_option maxRecDepth 100000
set_option maxHeartbeats 8000000
set_option autoImplicit false
/-! DpSnd: the check is sound, for expressions. -/
namespace Dp
open PySem L2 PySem.Spec PyProof.Rows

structure Cl (X : Cx) (e : Expr) (f : Env → M PV) : Prop where
  pe : PE X e (rd X.K f)
  pt : notIf e = true → PT X e (rdB X.K fun r => M.bind (f r) truth)
  pw : ∀ op vs pos, e = .BoolOp op vs pos → PW X e (rdB X.K fun r => M.bind (f r) truth)
theorem Cl.plain {X : Cx} {e : Expr} {f : Env → M PV} (h : PE X e (rd X.K f)) (p : plainTest e = true) : Cl X e f :=
  ⟨h, fun _ => t_val h (plainTest_ok p _), fun op vs pos z => by rw [z] at p; cases p⟩
theorem Cl.and2 {X : Cx} {a b : Expr} {pos : Pos} {f g : Env → M PV} (na : notIf a = true) (nb : notIf b = true) (ha : Cl X a f) (hb : Cl X b g) : Cl X (.BoolOp .And [a, b] pos) (fun r => M.bind (f r) fun x => M.bind (truth x) fun k => if k then g r else M.pure x) := by
  have w := t_and (ha.pt na) (pw_and1 (pos := pos) (hb.pt nb))
  exact ⟨r_and ha.pe (pe_one hb.pe), fun _ => w.pt, fun _ _ _ e => w⟩
theorem Cl.or2 {X : Cx} {a b : Expr} {pos : Pos} {f g : Env → M PV} (na : notIf a = true) (nb : notIf b = true) (ha : Cl X a f) (hb : Cl X b g) : Cl X (.BoolOp .Or [a, b] pos) (fun r => M.bind (f r) fun x => M.bind (truth x) fun k => if k then M.pure x else g r) := by
  have w := t_or (ha.pt na) (pw_or1 (pos := pos) (hb.pt nb))
  exact ⟨r_or ha.pe (pe_one hb.pe), fun _ => w.pt, fun _ _ _ e => w⟩
theorem Cl.and3 {X : Cx} {a y z : Expr} {r : List Expr} {pos : Pos} {f g : Env → M PV} (na : notIf a = true) (ha : Cl X a f) (hb : Cl X (.BoolOp .And (y :: z :: r) pos) g) : Cl X (.BoolOp .And (a :: y :: z :: r) pos) (fun r => M.bind (f r) fun x => M.bind (truth x) fun k => if k then g r else M.pure x) := by
  have w := t_and (ha.pt na) (hb.pw _ _ _ rfl)
  exact ⟨r_and ha.pe hb.pe, fun _ => w.pt, fun _ _ _ e => w⟩
theorem Cl.or3 {X : Cx} {a y z : Expr} {r : List Expr} {pos : Pos} {f g : Env → M PV} (na : notIf a = true) (ha : Cl X a f) (hb : Cl X (.BoolOp .Or (y :: z :: r) pos) g) : Cl X (.BoolOp .Or (a :: y :: z :: r) pos) (fun r => M.bind (f r) fun x => M.bind (truth x) fun k => if k then M.pure x else g r) := by
  have w := t_or (ha.pt na) (hb.pw _ _ _ rfl)
  exact ⟨r_or ha.pe hb.pe, fun _ => w.pt, fun _ _ _ e => w⟩
theorem not_ok {b : Bool} (h : (!b) = true) : b = false := by cases b <;> first | rfl | cases h
theorem nm_ne {x : Str} {y : Str} (h : (!(x == y)) = true) : x ≠ y := fun e => by rw [e, beq_self_eq_true] at h; cases h
section
variable {X : Cx} {kws : List Keyword} {nm : Option Str} {kpos p pos : Pos} {a : Expr} {f : Env → M PV} {fs : Env → M (List PV)} {x : Str}
theorem PK.conseq {t t' : TA} (h : PK X kws t) (k : ∀ σ H Q, t' σ H Q → t σ H Q) : PK X kws t' := ⟨fun pos pins s σ H Q I q => h.run pos pins s σ H Q I (k _ _ _ q)⟩
theorem rk_nil : PK X [] (rdA X.K fun _ => M.pure []) := PK.conseq pk_nil fun σ H Q ⟨m, r, st, E, S, q⟩ => FinG.done (rel := Reps X.K) (p := []) q S .nil
theorem rk_cons (ha : PE X a (rd X.K f)) (hs : PK X kws (rdA X.K fs)) : PK X (⟨nm, a, kpos⟩ :: kws) (rdA X.K fun r => M.bind (f r) fun x => M.bind (fs r) fun xs => M.pure (x :: xs)) :=
  PK.conseq (pk_cons ha hs) fun σ H Q ⟨m, r, st, E, S, q⟩ =>
    ⟨m, r, st, E, S, FinG.seq (rel := Rep X.K) (rel2 := Reps X.K) q fun v H1 m1 st1 p t S1 rp F1 => ⟨m1, r, st1, E.step S t, S1, FinG.seq (rel := Reps X.K) (rel2 := Reps X.K) F1 fun w H2 m2 st2 ps t2 S2 rs F2 =>
      FinG.done (rel := Reps X.K) (p := p :: ps) F2 S2 (.cons (Rep.step S1 t2 p v rp) rs)⟩⟩
theorem reps_pm {K : PySem.W.Frag} {m : Pl} {n : Nat} {H : Hp} {ps : List PV} {vs : List V} (h : Reps K m n H vs ps) : ∀ pm : List Nat, Reps K m n H (pmG pm vs) (pmG pm ps)
  | [] => .nil
  | i :: pm => by
    have ih := reps_pm h pm
    unfold pmG at ih ⊢
    rw [List.filterMap_cons, List.filterMap_cons]
    cases e : ps[i]? with
    | some p =>
      obtain ⟨v, e2, r⟩ := h.get e
      rw [e2]
      exact .cons r ih
    | none =>
      have e2 : vs[i]? = none := by
        rw [List.getElem?_eq_none_iff] at e ⊢
        rw [h.length]
        exact e
      rw [e2]
      exact ih
theorem r_callk {fa : Addr} {F : List PV → M PV} {pm : List Nat} (hg : Gl X x) (hm : X.mg x = some (.ref fa)) (hk : PySem.W.keepIn X.K (.ref fa) = true) (hd : (x == ("__debug__" : Str)) = false) (hc : CallKR X (.ref fa) (kws.filterMap (·.arg)) pm (rdL X.K F)) (hs : PK X kws (rdA X.K fs)) (hl : (kws.filterMap (·.arg)).length = kws.length) :
    PE X (.Call (.Name x p) [] kws pos) (rd X.K fun r => M.bind (fs r) fun vs => F (pmG pm vs)) := by
  have hall : ∀ k ∈ kws, k.arg.isSome = true := by
    have : ∀ l : List Keyword, (l.filterMap (·.arg)).length = l.length → ∀ k ∈ l, k.arg.isSome = true := by
      intro l
      induction l with
      | nil => intro _ k hk; cases hk
      | cons a l ih =>
        intro h k hk
        rw [List.filterMap_cons] at h
        have le := List.length_filterMap_le (·.arg) l
        cases ha : a.arg with
        | none => rw [ha] at h; simp only [List.length_cons] at h; omega
        | some y =>
          rw [ha] at h
          simp only [List.length_cons] at h
          rcases List.mem_cons.mp hk with rfl | hk
          · rw [ha]; rfl
          · exact ih (by omega) k hk
    exact this kws hl
  have e1 : (backToKw pos (keywordEach kws X.env)).map (·.1) = kws.map (·.arg) := by
    have : ∀ l : List Keyword, (backToKw pos (keywordEach l X.env)).map (·.1) = l.map (·.arg) := by
      intro l
      induction l with
      | nil => rfl
      | cons a l ih =>
        obtain ⟨y, e, kp⟩ := a
        show y :: (backToKw pos (keywordEach l X.env)).map (·.1) = y :: l.map (·.arg)
        rw [ih]
    exact this kws
  have e2 : (backToKw pos (keywordEach kws X.env)).filterMap (·.1) = kws.filterMap (·.arg) := by
    have := congrArg (List.filterMap id) e1
    rwa [List.filterMap_map, List.filterMap_map] at this
  have ha : (backToKw pos (keywordEach kws X.env)).all (·.1.isSome) = true := by
    have : (backToKw pos (keywordEach kws X.env)).all (·.1.isSome) = ((backToKw pos (keywordEach kws X.env)).map (·.1)).all (·.isSome) := by rw [List.all_map]; rfl
    rw [this, e1, List.all_map, List.all_eq_true]
    exact hall
  have hp : ((backTo pos (starEach [] X.env)).any (·.1) || (backToKw pos (keywordEach kws X.env)).any (·.1.isNone)) = false := by
    have h1 : (backTo pos (starEach [] X.env)).any (·.1) = false := rfl
    have : (backToKw pos (keywordEach kws X.env)).any (·.1.isNone) = ((backToKw pos (keywordEach kws X.env)).map (·.1)).any (·.isNone) := by rw [List.any_map]; rfl
    rw [h1, Bool.false_or, this, e1, List.any_map, List.any_eq_false]
    intro k hk
    have := hall k hk
    show ¬ (k.arg.isNone = true)
    cases h : k.arg with
    | none => rw [h] at this; cases this
    | some y => simp
  refine ⟨fun pins s σ H Q I h => wpAny_Call_Name_kw (ld_glob I hg hm ?_ hd)⟩
  have h := rdL_of (F := fun vs => F (pmG pm vs)) h
  refine PySem.W.callWith_KW0 (h₀ := X.base) I.ok.mod.kin hk ha (thn (hs.run pos pins s σ H _ I h) fun ws s2 ⟨zs, H2, I2, rz, q2⟩ => ⟨I2.kIn, ?_⟩) hp
  rw [e2]
  obtain ⟨m, st, ps, S, rs, F0⟩ := q2
  exact hc pins s2 σ H2 zs ws Q I2 rz ⟨m, st, pmG pm ps, S, reps_pm rs pm, F0⟩
end
theorem nameB_ok {T : Tab} {F : FT} {X : Cx} {x y : Str} (hX : XOk T F X) (h : nameB T X.env.scope x y = true) : x = y ∧ Gl X y ∧ X.mg y = none := by
  unfold nameB at h
  rw [Bool.and_eq_true, Bool.and_eq_true] at h
  have e := of_decide_eq_true h.1.1
  subst e
  exact ⟨rfl, glB_ok h.1.2, hX.nn _ h.2⟩
theorem bind_nil {α : Type} (F : List PV → M α) : (M.bind (M.pure []) F : M α) = F [] := rfl
theorem Cl.cmp {X : Cx} {e : Expr} {f : Env → M PV} (h : PE X e (rd X.K f)) (t : PT X e (rdB X.K fun r => M.bind (f r) truth)) (n : ∀ op vs pos, e ≠ .BoolOp op vs pos) : Cl X e f := ⟨h, fun _ => t, fun op vs pos z => absurd z (n op vs pos)⟩
theorem ownP_map (N : List Str) (own : List Nat) : (ownP N own).map (·.2) = own := by
  unfold ownP
  rw [List.map_map]
  exact List.map_id own
theorem sub_own {N : List Str} {own sl : List Nat} (h : sl.all (fun i => own.contains i) = true) : ∀ i ∈ sl, i ∈ (ownP N own).map (·.2) := fun i hi => by
  rw [ownP_map]
  simpa using (List.all_eq_true.mp h i hi)
section
variable {T : Tab} {F : FT}
mutual
theorem sndE : ∀ (ie : IE) (X : Cx) (e : Expr), XOk T F X → chkE T X.N X.env.scope ie e = true → Cl X e (evE F ie)
  | .var i, X, e, hX, h => by
    cases e <;> first | (cases h; done) | skip
    simp only [chkE, slotB, Bool.and_eq_true, decide_eq_true_eq] at h
    obtain ⟨⟨⟨h1, h2⟩, h3⟩, h4⟩ := h
    exact .plain (r_var h1 (visB_ok h2) (not_ok h3) (not_ok h4)) rfl
  | .cst c, X, e, hX, h => by
    cases e <;> first | (cases h; done) | skip
    exact .plain (cst_ok h) rfl
  | .glob _ v, X, e, hX, h => by
    cases e <;> first | (cases h; done) | skip
    rename_i x pos
    simp only [chkE, Bool.and_eq_true] at h
    obtain ⟨⟨h1, h2⟩, h3⟩ := h
    cases q : T.cs x with
    | none => rw [q] at h3; cases h3
    | some w =>
      rw [q] at h3
      have e := sam_eq _ _ h3
      subst e
      obtain ⟨u, vv, a, b, c⟩ := hX.cs x _ q
      exact .plain (r_const (pe_glob (glB_ok h1) a b (not_ok h2)) c) rfl
  | .bin o a b, X, e, hX, h => by
    cases e <;> first | (cases h; done) | skip
    simp only [chkE, Bool.and_eq_true, decide_eq_true_eq] at h
    obtain ⟨⟨h1, h2⟩, h3⟩ := h
    subst h1
    exact .plain (r_bin hX.cx (sndE a X _ hX h2).pe (sndE b X _ hX h3).pe) rfl
  | .cmp o a b, X, e, hX, h => by
    cases e <;> first | (cases h; done) | skip
    rename_i l ops rs pos
    match ops, rs, h with
    | [op], [r], h =>
      simp only [chkE, Bool.and_eq_true, decide_eq_true_eq] at h
      obtain ⟨⟨⟨h1, h2⟩, h3⟩, h4⟩ := h
      subst h1
      exact .cmp (r_cmp hX.cx (sndE a X _ hX h3).pe (sndE b X _ hX h4).pe (not_ok h2)) (t_cmp hX.cx (sndE a X _ hX h3).pe (sndE b X _ hX h4).pe (not_ok h2)) (fun _ _ _ z => nomatch z)
  | .chain o o' a b c, X, e, hX, h => by
    cases e <;> first | (cases h; done) | skip
    rename_i l ops rs pos
    match ops, rs, h with
    | [op, op'], [r, s], h =>
      simp only [chkE, Bool.and_eq_true, decide_eq_true_eq] at h
      obtain ⟨⟨⟨⟨⟨h1, h2⟩, h3⟩, h4⟩, h5⟩, h6⟩ := h
      subst h1 h2
      exact .cmp (r_chain hX.cx (sndE a X _ hX h4).pe (sndE b X _ hX h5).pe (sndE c X _ hX h6).pe (not_ok h3)) (t_chain hX.cx (sndE a X _ hX h4).pe (sndE b X _ hX h5).pe (sndE c X _ hX h6).pe (not_ok h3)) (fun _ _ _ z => nomatch z)
  | .neg a, X, e, hX, h => by
    cases e <;> first | (cases h; done) | skip
    rename_i op x pos
    cases op <;> first | (cases h; done) | skip
    exact .plain (r_neg (sndE a X _ hX h).pe) rfl
  | .not a, X, e, hX, h => by
    cases e <;> first | (cases h; done) | skip
    rename_i op x pos
    cases op <;> first | (cases h; done) | skip
    simp only [chkE, Bool.and_eq_true] at h
    exact .cmp (r_not (sndE a X _ hX h.2).pe) (t_not ((sndE a X _ hX h.2).pt h.1)) (fun _ _ _ z => nomatch z)
  | .and a b, X, e, hX, h => by
    cases e <;> first | (cases h; done) | skip
    rename_i op vs pos
    cases op <;> first | (cases h; done) | skip
    match vs, h with
    | [x, y], h =>
      simp only [chkE, Bool.and_eq_true] at h
      obtain ⟨⟨⟨h1, h2⟩, h3⟩, h4⟩ := h
      exact Cl.and2 h1 h3 (sndE a X _ hX h2) (sndE b X _ hX h4)
    | x :: y :: z :: r, h =>
      simp only [chkE, Bool.and_eq_true] at h
      obtain ⟨⟨h1, h2⟩, h3⟩ := h
      exact Cl.and3 h1 (sndE a X _ hX h2) (sndE b X _ hX h3)
  | .or a b, X, e, hX, h => by
    cases e <;> first | (cases h; done) | skip
    rename_i op vs pos
    cases op <;> first | (cases h; done) | skip
    match vs, h with
    | [x, y], h =>
      simp only [chkE, Bool.and_eq_true] at h
      obtain ⟨⟨⟨h1, h2⟩, h3⟩, h4⟩ := h
      exact Cl.or2 h1 h3 (sndE a X _ hX h2) (sndE b X _ hX h4)
    | x :: y :: z :: r, h =>
      simp only [chkE, Bool.and_eq_true] at h
      obtain ⟨⟨h1, h2⟩, h3⟩ := h
      exact Cl.or3 h1 (sndE a X _ hX h2) (sndE b X _ hX h3)
  | .ifx c a b, X, e, hX, h => by
    cases e <;> first | (cases h; done) | skip
    simp only [chkE, Bool.and_eq_true] at h
    obtain ⟨⟨⟨h1, h2⟩, h3⟩, h4⟩ := h
    exact ⟨r_ifx ((sndE c X _ hX h2).pt h1) (sndE a X _ hX h3).pe (sndE b X _ hX h4).pe, fun z => (nomatch z), fun _ _ _ z => (nomatch z)⟩
  | .tup es, X, e, hX, h => by
    cases e <;> first | (cases h; done) | skip
    exact .plain (r_tup (sndEs es X _ hX h).1) rfl
  | .lst es, X, e, hX, h => by
    cases e <;> first | (cases h; done) | skip
    exact .plain (r_lst (sndEs es X _ hX h).1) rfl
  | .idx a b, X, e, hX, h => by
    cases e <;> first | (cases h; done) | skip
    simp only [chkE, Bool.and_eq_true] at h
    obtain ⟨⟨h1, h2⟩, h3⟩ := h
    exact .plain (r_idx (sndE a X _ hX h2).pe (sndE b X _ hX h3).pe (plainIx_ok h1)) rfl
  | .sl a lo hi, X, e, hX, h => by
    cases e <;> first | (cases h; done) | skip
    rename_i x y pos
    cases y <;> first | (cases h; done) | skip
    rename_i l u st p2
    cases st with
    | some _ => cases h
    | none =>
      simp only [chkE, Bool.and_eq_true] at h
      obtain ⟨⟨h1, h2⟩, h3⟩ := h
      exact .plain (r_sl (sndE a X _ hX h1).pe (sndO lo X _ hX h2) (sndO hi X _ hX h3)) rfl
  | .rev a, X, e, hX, h => by
    unfold chkE at h
    split at h
    · exact .plain (pe_rev (sndE a X _ hX h).pe) rfl
    · cases h
  | .call f es, X, e, hX, h => by
    unfold chkE at h
    split at h
    · simp only [Bool.and_eq_true, decide_eq_true_eq] at h
      obtain ⟨⟨⟨h1, h2⟩, h3⟩, h4⟩ := h
      obtain ⟨fa, a, b, c⟩ := hX.fns _ _ h2
      obtain ⟨s1, s2, _⟩ := sndEs es X _ hX h4
      rename_i xs pos _
      cases xs with
      | nil =>
        cases es with
        | nil => exact .plain (r_call0 (glB_ok h1) a b (not_ok h3) (c X (.refl X))) rfl
        | cons _ _ => cases h4
      | cons y ys => exact .plain (r_call (glB_ok h1) a b (not_ok h3) (c X (.refl X)) s1 s2) rfl
    · cases h
  | .calls f n es, X, e, hX, h => by
    unfold chkE at h
    split at h
    · simp only [Bool.and_eq_true, decide_eq_true_eq] at h
      obtain ⟨⟨⟨h1, h2⟩, h3⟩, h4⟩ := h
      obtain ⟨fa, a, b, c⟩ := hX.st _ _ _ h2
      obtain ⟨s1, s2, _⟩ := sndEs es X _ hX h4
      rename_i xs pos _
      cases xs with
      | nil =>
        cases es with
        | nil => exact .plain (r_call0 (glB_ok h1) a b (not_ok h3) (c X (.refl X))) rfl
        | cons _ _ => cases h4
      | cons y ys => exact .plain (r_call (glB_ok h1) a b (not_ok h3) (c X (.refl X)) s1 s2) rfl
    · cases h
  | .stk, X, e, hX, h => .plain ⟨fun pins s σ H Q I ⟨m, r, st, E, S, q⟩ => False.elim q⟩ h
  | .callk f pm es, X, e, hX, h => by
    unfold chkE at h
    split at h
    · simp only [Bool.and_eq_true, decide_eq_true_eq] at h
      obtain ⟨⟨⟨⟨⟨⟨h0, h1⟩, h2⟩, h3⟩, h4⟩, h5⟩, h6⟩ := h
      obtain ⟨fa, a, b, c⟩ := hX.kw _ _ _ _ h3 h5
      exact .plain (r_callk (glB_ok h2) a b (not_ok h4) (c X (.refl X)) (sndKs es X _ hX h6) h1) rfl
    · cases h
  | .bi b es, X, e, hX, h => by
    unfold chkE at h
    split at h
    · split at h
      · simp only [Bool.and_eq_true, decide_eq_true_eq] at h
        obtain ⟨⟨⟨⟨⟨⟨⟨⟨h1, h2⟩, h3⟩, h4⟩, h5⟩, h6⟩, h7⟩, h8⟩, h9⟩ := h
        obtain ⟨rfl, g1, g2⟩ := nameB_ok hX h1
        rename_i k a y tn p2
        refine .plain (PE.conseq (r_isi h2 g1 g2 (sndE a X _ hX h4).pe (notStar_ok h3) (glB_ok h5) (hX.nn _ h6) h7 (nm_ne h8) (not_ok h9)) fun σ H Q z => ?_) rfl
        have e : evE F (.bi (.isinst k) (.cons a .nil)) = fun r => M.bind (evE F a r) (isinM k) := by
          funext r
          show M.bind (M.bind (evE F a r) fun x => M.bind (M.pure []) fun xs => M.pure (x :: xs)) (biM (.isinst k)) = _
          rw [bind_as]
          rfl
        rw [← e]
        exact z
      · split at h
        · rename_i u hu
          simp only [Bool.and_eq_true, decide_eq_true_eq] at h
          obtain ⟨⟨⟨⟨⟨⟨h1, h2⟩, h3⟩, h4⟩, h5⟩, h6⟩, h7⟩ := h
          obtain ⟨s1, s2, _⟩ := sndEs es X _ hX h7
          rename_i xs pos _ _ _ _ _ _
          cases xs with
          | nil => cases h6
          | cons y ys => exact .plain (r_bi hX.cx hu (glB_ok h1) (hX.nn _ h2) h3 (nm_ne h4) (not_ok h5) s1 s2) rfl
        · cases h
    · cases h
  | .biC b c, X, e, hX, h => by
    unfold chkE at h
    split at h
    · split at h
      · rename_i u hu
        simp only [Bool.and_eq_true, decide_eq_true_eq] at h
        obtain ⟨⟨⟨⟨⟨h1, h2⟩, h3⟩, h4⟩, h5⟩, h6⟩ := h
        exact .plain (r_biC hX.cx hu (glB_ok h1) (hX.nn _ h2) h3 (nm_ne h4) (not_ok h5) (sndC c X _ hX h6).1 (sndC c X _ hX h6).2.1) rfl
      · cases h
    · cases h
  | .mt m o es, X, e, hX, h => by
    unfold chkE at h
    split at h
    · simp only [Bool.and_eq_true, decide_eq_true_eq] at h
      obtain ⟨⟨⟨⟨⟨⟨h1, h2⟩, h3⟩, h4⟩, h5⟩, h6⟩, h7⟩ := h
      subst h1
      obtain ⟨s1, s2, _⟩ := sndEs es X _ hX h7
      rename_i xs pos _
      cases xs with
      | nil =>
        cases es with
        | nil => exact .plain (r_mt0 hX.cx h2 (sndE o X _ hX h6).pe (plainBase_ok h3 _ _ _) h4) rfl
        | cons _ _ => cases h7
      | cons y ys => exact .plain (r_mt hX.cx h2 (sndE o X _ hX h6).pe s1 s2 h5 (plainBase_ok h3 _ _ _) h4) rfl
    · cases h
  | .joinC z c, X, e, hX, h => by
    unfold chkE at h
    split at h
    · simp only [Bool.and_eq_true, decide_eq_true_eq] at h
      obtain ⟨⟨⟨⟨h1, h2⟩, h3⟩, h4⟩, h5⟩ := h
      subst h1
      exact .plain (r_joinC hX.cx (sndE z X _ hX h4).pe (sndC c X _ hX h5).1 (sndC c X _ hX h5).2.1 (plainBase_ok h2 _ _ _) h3) rfl
    · cases h
  | .lc c, X, e, hX, h => by
    obtain ⟨h1, h2, h3⟩ := sndC c X e hX h
    exact .plain (r_lc h1) h3
  | .dnew, X, e, hX, h => by
    unfold chkE at h
    split at h
    · exact .plain r_dnew rfl
    · cases h
  | .dget a b, X, e, hX, h => by
    cases e <;> first | (cases h; done) | skip
    simp only [chkE, Bool.and_eq_true] at h
    obtain ⟨⟨h1, h2⟩, h3⟩ := h
    exact .plain (r_dget hX.cx (sndE a X _ hX h2).pe (sndE b X _ hX h3).pe (noSl_ok h1)) rfl
  | .dgetd a b c, X, e, hX, h => by
    unfold chkE at h
    split at h
    · simp only [Bool.and_eq_true, decide_eq_true_eq] at h
      obtain ⟨⟨⟨⟨⟨⟨⟨h1, h2⟩, h3⟩, h4⟩, h5⟩, h6⟩, h7⟩, h8⟩ := h
      subst h1
      exact .plain (r_dgetd hX.cx (sndE a X _ hX h6).pe (sndE b X _ hX h7).pe (sndE c X _ hX h8).pe (plainBase_ok h2 _ _ _) h3 (notStar_ok h4) (notStar_ok h5)) rfl
    · cases h
  | .dget1 a b, X, e, hX, h => by
    unfold chkE at h
    split at h
    · simp only [Bool.and_eq_true, decide_eq_true_eq] at h
      obtain ⟨⟨⟨⟨⟨h1, h2⟩, h3⟩, h4⟩, h6⟩, h7⟩ := h
      subst h1
      exact .plain (r_dget1 hX.cx (sndE a X _ hX h6).pe (sndE b X _ hX h7).pe (plainBase_ok h2 _ _ _) h3 (notStar_ok h4)) rfl
    · cases h
  | .dsetd a b c, X, e, hX, h => by
    unfold chkE at h
    split at h
    · simp only [Bool.and_eq_true, decide_eq_true_eq] at h
      obtain ⟨⟨⟨⟨⟨⟨⟨h1, h2⟩, h3⟩, h4⟩, h5⟩, h6⟩, h7⟩, h8⟩ := h
      subst h1
      exact .plain (r_dsetd (sndE a X _ hX h6).pe (sndE b X _ hX h7).pe (sndE c X _ hX h8).pe (plainBase_ok h2 _ _ _) h3 (notStar_ok h4) (notStar_ok h5)) rfl
    · cases h
  | .tnew, X, e, hX, h => by
    unfold chkE at h
    split at h
    · exact .plain r_tnew rfl
    · cases h
  | .tgetd a b c, X, e, hX, h => by
    unfold chkE at h
    split at h
    · simp only [Bool.and_eq_true, decide_eq_true_eq] at h
      obtain ⟨⟨⟨⟨⟨⟨⟨h1, h2⟩, h3⟩, h4⟩, h5⟩, h6⟩, h7⟩, h8⟩ := h
      subst h1
      exact .plain (r_tgetd hX.cx (sndE a X _ hX h6).pe (sndE b X _ hX h7).pe (sndE c X _ hX h8).pe (plainBase_ok h2 _ _ _) h3 (notStar_ok h4) (notStar_ok h5)) rfl
    · cases h
  | .dl0, X, e, hX, h => by
    unfold chkE at h
    split at h
    · obtain ⟨rfl, g1, g2⟩ := nameB_ok hX h
      exact .plain (r_dl0 hX.cx g1 g2) rfl
    · cases h
  | .srtk a f, X, e, hX, h => by
    unfold chkE at h
    split at h
    · simp only [Bool.and_eq_true, decide_eq_true_eq] at h
      obtain ⟨⟨⟨⟨⟨⟨⟨h1, h2⟩, h3⟩, h4⟩, h5⟩, h6⟩, h7⟩, h8⟩ := h
      obtain ⟨rfl, g1, g2⟩ := nameB_ok hX h1
      subst h2
      obtain ⟨fa, k1, k2⟩ := hX.kf _ _ h6 h7
      exact .plain (r_srtk hX.cx (sndE a X _ hX h4).pe k2 (glB_ok h5) k1 (not_ok h8) g1 g2 (notStar_ok h3 [])) rfl
    · cases h
  | .dspread a b c, X, e, hX, h => by
    unfold chkE at h
    split at h
    · simp only [Bool.and_eq_true] at h
      obtain ⟨⟨h1, h2⟩, h3⟩ := h
      exact .plain (r_dspread (sndE a X _ hX h1).pe (sndE b X _ hX h2).pe (sndE c X _ hX h3).pe) rfl
    · cases h
  | .tspread a b c, X, e, hX, h => by
    unfold chkE at h
    split at h
    · simp only [Bool.and_eq_true] at h
      obtain ⟨⟨h1, h2⟩, h3⟩ := h
      exact .plain (r_tspread hX.cx (sndE a X _ hX h1).pe (sndE b X _ hX h2).pe (sndE c X _ hX h3).pe) rfl
    · cases h
  | .lrng a, X, e, hX, h => by
    unfold chkE at h
    split at h
    · simp only [Bool.and_eq_true] at h
      obtain ⟨⟨⟨h1, h2⟩, h3⟩, h4⟩ := h
      obtain ⟨rfl, g1, g2⟩ := nameB_ok hX h1
      obtain ⟨rfl, g3, g4⟩ := nameB_ok hX h2
      exact .plain (r_lrng hX.cx g1 g2 g3 g4 (sndE a X _ hX h4).pe (notStar_ok h3)) rfl
    · cases h
  | .trng a, X, e, hX, h => by
    unfold chkE at h
    split at h
    · simp only [Bool.and_eq_true] at h
      obtain ⟨⟨⟨h1, h2⟩, h3⟩, h4⟩ := h
      obtain ⟨rfl, g1, g2⟩ := nameB_ok hX h1
      obtain ⟨rfl, g3, g4⟩ := nameB_ok hX h2
      exact .plain (r_trng hX.cx g1 g2 g3 g4 (sndE a X _ hX h4).pe (notStar_ok h3)) rfl
    · cases h
theorem sndEs : ∀ (es : IEs) (X : Cx) (xs : List Expr), XOk T F X → chkEs T X.N X.env.scope es xs = true → PA X xs (rdA X.K (evEs F es)) ∧ (∀ e ∈ xs, NoStar X e) ∧ ∀ r st ps st', evEs F es r st = .ok ps st' → ps.length = xs.length
  | .nil, X, xs, hX, h => by
    cases xs with
    | nil => exact ⟨ra_nil, fun e z => (nomatch z), fun r st ps st' e => by cases e; rfl⟩
    | cons _ _ => cases h
  | .cons a as, X, xs, hX, h => by
    cases xs with
    | nil => cases h
    | cons x xs =>
      simp only [chkEs, Bool.and_eq_true] at h
      obtain ⟨⟨h1, h2⟩, h3⟩ := h
      obtain ⟨s1, s2, s3⟩ := sndEs as X xs hX h3
      refine ⟨ra_cons (sndE a X x hX h2).pe s1 (notStar_ok h1), fun y hy => ?_, fun r st ps st' e => ?_⟩
      · rcases List.mem_cons.mp hy with q | q
        · rw [q]; exact notStar_ok h1
        · exact s2 y q
      · obtain ⟨v, st1, _, e⟩ := bind_inv e
        obtain ⟨vs, st2, e1, e⟩ := bind_inv e
        cases e
        rw [List.length_cons, List.length_cons, s3 _ _ _ _ e1]
theorem sndKs : ∀ (es : IEs) (X : Cx) (kws : List Keyword), XOk T F X → chkEs T X.N X.env.scope es (kws.map (·.value)) = true → PK X kws (rdA X.K (evEs F es))
  | .nil, X, kws, hX, h => by
    cases kws with
    | nil => exact rk_nil
    | cons _ _ => cases h
  | .cons a as, X, kws, hX, h => by
    cases kws with
    | nil => cases h
    | cons x xs =>
      simp only [List.map_cons, chkEs, Bool.and_eq_true] at h
      obtain ⟨⟨h1, h2⟩, h3⟩ := h
      obtain ⟨nm, e, kp⟩ := x
      exact rk_cons (sndE a X e hX h2).pe (sndKs as X xs hX h3)
theorem sndO : ∀ (o : IO) (X : Cx) (e : Option Expr), XOk T F X → chkO T X.N X.env.scope o e = true → L2.PO X e (rdO X.K (evO F o))
  | .none, X, e, hX, h => by
    cases e with
    | none => exact ro_none
    | some _ => cases h
  | .some a, X, e, hX, h => by
    cases e with
    | none => cases h
    | some x => exact ro_some (sndE a X x hX h).pe
theorem sndIf : ∀ (o : IO) (X : Cx) (es : List Expr), XOk T F X → chkIf T X.N X.env.scope o es = true → PTs X es (rdB X.K (evT F o))
  | .none, X, es, hX, h => by
    cases es with
    | nil => exact ts_nil
    | cons _ _ => cases h
  | .some a, X, es, hX, h => by
    match es, h with
    | [x], h =>
      simp only [chkIf, Bool.and_eq_true] at h
      exact ts_one ((sndE a X x hX h.2).pt h.1)
theorem sndI : ∀ (it : II) (X : Cx) (tg e : Expr), XOk T F X → chkI T X.N X.env.scope tg it e = true → PI X tg e (rdI X.K (evI F it))
  | .ex a, X, tg, e, hX, h => pi_val (sndE a X e hX h).pe
  | .rng es, X, tg, e, hX, h => by
    unfold chkI at h
    split at h
    · simp only [Bool.and_eq_true, Bool.or_eq_true, decide_eq_true_eq] at h
      obtain ⟨⟨h1, h2⟩, h3⟩ := h
      obtain ⟨rfl, a, b⟩ := nameB_ok hX h1
      obtain ⟨s1, s2, s3⟩ := sndEs es X _ hX h3
      exact pi_rng a b s1 (by rcases h2 with (h2 | h2) | h2 <;> simp [h2]) s2 s3
    · cases h
  | .en a, X, tg, e, hX, h => by
    unfold chkI at h
    split at h
    · simp only [Bool.and_eq_true] at h
      obtain ⟨⟨⟨h1, h2⟩, h3⟩, h4⟩ := h
      obtain ⟨rfl, g1, g2⟩ := nameB_ok hX h1
      cases tg <;> first | (cases h2; done) | skip
      exact pi_en g1 g2 (sndE a X _ hX h4).pe (notStar_ok h3)
    · cases h
  | .zp b a a2, X, tg, e, hX, h => by
    unfold chkI at h
    split at h
    · simp only [Bool.and_eq_true] at h
      obtain ⟨⟨⟨⟨⟨⟨h1, h2⟩, h3⟩, h4⟩, h5⟩, h6⟩, h7⟩ := h
      obtain ⟨rfl, g1, g2⟩ := nameB_ok hX h1
      cases tg <;> first | (cases h2; done) | skip
      have hb := not_ok h3
      subst hb
      exact pi_zp g1 g2 (sndE a X _ hX h6).pe (sndE a2 X _ hX h7).pe (notStar_ok h4) (notStar_ok h5)
    · simp only [Bool.and_eq_true, decide_eq_true_eq] at h
      obtain ⟨⟨⟨⟨⟨⟨⟨h1, h2⟩, h3⟩, hk⟩, h4⟩, h5⟩, h6⟩, h7⟩ := h
      obtain ⟨rfl, g1, g2⟩ := nameB_ok hX h1
      cases tg <;> first | (cases h2; done) | skip
      subst hk h3
      exact pi_zpS g1 g2 (sndE a X _ hX h6).pe (sndE a2 X _ hX h7).pe (notStar_ok h4) (notStar_ok h5)
    · cases h
theorem sndC : ∀ (c : IC) (X : Cx) (e : Expr), XOk T F X → chkC T X.N X.env.scope c e = true → PE X e (rdC X.K (evC F c)) ∧ NoStar X e ∧ plainTest e = true
  | .one own elt t it c, X, e, hX, h => by
    unfold chkC at h
    split at h
    · simp only [Bool.and_eq_true] at h
      obtain ⟨⟨⟨⟨⟨⟨h1, h2⟩, h3⟩, h4⟩, h5⟩, h6⟩, h7⟩ := h
      refine ⟨PE.conseq (pe_lc hX.cx.calm hX.nd (sndI it X _ _ hX h4) (blkOk_by h1) (fun s H C cl fp => sndT (X := X.blk s H _ (compEnvC _ cl C X.env) fp) hX.nd hX.cx.calm (fun x hx => hx) t _ h5) (fun s H C cl fp => sndIf c _ _ (hX.blk s H _ _ fp) h6)
        (fun s H C cl fp => (sndE elt _ _ (hX.blk s H _ _ fp) h7).pe) (notSet_ok h3 _)) fun σ H Q q => lc_read (sub_own h2) (by rw [ownP_map]; exact q), fun rest => rfl, rfl⟩
    · cases h
  | .two own own1 elt t it c t1 it1 c1, X, e, hX, h => by
    unfold chkC at h
    split at h
    · simp only [Bool.and_eq_true] at h
      obtain ⟨⟨⟨⟨⟨⟨⟨⟨⟨⟨⟨⟨h1, h2⟩, ha⟩, hb⟩, h3⟩, h3'⟩, h4⟩, h5⟩, h6⟩, h8⟩, h9⟩, h10⟩, h7⟩ := h
      refine ⟨PE.conseq (pe_lc2 hX.cx.calm hX.nd (sndI it X _ _ hX h4) (blkOk_by h1) (vs1 := own1) (sub_own ha) (fun s H C cl fp => sndT (X := X.blk s H _ (compEnvC _ cl C X.env) fp) hX.nd hX.cx.calm (fun x hx => hx) t _ h5) (fun s H C cl fp => sndIf c _ _ (hX.blk s H _ _ fp) h6)
        (fun s H C cl fp => sndI it1 _ _ _ (hX.blk s H _ _ fp) h8) (fun s H C cl fp => sndT (X := X.blk s H _ (compEnvC _ cl C X.env) fp) hX.nd hX.cx.calm (fun x hx => hx) t1 _ h9) (fun s H C cl fp => sndIf c1 _ _ (hX.blk s H _ _ fp) h10)
        (fun s H C cl fp => (sndE elt _ _ (hX.blk s H _ _ fp) h7).pe) (notSet_ok h3 _) (notSet_ok h3')) fun σ H Q q => lc_read2 (sub_own h2) (fun i hi => by simpa using (List.all_eq_true.mp hb i hi)) (by rw [ownP_map]; exact q), fun rest => rfl, rfl⟩
    · cases h
end
end
end Dp


set_option Elab.async false
set_option linter.all false
set_option maxRecDepth 100000
set_option maxHeartbeats 8000000
set_option autoImplicit false
/-! DpStm: statements. -/
namespace Dp
open PySem L2 PySem.Spec PyProof.Rows

def FinS (K : PySem.W.Frag) (m : Pl) (st : Sto) (H : Hp) (r : R Out) (D : Ends) : Prop :=
  match r with
  | .ok (.nx r') st' => ∀ (σ' : L2.St) (H' : Hp) (m' : Pl), Step m st H m' st' H' → SRep K m' H' st' → ERep K m' st'.nxt H' σ' r' → D.nx σ' H'
  | .ok (.bk r') st' => ∀ (σ' : L2.St) (H' : Hp) (m' : Pl), Step m st H m' st' H' → SRep K m' H' st' → ERep K m' st'.nxt H' σ' r' → D.bk σ' H'
  | .ok (.ct r') st' => ∀ (σ' : L2.St) (H' : Hp) (m' : Pl), Step m st H m' st' H' → SRep K m' H' st' → ERep K m' st'.nxt H' σ' r' → D.ct σ' H'
  | .ok (.rt p) st' => ∀ (v : V) (H' : Hp) (m' : Pl), Step m st H m' st' H' → SRep K m' H' st' → Rep K m' st'.nxt H' v p → D.rt v H'
  | .err => False
def rdS (K : PySem.W.Frag) (f : Env → M Out) : TS := fun D σ H => ∃ m r st, ERep K m st.nxt H σ r ∧ SRep K m H st ∧ FinS K m st H (f r st) D
section
variable {K : PySem.W.Frag} {m m0 m1 : Pl} {st st0 st1 : Sto} {H H0 H1 : Hp} {D D' : Ends}
theorem FinS.later {r : R Out} (F : FinS K m st H r D) (t : Step m st H m1 st1 H1) : FinS K m1 st1 H1 r D := by
  cases r with
  | err => exact F
  | ok o s =>
    cases o with
    | nx r' => exact fun a b c d => F a b c (t.trans d)
    | bk r' => exact fun a b c d => F a b c (t.trans d)
    | ct r' => exact fun a b c d => F a b c (t.trans d)
    | rt p => exact fun a b c d => F a b c (t.trans d)
/-- a statement, then more; the end is told from the base -/
theorem FinS.seq {g : M Out} {k : Out → M Out} (F : FinS K m0 st0 H0 (M.bind g k st) D)
    (hn : ∀ r' st' σ' H' m', Step m st H m' st' H' → SRep K m' H' st' → ERep K m' st'.nxt H' σ' r' → FinS K m0 st0 H0 (k (.nx r') st') D → D'.nx σ' H')
    (hb : ∀ r' st' σ' H' m', Step m st H m' st' H' → SRep K m' H' st' → ERep K m' st'.nxt H' σ' r' → FinS K m0 st0 H0 (k (.bk r') st') D → D'.bk σ' H')
    (hc : ∀ r' st' σ' H' m', Step m st H m' st' H' → SRep K m' H' st' → ERep K m' st'.nxt H' σ' r' → FinS K m0 st0 H0 (k (.ct r') st') D → D'.ct σ' H')
    (hr : ∀ p st' v H' m', Step m st H m' st' H' → SRep K m' H' st' → Rep K m' st'.nxt H' v p → FinS K m0 st0 H0 (k (.rt p) st') D → D'.rt v H') : FinS K m st H (g st) D' := by
  unfold M.bind at F
  cases e : g st with
  | err => rw [e] at F; exact F
  | ok o s =>
    rw [e] at F
    cases o with
    | nx r' => exact fun a b c d e f => hn r' s a b c d e f F
    | bk r' => exact fun a b c d e f => hb r' s a b c d e f F
    | ct r' => exact fun a b c d e f => hc r' s a b c d e f F
    | rt p => exact fun a b c d e f => hr p s a b c d e f F
theorem FinS.of {α β : Type} {rel : Pl → Nat → Hp → β → α → Prop} {g : M α} {k : α → M Out} {Q : β → Hp → Prop} (F : FinS K m0 st0 H0 (M.bind g k st) D)
    (h : ∀ (v : β) (H1 : Hp) (m1 : Pl) (st1 : Sto) (p : α), Step m st H m1 st1 H1 → SRep K m1 H1 st1 → rel m1 st1.nxt H1 v p → FinS K m0 st0 H0 (k p st1) D → Q v H1) : FinG K rel m st H (g st) Q := by
  unfold M.bind at F
  cases e : g st with
  | err => rw [e] at F; exact F
  | ok p st1 => rw [e] at F; exact fun v H1 m1 s1 s2 s3 => h v H1 m1 st1 p s1 s2 s3 F
theorem FinS.ofI {g : M Itr} {k : Itr → M Out} {Q : It → Hp → Prop} (F : FinS K m0 st0 H0 (M.bind g k st) D)
    (h : ∀ (J : It) (H1 : Hp) (m1 : Pl) (st1 : Sto) (I : Itr), Step m st H m1 st1 H1 → SRep K m1 H1 st1 → JOk K m1 st1 H1 J I → FinS K m0 st0 H0 (k I st1) D → Q J H1) : FinI K m st H (g st) Q := by
  unfold M.bind at F
  cases e : g st with
  | err => rw [e] at F; exact F
  | ok p st1 => rw [e] at F; exact fun v H1 m1 s1 s2 s3 => h v H1 m1 st1 p s1 s2 s3 F
end
section
variable {X : Cx} {e tg iter c : Expr} {f : Env → M PV} {fb : Env → M Out} {pos : Pos} {t : IT} {body : List Stmt}
theorem s_ret (he : PE X e (rd X.K f)) : PS X (.Return (some e) pos) (rdS X.K fun r => M.bind (f r) fun v => M.pure (.rt v)) :=
  PS.conseq (ps_ret he) fun D σ H ⟨m, r, st, E, S, F⟩ => ⟨m, r, st, E, S, FinS.of (rel := Rep X.K) F fun v H1 m1 st1 p t S1 rp F1 => F1 v H1 m1 t S1 rp⟩
theorem s_retN : PS X (.Return none pos) (rdS X.K fun _ => M.pure (.rt .non)) :=
  PS.conseq ps_retN fun D σ H ⟨m, r, st, E, S, F⟩ => F .non H m (.refl _ _ _) S .non
theorem s_ex (he : PE X e (rd X.K f)) (hs : swapsWith e none pos.line X.env = pure false) : PS X (.Expr e pos) (rdS X.K fun r => M.bind (f r) fun _ => M.pure (.nx r)) :=
  PS.conseq (ps_expr he hs) fun D σ H ⟨m, r, st, E, S, F⟩ => ⟨m, r, st, E, S, FinS.of (rel := Rep X.K) F fun v H1 m1 st1 p t S1 rp F1 => F1 σ H1 m1 t S1 (E.step S t)⟩
theorem s_pas : PS X (.Pass pos) (rdS X.K fun r => M.pure (.nx r)) := PS.conseq ps_pass fun D σ H ⟨m, r, st, E, S, F⟩ => F σ H m (.refl _ _ _) S E
theorem s_doc {x : Str} {j : Nat} {p2 : Pos} : PS X (.Expr (.Constant (.str x) j pos) p2) (rdS X.K fun r => M.pure (.nx r)) := PS.conseq ps_doc fun D σ H ⟨m, r, st, E, S, F⟩ => F σ H m (.refl _ _ _) S E
theorem s_brk : PS X (.Break pos) (rdS X.K fun r => M.pure (.bk r)) := PS.conseq ps_break fun D σ H ⟨m, r, st, E, S, F⟩ => F σ H m (.refl _ _ _) S E
theorem s_cnt : PS X (.Continue pos) (rdS X.K fun r => M.pure (.ct r)) := PS.conseq ps_continue fun D σ H ⟨m, r, st, E, S, F⟩ => F σ H m (.refl _ _ _) S E
theorem s_stuck {s : Stmt} : PS X s (rdS X.K fun _ => M.err) := PS.conseq ps_never fun D σ H ⟨m, r, st, E, S, F⟩ => F
theorem s_asg (he : PE X e (rd X.K f)) (hg : PG X tg (rdG X.K t)) (hs : swapsWithSole [tg] e pos.line X.env = pure false) (hw : swappedStores [tg] e X.env = pure none) (h1 : NoStarT X tg) :
    PS X (.Assign [tg] e pos) (rdS X.K fun r => M.bind (f r) fun v => (match setT t v r with | some r' => M.pure (.nx r') | none => M.err)) := by
  refine PS.conseq (ps_asg he hg hs hw (by rw [h1]; rfl)) fun D σ H ⟨m, r, st, E, S, F⟩ => ⟨m, r, st, E, S, FinS.of (rel := Rep X.K) F fun v H1 m1 st1 p t1 S1 rp F1 => ?_⟩
  cases e2 : setT t p r with
  | none => rw [e2] at F1; exact F1.elim
  | some r' =>
    rw [e2] at F1
    exact ⟨m1, r, st1, p, r', E.step S t1, S1, rp, e2, fun σ' E' _ => F1 σ' H1 m1 t1 S1 E'⟩
/-- name = [..] on one line -/
theorem asg_lc {i : Nat} {te : TE} {fC : Env → M (List PV)} {D : Ends} {σ : L2.St} {H : Hp} (hte : ∀ σ H Q, rdC X.K fC σ H Q → te σ H Q) (h : rdS X.K (fun r => M.bind (M.bind (fC r) newLst) fun v => (match setT (.nm i) v r with | some r' => M.pure (.nx r') | none => M.err)) D σ H) : tAsg te (gName i) D σ H := by
  obtain ⟨m, r, st, E, S, F⟩ := h
  refine hte _ _ _ ⟨m, r, st, E, S, ?_⟩
  have F2 : FinG X.K (Rep X.K) m st H (M.bind (fC r) newLst st) (fun x H1 => gName i x σ H1 D.nx) := FinS.of (rel := Rep X.K) F fun v H1 m1 st1 p t1 S1 rp F1 => F1 _ H1 m1 t1 S1 ((E.step S t1).set rp)
  refine FinC.of F2 fun D vs H1 m1 st1 ps t S1 hD ho hn rs F => ?_
  unfold newLst at F
  by_cases hl : ps.length ≤ 16777216
  · rw [if_pos hl] at F
    refine F _ H1 (plNew m1 st1.nxt D) ?_ (SRep.adopt S1 hD ho rs) ?_
    · refine ⟨Nat.le_succ_of_le t.nx, fun l hl => (plNew_old (Nat.lt_of_lt_of_le hl t.nx)).trans (t.mu l hl), t.fr, fun b h => ?_⟩
      obtain ⟨l, ys, e, hm, rfl⟩ := h
      rcases get_newE e with ⟨rfl, _⟩ | ⟨n1, e⟩
      · rw [plNew_new]; exact hn
      · have hl := (S1.ob l _ e).1
        rw [plNew_old hl]
        exact t.ow _ ⟨l, ys, e, hm, rfl⟩
    · have := Rep.loc (K := X.K) (m := plNew m1 st1.nxt D) (n := (st1.new (.lst ps)).nxt) (H := H1) (l := st1.nxt) (Nat.lt_succ_self _)
      rw [plNew_new] at this
      exact this
  · rw [if_neg hl] at F; exact F.elim
/-- o[i] = e -/
theorem s_setix {o i : Expr} {fo fi : Env → M PV} {p2 : Pos} (he : PE X e (rd X.K f)) (ho : PE X o (rd X.K fo)) (hi : PE X i (rd X.K fi)) (hp : plainIx i = true) (hs : swapsWithSole [.Subscript o i p2] e pos.line X.env = pure false) (hw : swappedStores [.Subscript o i p2] e X.env = pure none) :
    PS X (.Assign [.Subscript o i p2] e pos) (rdS X.K fun r => M.bind (f r) fun v => M.bind (fo r) fun x => M.bind (fi r) fun k => M.bind (setIx x k v) fun _ => M.pure (.nx r)) := by
  have hg : PG X (.Subscript o i p2) (gSub (rd X.K fo) (rd X.K fi) (rdSet X.K)) := pg_sub ho hi set_ok (by
    intro v
    cases i <;> first | (cases hp; done) | rfl)
  refine PS.conseq (ps_asg he hg hs hw rfl) fun D σ H ⟨m, r, st, E, S, F⟩ => ⟨m, r, st, E, S, FinS.of (rel := Rep X.K) F fun v H1 m1 st1 p t1 S1 rp F1 => ?_⟩
  refine ⟨m1, r, st1, E.step S t1, S1, FinS.of (rel := Rep X.K) F1 fun x H2 m2 st2 q t2 S2 rq F2 => ?_⟩
  refine ⟨m2, r, st2, (E.step S t1).step S1 t2, S2, FinS.of (rel := Rep X.K) F2 fun k H3 m3 st3 w t3 S3 rw_ F3 => ?_⟩
  refine ⟨m3, st3, q, w, p, S3, Rep.step S2 t3 q x rq, rw_, Rep.step S2 t3 p v (Rep.step S1 t2 p v rp), ?_⟩
  exact FinS.of (rel := fun _ _ _ _ _ => True) F3 fun u H4 m4 st4 _ t4 S4 _ F4 => F4 σ H4 m4 (((t1.trans t2).trans t3).trans t4) S4 ((((E.step S t1).step S1 t2).step S2 t3).step S3 t4)
theorem dput_of {st s' : Sto} {o k v : PV} {u : Unit} (e0 : dputM o k v st = .ok u s') : ∃ l kvs, o = .loc l ∧ st.get l = some (.dic kvs) ∧ keyOk k = true ∧ kvs.length < 16777216 ∧ s' = st.set l (.dic (dstore k v kvs)) := by
  cases o <;> first | (cases e0; done) | skip
  rename_i l
  have e0 : (match st.dicAt l with
    | some kvs => if keyOk k = true ∧ kvs.length < 16777216 then R.ok () (st.set l (.dic (dstore k v kvs))) else .err
    | none => .err) = R.ok u s' := e0
  cases e : st.dicAt l with
  | none => rw [e] at e0; cases e0
  | some kvs =>
    simp only [e] at e0
    by_cases hc : keyOk k = true ∧ kvs.length < 16777216
    · rw [if_pos hc] at e0
      cases e0
      exact ⟨l, kvs, rfl, dicAt_get e, hc.1, hc.2, rfl⟩
    · rw [if_neg hc] at e0; cases e0
/-- d[k] = v -/
theorem s_dput {o i : Expr} {fo fi : Env → M PV} {p2 : Pos} (c0 : CxOk X) (he : PE X e (rd X.K f)) (ho : PE X o (rd X.K fo)) (hi : PE X i (rd X.K fi)) (hs : swapsWith e (some (.Subscript o i p2)) pos.line X.env = pure false) :
    PS X (.Assign [.Subscript o i p2] e pos) (rdS X.K fun r => M.bind (f r) fun v => M.bind (fo r) fun x => M.bind (fi r) fun k => M.bind (dputM x k v) fun _ => M.pure (.nx r)) := by
  refine PS.conseq (ps_dput (by have := c0.un; omega) ho hi he hs) fun D σ H ⟨m, r, st, E, S, F⟩ => ⟨m, r, st, E, S, FinS.of (rel := Rep X.K) F fun v H1 m1 st1 p t1 S1 rp F1 => ?_⟩
  refine ⟨m1, r, st1, E.step S t1, S1, FinS.of (rel := Rep X.K) F1 fun x H2 m2 st2 q t2 S2 rq F2 => ?_⟩
  refine ⟨m2, r, st2, (E.step S t1).step S1 t2, S2, FinS.of (rel := Rep X.K) F2 fun k H3 m3 st3 w t3 S3 rw_ F3 => ?_⟩
  have rq3 := Rep.step S2 t3 q x rq
  have rp3 := Rep.step S2 t3 p v (Rep.step S1 t2 p v rp)
  have E3 := ((E.step S t1).step S1 t2).step S2 t3
  unfold M.bind at F3
  cases e0 : dputM q w p st3 with
  | err => rw [e0] at F3; exact F3.elim
  | ok u s4 =>
    rw [e0] at F3
    obtain ⟨l, kvs, rfl, hg, hk, hl, rfl⟩ := dput_of e0
    obtain ⟨_, ws, h1, h2⟩ := S3.ob l _ hg
    obtain ⟨ky, k1, rfl⟩ := ky_of rw_ hk
    cases rq3
    have hl2 : ws.length < sizeLine := by rw [dreps_len h2, sizeLine_eq]; exact hl
    have t4 := Step.setO (o2 := .dic (dstore w p kvs)) (ho := .dK (putK ws ky v)) S3 hg rfl
    have S4 : SRep X.K m3 (upd H3 (m3 l) (.dK (putK ws ky v))) (st3.set l (.dic (dstore w p kvs))) := SRep.setO S3 hg rfl ⟨_, upd_same, DReps.mv (Rep.step S3 t4) (dreps_put k1 rp3 h2)⟩
    exact ⟨m3 l, _, rfl, DPut.k h1 hl2, F3 σ _ m3 (((t1.trans t2).trans t3).trans t4) S4 (E3.step S3 t4)⟩
/-- d[k] = v, of tuples as keys -/
theorem s_tput {o i : Expr} {fo fi : Env → M PV} {p2 : Pos} (c0 : CxOk X) (he : PE X e (rd X.K f)) (ho : PE X o (rd X.K fo)) (hi : PE X i (rd X.K fi)) (hs : swapsWith e (some (.Subscript o i p2)) pos.line X.env = pure false) :
    PS X (.Assign [.Subscript o i p2] e pos) (rdS X.K fun r => M.bind (f r) fun v => M.bind (fo r) fun x => M.bind (fi r) fun k => M.bind (tputM x k v) fun _ => M.pure (.nx r)) := by
  refine PS.conseq (ps_tput (by have := c0.un; omega) ho hi he hs) fun D σ H ⟨m, r, st, E, S, F⟩ => ⟨m, r, st, E, S, FinS.of (rel := Rep X.K) F fun v H1 m1 st1 p t1 S1 rp F1 => ?_⟩
  refine ⟨m1, r, st1, E.step S t1, S1, FinS.of (rel := Rep X.K) F1 fun x H2 m2 st2 q t2 S2 rq F2 => ?_⟩
  refine ⟨m2, r, st2, (E.step S t1).step S1 t2, S2, FinS.of (rel := Rep X.K) F2 fun k H3 m3 st3 w t3 S3 rw_ F3 => ?_⟩
  have rq3 := Rep.step S2 t3 q x rq
  have rp3 := Rep.step S2 t3 p v (Rep.step S1 t2 p v rp)
  have E3 := ((E.step S t1).step S1 t2).step S2 t3
  unfold M.bind at F3
  cases e0 : tputM q w p st3 with
  | err => rw [e0] at F3; exact F3.elim
  | ok u s4 =>
    rw [e0] at F3
    obtain ⟨l, kvs, kk, rfl, hg, hk, hl, rfl⟩ := tput_of e0
    obtain ⟨_, xs, h1, tr⟩ := S3.ob l _ hg
    obtain ⟨b, rfl, hq, hqr⟩ := key_of_rep hk rw_
    cases rq3
    refine ⟨m3 l, xs, b, kk, rfl, rfl, hq, h1, treps_keys tr, by rw [treps_len tr, sizeLine_eq]; omega, fun u ru => ?_⟩
    have t4 := Step.setO (o2 := .dit (tstore kk p kvs)) (ho := .ext (DitAt (m3 l) (storeK xs kk b u))) S3 hg rfl
    have p6 : Stp m3 st3.nxt H3 m3 st3.nxt (upd H3 (m3 l) (.ext (DitAt (m3 l) (storeK xs kk b u)))) := stp_ext h1
    have tr6 := treps_store (Rep.stp p6 _ _ hqr) ru (Rep.stp p6 _ _ rp3) (tr.mv fun p v r => Rep.stp p6 p v r)
    have S4 : SRep X.K m3 (upd H3 (m3 l) (.ext (DitAt (m3 l) (storeK xs kk b u)))) (st3.set l (.dit (tstore kk p kvs))) := SRep.setO S3 hg rfl ⟨_, upd_same, tr6⟩
    exact F3 σ _ m3 (((t1.trans t2).trans t3).trans t4) S4 (E3.step S3 t4)
/-- a, b = x, y -/
theorem s_par {i j : Nat} {x y : Str} {a b : Expr} {fs : Env → M (List PV)} {px py pt pt2 : Pos} {kt k2 : Nat} (hc : X.calm = true) (hN : X.N.Nodup) (hi : X.N[i]? = some x) (hj : X.N[j]? = some y) (hij : i ≠ j)
    (hx : X.env.scope.names.lookup x = some .local) (hy : X.env.scope.names.lookup y = some .local) (ha : PA X [a, b] (rdA X.K fs)) (hw : swappedStores [.Tuple [.Name x px, .Name y py] kt pt] (.Tuple [a, b] k2 pt2) X.env = pure (some [x, y])) :
    PS X (.Assign [.Tuple [.Name x px, .Name y py] kt pt] (.Tuple [a, b] k2 pt2) pos) (rdS X.K fun r => M.bind (M.bind (fs r) mkTup) fun v => (match setT (.tp (.cons (.nm i) (.cons (.nm j) .nil))) v r with | some r' => M.pure (.nx r') | none => M.err)) := by
  refine PS.conseq (ps_par hc hN hi hj hij hx hy ha hw rfl) fun D σ H ⟨m, r, st, E, S, F⟩ => ⟨m, r, st, E, S, ?_⟩
  simp only [bind_as] at F
  refine FinS.of (rel := Reps X.K) F fun vs H1 m1 st1 ps t1 S1 rs F1 => ?_
  unfold mkTup M.bind at F1
  by_cases hl : ps.length ≤ 16777216
  · rw [if_pos hl] at F1
    match ps, rs, F1 with
    | [p, q], rs, F1 =>
      obtain ⟨v, w, rfl, rp, rq⟩ := reps2 rs
      exact ⟨v, w, rfl, F1 _ H1 m1 t1 S1 (((E.step S t1).set rp).set rq)⟩
    | [], rs, F1 => exact F1.elim
    | [p], rs, F1 => exact F1.elim
    | p :: q :: u :: r, rs, F1 => exact F1.elim
  · rw [if_neg hl] at F1; exact F1.elim
theorem s_par3 {i j l : Nat} {x y z : Str} {a b c : Expr} {fs : Env → M (List PV)} {px py pz pt pt2 : Pos} {kt k2 : Nat} (hc : X.calm = true) (hN : X.N.Nodup) (hi : X.N[i]? = some x) (hj : X.N[j]? = some y) (hl : X.N[l]? = some z) (hij : i ≠ j) (hil : i ≠ l) (hjl : j ≠ l)
    (hx : X.env.scope.names.lookup x = some .local) (hy : X.env.scope.names.lookup y = some .local) (hz : X.env.scope.names.lookup z = some .local) (ha : PA X [a, b, c] (rdA X.K fs))
    (hw : swappedStores [.Tuple [.Name x px, .Name y py, .Name z pz] kt pt] (.Tuple [a, b, c] k2 pt2) X.env = pure (some [x, y, z])) :
    PS X (.Assign [.Tuple [.Name x px, .Name y py, .Name z pz] kt pt] (.Tuple [a, b, c] k2 pt2) pos) (rdS X.K fun r => M.bind (M.bind (fs r) mkTup) fun v => (match setT (.tp (.cons (.nm i) (.cons (.nm j) (.cons (.nm l) .nil)))) v r with | some r' => M.pure (.nx r') | none => M.err)) := by
  refine PS.conseq (ps_par3 hc hN hi hj hl hij hil hjl hx hy hz ha hw rfl) fun D σ H ⟨m, r, st, E, S, F⟩ => ⟨m, r, st, E, S, ?_⟩
  simp only [bind_as] at F
  refine FinS.of (rel := Reps X.K) F fun vs H1 m1 st1 ps t1 S1 rs F1 => ?_
  unfold mkTup M.bind at F1
  by_cases hl : ps.length ≤ 16777216
  · rw [if_pos hl] at F1
    match ps, rs, F1 with
    | [p, q, u], rs, F1 =>
      cases rs with
      | cons rp rs =>
        obtain ⟨v, w, rfl, rq, ru⟩ := reps2 rs
        exact ⟨_, v, w, rfl, F1 _ H1 m1 t1 S1 ((((E.step S t1).set rp).set rq).set ru)⟩
    | [], rs, F1 => exact F1.elim
    | [p], rs, F1 => exact F1.elim
    | [p, q], rs, F1 => exact F1.elim
    | p :: q :: u :: w :: r, rs, F1 => exact F1.elim
  · rw [if_neg hl] at F1; exact F1.elim
end
end Dp


set_option Elab.async false
set_option linter.all false
set_option maxRecDepth 100000
set_option maxHeartbeats 8000000
set_option autoImplicit false
/-! DpStm2: blocks, loops. -/
namespace Dp
open PySem L2 PySem.Spec PyProof.Rows

section
variable {X : Cx} {e tg iter c : Expr} {f : Env → M PV} {fb fa : Env → M Out} {fi : Env → M Itr} {pos : Pos} {t : IT} {body els : List Stmt}
theorem ss_nil : PSs X [] (rdS X.K fun r => M.pure (.nx r)) := PSs.conseq pss_nil fun D σ H ⟨m, r, st, E, S, F⟩ => F σ H m (.refl _ _ _) S E
theorem ss_cons {s : Stmt} {ss : List Stmt} (h1 : PS X s (rdS X.K fa)) (h2 : PSs X ss (rdS X.K fb)) : PSs X (s :: ss) (rdS X.K fun r => M.bind (fa r) fun o => (match o with
    | .nx r2 => fb r2
    | o => M.pure o)) := by
  refine PSs.conseq (pss_cons h1 h2) fun D σ H ⟨m, r, st, E, S, F⟩ => ⟨m, r, st, E, S, FinS.seq F ?_ ?_ ?_ ?_⟩
  · exact fun r' st' σ' H' m' t S' E' F' => ⟨m', r', st', E', S', F'.later t⟩
  · exact fun r' st' σ' H' m' t S' E' F' => F' σ' H' m' t S' E'
  · exact fun r' st' σ' H' m' t S' E' F' => F' σ' H' m' t S' E'
  · exact fun p st' v H' m' t S' rp F' => F' v H' m' t S' rp
theorem s_ife (hc : PT X c (rdB X.K fun r => M.bind (f r) truth)) (ha : PSs X body (rdS X.K fa)) (hb : PSs X els (rdS X.K fb)) : PS X (.If c body els pos) (rdS X.K fun r => M.bind (f r) fun x => M.bind (truth x) fun k => if k then fa r else fb r) := by
  refine PS.conseq (ps_if hc ha hb) fun D σ H ⟨m, r, st, E, S, F⟩ => ?_
  have F : FinS X.K m st H (M.bind (M.bind (f r) truth) (fun k => if k then fa r else fb r) st) D := by rw [bind_as]; exact F
  refine ⟨m, r, st, E, S, FinS.of (rel := relB) F fun v H1 m1 st1 p t S1 rp F1 => ?_⟩
  cases rp
  cases v with
  | true => exact ⟨m1, r, st1, E.step S t, S1, F1.later t⟩
  | false => exact ⟨m1, r, st1, E.step S t, S1, F1.later t⟩
theorem s_for (hp : PassesOwn (model X.prog X.w) X.A X.env X.xe) (hc : X.calm = true) (hi : PI X tg iter (rdI X.K fi)) (hg : PG X tg (rdG X.K t)) (hb : PSs X body (rdS X.K fb)) (hs : ∀ x, foldedSetIterable iter X.env x = pure x) :
    PS X (.For tg iter body [] pos) (rdS X.K fun r => M.bind (fi r) fun J => M.bind (bndM J) fun k => forGo t J fb k 0 r) := by
  refine PS.conseq (ps_for hp hc hi hg hb hs) fun D σ H ⟨m, r, st, E, S, F⟩ => ⟨m, r, st, E, S, FinS.ofI F fun J H1 mJ stJ I tJ SJ JK F1 => ?_⟩
  have F1 : FinS X.K mJ stJ H1 (forGo t I fb (I.bnd stJ + 1) 0 r stJ) D := FinS.later F1 tJ
  refine ⟨fun i k σ H => ∃ m2 st2 r2, Step mJ stJ H1 m2 st2 H ∧ SRep X.K m2 H st2 ∧ ERep X.K m2 st2.nxt H σ r2 ∧ FinS X.K mJ stJ H1 (forGo t I fb k i r2 st2) D, ⟨_, mJ, stJ, r, .refl _ _ _, SJ, E.step S tJ, F1⟩, ?_⟩
  rintro i k σ2 H2 ⟨m2, st2, r2, t2, S2, E2, F⟩
  cases k with
  | zero => exact F.elim
  | succ k =>
    simp only [forGo] at F
    cases e : I.at st2 i with
    | none => rw [e] at F; exact F.elim
    | some o =>
      rw [e] at F
      cases o with
      | none => exact .inl ⟨JK.stop m2 st2 H2 i (t2.stp SJ) S2 e, F σ2 H2 m2 t2 S2 E2⟩
      | some p =>
        obtain ⟨g1, g2⟩ := JK.go m2 st2 H2 i p (t2.stp SJ) S2 e
        refine .inr ⟨g1, fun σ H => ∃ m2 st2 r2, Step mJ stJ H1 m2 st2 H ∧ SRep X.K m2 H st2 ∧ ERep X.K m2 st2.nxt H σ r2 ∧ FinS X.K mJ stJ H1 (forGo t I fb k (i + 1) r2 st2) D, fun σ' H' q => ⟨k, Nat.lt_succ_self k, q⟩, fun x H3 y => ?_⟩
        obtain ⟨t3, S3, rp⟩ := g2 x H3 y
        simp only at F
        cases e2 : setT t p r2 with
        | none => rw [e2] at F; exact F.elim
        | some r' =>
          rw [e2] at F
          refine ⟨m2, r2, st2, p, r', E2.step S2 t3, S3, rp, e2, fun σ' E' sm => ⟨m2, r', st2, E', S3, FinS.seq F ?_ ?_ ?_ ?_⟩⟩
          · exact fun r3 st3 σ3 H4 m4 t4 S4 E4 F4 => ⟨m4, st3, r3, (t2.trans t3).trans t4, S4, E4, F4⟩
          · exact fun r3 st3 σ3 H4 m4 t4 S4 E4 F4 => F4 σ3 H4 m4 ((t2.trans t3).trans t4) S4 E4
          · exact fun r3 st3 σ3 H4 m4 t4 S4 E4 F4 => ⟨m4, st3, r3, (t2.trans t3).trans t4, S4, E4, F4⟩
          · exact fun q st3 v H4 m4 t4 S4 rq F4 => F4 v H4 m4 ((t2.trans t3).trans t4) S4 rq
theorem s_while {W : Nat} (hp : PassesOwn (model X.prog X.w) X.A X.env X.xe) (hc : PT X c (rdB X.K fun r => M.bind (f r) truth)) (hb : PSs X body (rdS X.K fb)) :
    PS X (.While c body [] pos) (rdS X.K fun r => whGo (fun r => M.bind (f r) truth) fb W r) := by
  refine PS.conseq (ps_while hp hc hb) fun D σ H ⟨m, r, st, E, S, F⟩ => ?_
  refine ⟨fun k σ1 H1 => ∃ m1 st1 r1, Step m st H m1 st1 H1 ∧ SRep X.K m1 H1 st1 ∧ ERep X.K m1 st1.nxt H1 σ1 r1 ∧ FinS X.K m st H (whGo (fun r => M.bind (f r) truth) fb k r1 st1) D, ⟨W, m, st, r, .refl _ _ _, S, E, F⟩, ?_⟩
  rintro k σ1 H1 ⟨m1, st1, r1, t1, S1, E1, F⟩
  cases k with
  | zero => exact F.elim
  | succ k =>
    have F : FinS X.K m st H (M.bind (M.bind (f r1) truth) (fun b => if b then M.bind (fb r1) fun o => (match o with
      | .nx r2 => whGo (fun r => M.bind (f r) truth) fb k r2
      | .ct r2 => whGo (fun r => M.bind (f r) truth) fb k r2
      | .bk r2 => M.pure (.nx r2)
      | .rt v => M.pure (.rt v)) else M.pure (.nx r1)) st1) D := F
    refine ⟨m1, r1, st1, E1, S1, FinS.of (rel := relB) F fun b H2 m2 st2 b' t2 S2 rb F2 => ?_⟩
    cases rb
    cases b with
    | false =>
      exact F2 σ1 H2 m2 (t1.trans t2) S2 (E1.step S1 t2)
    | true =>
      rw [if_pos rfl]
      refine ⟨fun σ3 H3 => ∃ m1 st1 r1, Step m st H m1 st1 H3 ∧ SRep X.K m1 H3 st1 ∧ ERep X.K m1 st1.nxt H3 σ3 r1 ∧ FinS X.K m st H (whGo (fun r => M.bind (f r) truth) fb k r1 st1) D, fun σ' H' q => ⟨k, Nat.lt_succ_self k, q⟩, m2, r1, st2, E1.step S1 t2, S2, FinS.seq F2 ?_ ?_ ?_ ?_⟩
      · exact fun r3 st3 σ3 H4 m4 t4 S4 E4 F4 => ⟨m4, st3, r3, (t1.trans t2).trans t4, S4, E4, F4⟩
      · exact fun r3 st3 σ3 H4 m4 t4 S4 E4 F4 => F4 σ3 H4 m4 ((t1.trans t2).trans t4) S4 E4
      · exact fun r3 st3 σ3 H4 m4 t4 S4 E4 F4 => ⟨m4, st3, r3, (t1.trans t2).trans t4, S4, E4, F4⟩
      · exact fun q st3 v H4 m4 t4 S4 rq F4 => F4 v H4 m4 ((t1.trans t2).trans t4) S4 rq
/-- name op= e, of ints -/
def augOk : BO → Bool
  | .add => true
  | .sub => true
  | _ => false
theorem ip_ok {o : BO} (ho : augOk o = true) : PIp X (opOf o) (rd2 X.K (augM o)) := by
  intro pins s σ H x y v u Q I rx ry ⟨m, st, p, q, S, rp, rq, F⟩
  cases o <;> first | (cases ho; done) | skip
  · cases p <;> cases q <;> first | exact F.elim | skip
    cases rp
    cases rq
    exact ip_add pins s σ H _ _ v u Q I rx ry ⟨_, _, rfl, rfl, FinG.done F S (.int _)⟩
  · cases p <;> cases q <;> first | exact F.elim | skip
    cases rp
    cases rq
    exact ip_sub pins s σ H _ _ v u Q I rx ry ⟨_, _, rfl, rfl, FinG.done F S (.int _)⟩
theorem s_aug {i : Nat} {x : Str} {o : BO} {p2 : Pos} (ho : augOk o = true) (hN : X.N.Nodup) (hi : X.N[i]? = some x) (hx : Loc X.env.scope x) (hf : X.fn x = true ∨ X.env.scope.names.lookup x = some .local) (he : PE X e (rd X.K f)) :
    PS X (.AugAssign (.Name x p2) (opOf o) e pos) (rdS X.K fun r => (match r[i]? with
    | some (some x) => M.bind (f r) fun y => M.bind (augM o x y) fun z => M.pure (.nx (setN i z r))
    | _ => M.err)) := by
  refine PS.conseq (ps_aug hN hi hx he (ip_ok ho) hf) fun D σ H ⟨m, r, st, E, S, F⟩ => ?_
  simp only at F
  cases e1 : r[i]? with
  | none => rw [e1] at F; exact F.elim
  | some o1 =>
    cases o1 with
    | none => rw [e1] at F; exact F.elim
    | some p =>
      rw [e1] at F
      obtain ⟨v, e2, rv⟩ := E.at_ i p e1
      refine ⟨v, e2, m, r, st, E, S, FinS.of (rel := Rep X.K) F fun y H1 m1 st1 q t1 S1 rq F1 => ?_⟩
      refine ⟨m1, st1, p, q, S1, Rep.step S t1 p v rv, rq, FinS.of (rel := Rep X.K) F1 fun z H2 m2 st2 w t2 S2 rw_ F2 => ?_⟩
      exact F2 _ H2 m2 (t1.trans t2) S2 (((E.step S t1).step S1 t2).set rw_)
end

/-! ### the check -/
def namesOf (sc : Scope) (ts : List Expr) : List Str := ts.filterMap fun
    | .Name id pos => if sc.names.lookup id == some .local && pos.line == (ts.head?.map (·.pos.line)).getD 0 then some id else none
    | _ => none
def starIn (vs : List Expr) : Bool := vs.any fun x => match x with
  | .Starred .. => true
  | _ => false
def lenBad (ts vs : List Expr) : Bool := !(ts.length == 2 || ts.length == 3) || vs.length != ts.length
def nmBad (sc : Scope) (ts : List Expr) : Bool := (namesOf sc ts).length != ts.length || (namesOf sc ts).eraseDups.length != (namesOf sc ts).length
theorem sw_form {env : PySem.Env} {ts vs : List Expr} {k k2 : Nat} {p p2 : Pos} : swappedStores [.Tuple ts k p] (.Tuple vs k2 p2) env =
    (if (lenBad ts vs || env.blockKind != ScopeKind.function) = true then pure none else if starIn vs = true then pure none else if nmBad env.scope ts = true then pure none else if vs.all (foldedForSure 8) = true then pure none
      else if vs.all (constantsAlone 8) = true then (do unsupported "assign.tuple-of-constant-expressions:order-of-the-stores"; return some (namesOf env.scope ts)) else return some (namesOf env.scope ts)) := by
  unfold swappedStores
  simp only [pure_bind]
  rfl
def swNone (sc : Scope) (ts vs : List Expr) : Bool := lenBad ts vs || starIn vs || nmBad sc ts || vs.all (foldedForSure 8)
theorem sw_none {env : PySem.Env} {ts vs : List Expr} {k k2 : Nat} {p p2 : Pos} (h : swNone env.scope ts vs = true) : swappedStores [.Tuple ts k p] (.Tuple vs k2 p2) env = pure none := by
  rw [sw_form]
  unfold swNone at h
  split
  · rfl
  · rename_i h1
    split
    · rfl
    · rename_i h2
      split
      · rfl
      · rename_i h3
        split
        · rfl
        · rename_i h4
          exfalso
          rw [Bool.or_eq_true, Bool.or_eq_true, Bool.or_eq_true] at h
          rcases h with ((h | h) | h) | h
          · rw [h] at h1; exact h1 rfl
          · exact h2 h
          · exact h3 h
          · exact h4 h
def swSome (sc : Scope) (ts vs : List Expr) (ns : List Str) : Bool := !lenBad ts vs && !starIn vs && !nmBad sc ts && !vs.all (foldedForSure 8) && !vs.all (constantsAlone 8) && decide (namesOf sc ts = ns)
theorem sw_some {env : PySem.Env} {ts vs : List Expr} {ns : List Str} {k k2 : Nat} {p p2 : Pos} (hk : env.scope.kind = .function) (h : swSome env.scope ts vs ns = true) : swappedStores [.Tuple ts k p] (.Tuple vs k2 p2) env = pure (some ns) := by
  have hb : env.blockKind = .function := by unfold PySem.Env.blockKind; rw [hk]; rfl
  unfold swSome at h
  simp only [Bool.and_eq_true, decide_eq_true_eq] at h
  obtain ⟨⟨⟨⟨⟨h1, h2⟩, h3⟩, h4⟩, h5⟩, h6⟩ := h
  rw [sw_form, hb, not_ok h1, not_ok h2, not_ok h3, not_ok h4, not_ok h5, h6]
  rfl
/-- name = [..] is done in place -/
def lcSwap (sc : Scope) (y : Str) (py : Pos) (vpos : Pos) (scope : Scope) : Bool := sc.names.lookup y == some .local && py.line == vpos.line && !(scope.names.any fun (n, k) => n == y && (k == .local || k == .cell))
theorem sw_lcF {env : PySem.Env} {elt : Expr} {gs : List Comprehension} {scope : Scope} {pos py : Pos} {y : Str} {l : Nat} (h : lcSwap env.scope y py pos scope = false) : swapsWithSole [.Name y py] (.ListComp elt gs scope pos) l env = pure false := by
  have e : swapsWithSole [.Name y py] (.ListComp elt gs scope pos) l env = pure (env.blockKind == .function && env.kindOf y == some .local && py.line == pos.line && !(scope.names.any fun (n, k) => n == y && (k == .local || k == .cell))) := rfl
  rw [e]
  unfold lcSwap at h
  rw [show env.kindOf y = env.scope.names.lookup y from rfl, Bool.and_assoc, Bool.and_assoc, ← Bool.and_assoc (env.scope.names.lookup y == some .local), h, Bool.and_false]
theorem sw_lcT {env : PySem.Env} {elt : Expr} {gs : List Comprehension} {scope : Scope} {pos py : Pos} {y : Str} {l : Nat} (hk : env.scope.kind = .function) (h : lcSwap env.scope y py pos scope = true) : swapsWith (.ListComp elt gs scope pos) (some (.Name y py)) l env = pure true ∧ env.scope.names.lookup y = some .local := by
  unfold lcSwap at h
  simp only [Bool.and_eq_true, beq_iff_eq] at h
  exact ⟨sw_true hk h.1.1 (by rw [h.1.2, beq_self_eq_true]) (not_ok h.2), h.1.1⟩
/-- no comprehension -/
def noComp : Expr → Bool
  | .ListComp .. => false
  | .SetComp .. => false
  | .DictComp .. => false
  | _ => true
theorem sw_plain {e : Expr} {tg : Option Expr} {l : Nat} {env : PySem.Env} (h : noComp e = true) : swapsWith e tg l env = pure false := by
  cases e <;> first | (cases h; done) | rfl
theorem sw_plainS {e : Expr} {tg : Expr} {l : Nat} {env : PySem.Env} (h : noComp e = true) : swapsWithSole [tg] e l env = pure false := sw_plain (tg := some tg) h
def isTupE : Expr → Bool
  | .Tuple .. => true
  | _ => false
theorem sw_other {e tg : Expr} {env : PySem.Env} (h : isTupE e = false) : swappedStores [tg] e env = pure none := by
  cases e <;> first | (cases h; done) | (cases tg <;> rfl)
theorem sw_other2 {e tg : Expr} {env : PySem.Env} (h : isTupE tg = false) (h2 : (match tg with | .List .. => false | _ => true) = true) : swappedStores [tg] e env = pure none := by
  cases tg <;> first | (cases h; done) | (cases h2; done) | rfl
section
variable (T : Tab) (N : List Str)
def chkAsg (sc : Scope) (fb : Str → Bool) (t : IT) (e : IE) (tg v : Expr) : Bool :=
  match v with
  | .ListComp elt gs scope vp => (match tg with
    | .Name y py => (if lcSwap sc y py vp scope then (match t, e with
        | .nm i, .lc c => decide (N[i]? = some y) && chkC T N sc c v
        | _, _ => false) else chkT N sc fb t tg && chkE T N sc e v)
    | _ => isTupE tg && chkT N sc fb t tg && chkE T N sc e v)
  | .Tuple vs _ _ => (match tg with
    | .Tuple ts _ _ => (if swNone sc ts vs then chkT N sc fb t tg && chkE T N sc e v else (match t, e, ts, vs with
      | .tp (.cons (.nm i) (.cons (.nm j) .nil)), .tup es, [.Name x _, .Name y _], [a, b] => swSome sc ts vs [x, y] && decide (N[i]? = some x) && decide (N[j]? = some y) && decide (i ≠ j) && decide (sc.names.lookup x = some .local) && decide (sc.names.lookup y = some .local) && chkEs T N sc es [a, b]
      | .tp (.cons (.nm i) (.cons (.nm j) (.cons (.nm l) .nil))), .tup es, [.Name x _, .Name y _, .Name z _], [a, b, c] => swSome sc ts vs [x, y, z] && decide (N[i]? = some x) && decide (N[j]? = some y) && decide (N[l]? = some z) && decide (i ≠ j) && decide (i ≠ l) && decide (j ≠ l) &&
          decide (sc.names.lookup x = some .local) && decide (sc.names.lookup y = some .local) && decide (sc.names.lookup z = some .local) && chkEs T N sc es [a, b, c]
      | _, _, _, _ => false))
    | .Name _ _ => chkT N sc fb t tg && chkE T N sc e v
    | _ => false)
  | _ => noComp v && notStar tg && chkT N sc fb t tg && chkE T N sc e v
mutual
def chkS (sc : Scope) (fb : Str → Bool) : IS → Stmt → Bool
  | .asg t e, s => (match s with | .Assign [tg] v _ => chkAsg T N sc fb t e tg v | _ => false)
  | .setix o i e, s => (match s with | .Assign [.Subscript x y _] v _ => noComp v && plainIx y && chkE T N sc o x && chkE T N sc i y && chkE T N sc e v | _ => false)
  | .dput o i e, s => (match s with | .Assign [.Subscript x y _] v _ => noComp v && plainIx y && chkE T N sc o x && chkE T N sc i y && chkE T N sc e v | _ => false)
  | .tput o i e, s => (match s with | .Assign [.Subscript x y _] v _ => noComp v && plainIx y && chkE T N sc o x && chkE T N sc i y && chkE T N sc e v | _ => false)
  | .aug i o e, s => (match s with | .AugAssign (.Name x _) op v _ => decide (opOf o = op) && augOk o && decide (N[i]? = some x) && (decide (sc.names.lookup x = some .local) || (decide (sc.names.lookup x = some .cell) && fb x)) && chkE T N sc e v | _ => false)
  | .ex e, s => (match s with | .Expr v _ => noComp v && chkE T N sc e v | _ => false)
  | .ret e, s => (match s with | .Return (some v) _ => chkE T N sc e v | _ => false)
  | .retN, s => (match s with | .Return none _ => true | _ => false)
  | .ife c a b, s => (match s with | .If t x y _ => notIf t && chkE T N sc c t && chkSs sc fb a x && chkSs sc fb b y | _ => false)
  | .for t it b, s => (match s with | .For tg iter body [] _ => notSet iter && chkI T N sc tg it iter && chkT N sc fb t tg && chkSs sc fb b body | _ => false)
  | .while c b, s => (match s with | .While t body [] _ => notIf t && chkE T N sc c t && chkSs sc fb b body | _ => false)
  | .brk, s => (match s with | .Break _ => true | _ => false)
  | .cnt, s => (match s with | .Continue _ => true | _ => false)
  | .pas, s => (match s with | .Pass _ => true | .Expr (.Constant (.str _) _ _) _ => true | _ => false)
  | .stuck, _ => true
def chkSs (sc : Scope) (fb : Str → Bool) : ISs → List Stmt → Bool
  | .nil, ss => ss.isEmpty
  | .cons a as, ss => (match ss with | s :: ss => chkS sc fb a s && chkSs sc fb as ss | [] => false)
end
end
section
variable {T : Tab} {F : FT}
theorem sndLcS {X : Cx} (hX : XOk T F X) (hk : X.env.scope.kind = .function) {c : IC} {elt : Expr} {gs : List Comprehension} {scope : Scope} {vp pos py : Pos} {y : Str} {i : Nat} (hy : X.N[i]? = some y) (hl : lcSwap X.env.scope y py vp scope = true) (h : chkC T X.N X.env.scope c (.ListComp elt gs scope vp) = true) :
    ∃ te, PS X (.Assign [.Name y py] (.ListComp elt gs scope vp) pos) (tAsg te (gName i)) ∧ ∀ σ H Q, rdC X.K (evC F c) σ H Q → te σ H Q := by
  obtain ⟨hsw, hyl⟩ := sw_lcT (elt := elt) (gs := gs) (l := pos.line) hk hl
  cases c with
  | one own elt' t it c =>
    unfold chkC at h
    split at h
    · rename_i heq
      cases heq
      simp only [Bool.and_eq_true] at h
      obtain ⟨⟨⟨⟨⟨⟨h1, h2⟩, h3⟩, h4⟩, h5⟩, h6⟩, h7⟩ := h
      exact ⟨_, ps_setLc hX.cx.calm hX.nd hy hyl hsw (sndI it X _ _ hX h4) (blkOk_by h1) (fun s H C cl fp => sndT (X := X.blk s H _ (compEnvC _ cl C X.env) fp) hX.nd hX.cx.calm (fun x hx => hx) t _ h5) (fun s H C cl fp => sndIf c _ _ (hX.blk s H _ _ fp) h6)
        (fun s H C cl fp => (sndE elt' _ _ (hX.blk s H _ _ fp) h7).pe) (notSet_ok h3 _), fun σ H Q q => lc_read (sub_own h2) (by rw [ownP_map]; exact q)⟩
    · cases h
  | two own own1 elt' t it c t1 it1 c1 =>
    unfold chkC at h
    split at h
    · rename_i heq
      cases heq
      simp only [Bool.and_eq_true] at h
      obtain ⟨⟨⟨⟨⟨⟨⟨⟨⟨⟨⟨⟨h1, h2⟩, ha⟩, hb⟩, h3⟩, h3'⟩, h4⟩, h5⟩, h6⟩, h8⟩, h9⟩, h10⟩, h7⟩ := h
      exact ⟨_, ps_setLc2 hX.cx.calm hX.nd hy hyl hsw (sndI it X _ _ hX h4) (blkOk_by h1) (vs1 := own1) (sub_own ha) (fun s H C cl fp => sndT (X := X.blk s H _ (compEnvC _ cl C X.env) fp) hX.nd hX.cx.calm (fun x hx => hx) t _ h5) (fun s H C cl fp => sndIf c _ _ (hX.blk s H _ _ fp) h6)
        (fun s H C cl fp => sndI it1 _ _ _ (hX.blk s H _ _ fp) h8) (fun s H C cl fp => sndT (X := X.blk s H _ (compEnvC _ cl C X.env) fp) hX.nd hX.cx.calm (fun x hx => hx) t1 _ h9) (fun s H C cl fp => sndIf c1 _ _ (hX.blk s H _ _ fp) h10)
        (fun s H C cl fp => (sndE elt' _ _ (hX.blk s H _ _ fp) h7).pe) (notSet_ok h3 _) (notSet_ok h3'), fun σ H Q q => lc_read2 (sub_own h2) (fun i hi => by simpa using (List.all_eq_true.mp hb i hi)) (by rw [ownP_map]; exact q)⟩
    · cases h
theorem sndAsg {X : Cx} (hX : XOk T F X) (hk : X.env.scope.kind = .function) {fb : Str → Bool} (hf : ∀ x, fb x = true → X.fn x = true) {t : IT} {e : IE} {tg v : Expr} {pos : Pos} (h : chkAsg T X.N X.env.scope fb t e tg v = true) :
    PS X (.Assign [tg] v pos) (rdS X.K fun r => M.bind (evE F e r) fun v => (match setT t v r with | some r' => M.pure (.nx r') | none => M.err)) := by
  unfold chkAsg at h
  split at h
  · split at h
    · split at h
      · rename_i hl
        split at h
        · simp only [Bool.and_eq_true, decide_eq_true_eq] at h
          obtain ⟨te, p1, p2⟩ := sndLcS hX hk (pos := pos) h.1 hl h.2
          exact PS.conseq p1 fun D σ H q => asg_lc p2 q
        · cases h
      · rename_i hl
        simp only [Bool.and_eq_true] at h
        exact s_asg (sndE e X _ hX h.2).pe (sndT hX.nd hX.cx.calm hf t _ h.1) (sw_lcF (Bool.eq_false_iff.mpr hl)) (sw_other rfl) (notStarT_ok rfl)
    · simp only [Bool.and_eq_true] at h
      obtain ⟨⟨h1, h2⟩, h3⟩ := h
      cases tg <;> first | (cases h1; done) | skip
      exact s_asg (sndE e X _ hX h3).pe (sndT hX.nd hX.cx.calm hf t _ h2) rfl (sw_other rfl) (notStarT_ok rfl)
  · split at h
    · split at h
      · rename_i hs
        simp only [Bool.and_eq_true] at h
        exact s_asg (sndE e X _ hX h.2).pe (sndT hX.nd hX.cx.calm hf t _ h.1) rfl (sw_none hs) (notStarT_ok rfl)
      · split at h
        · simp only [Bool.and_eq_true, decide_eq_true_eq] at h
          obtain ⟨⟨⟨⟨⟨⟨h1, h2⟩, h3⟩, h4⟩, h5⟩, h6⟩, h7⟩ := h
          exact s_par hX.cx.calm hX.nd h2 h3 h4 h5 h6 (sndEs _ X _ hX h7).1 (sw_some hk h1)
        · simp only [Bool.and_eq_true, decide_eq_true_eq] at h
          obtain ⟨⟨⟨⟨⟨⟨⟨⟨⟨⟨h1, h2⟩, h3⟩, h4⟩, h5⟩, h6⟩, h7⟩, h8⟩, h9⟩, h10⟩, h11⟩ := h
          exact s_par3 hX.cx.calm hX.nd h2 h3 h4 h5 h6 h7 h8 h9 h10 (sndEs _ X _ hX h11).1 (sw_some hk h1)
        · cases h
    · simp only [Bool.and_eq_true] at h
      exact s_asg (sndE e X _ hX h.2).pe (sndT hX.nd hX.cx.calm hf t _ h.1) rfl (sw_other2 rfl rfl) (notStarT_ok rfl)
    · cases h
  · simp only [Bool.and_eq_true] at h
    obtain ⟨⟨⟨h1, h2⟩, h3⟩, h4⟩ := h
    rename_i _ hn
    exact s_asg (sndE e X _ hX h4).pe (sndT hX.nd hX.cx.calm hf t _ h3) (sw_plainS h1) (sw_other (by cases v <;> first | rfl | exact (hn _ _ _ rfl).elim)) (notStarT_ok h2)
variable (W : Nat)
mutual
theorem sndS (X : Cx) (hX : XOk T F X) (hk : X.env.scope.kind = .function) (hp : PassesOwn (model X.prog X.w) X.A X.env X.xe) (fb : Str → Bool) (hf : ∀ x, fb x = true → X.fn x = true) : ∀ (is : IS) (s : Stmt), chkS T X.N X.env.scope fb is s = true → PS X s (rdS X.K (evS F W is))
  | .asg t e, s, h => by
    unfold chkS at h
    split at h
    · exact sndAsg hX hk hf h
    · cases h
  | .setix o i e, s, h => by
    unfold chkS at h
    split at h
    · simp only [Bool.and_eq_true] at h
      obtain ⟨⟨⟨⟨h1, h2⟩, h3⟩, h4⟩, h5⟩ := h
      exact s_setix (sndE e X _ hX h5).pe (sndE o X _ hX h3).pe (sndE i X _ hX h4).pe h2 (sw_plainS h1) (sw_other2 rfl rfl)
    · cases h
  | .dput o i e, s, h => by
    unfold chkS at h
    split at h
    · simp only [Bool.and_eq_true] at h
      obtain ⟨⟨⟨⟨h1, h2⟩, h3⟩, h4⟩, h5⟩ := h
      exact s_dput hX.cx (sndE e X _ hX h5).pe (sndE o X _ hX h3).pe (sndE i X _ hX h4).pe (sw_plain h1)
    · cases h
  | .tput o i e, s, h => by
    unfold chkS at h
    split at h
    · simp only [Bool.and_eq_true] at h
      obtain ⟨⟨⟨⟨h1, h2⟩, h3⟩, h4⟩, h5⟩ := h
      exact s_tput hX.cx (sndE e X _ hX h5).pe (sndE o X _ hX h3).pe (sndE i X _ hX h4).pe (sw_plain h1)
    · cases h
  | .aug i o e, s, h => by
    unfold chkS at h
    split at h
    · simp only [Bool.and_eq_true, Bool.or_eq_true, decide_eq_true_eq] at h
      obtain ⟨⟨⟨⟨h1, h2⟩, h3⟩, h4⟩, h5⟩ := h
      subst h1
      rcases h4 with q | ⟨q1, q2⟩
      · exact s_aug h2 hX.nd h3 (.inl q) (.inr q) (sndE e X _ hX h5).pe
      · exact s_aug h2 hX.nd h3 (.inr q1) (.inl (hf _ q2)) (sndE e X _ hX h5).pe
    · cases h
  | .ex e, s, h => by
    unfold chkS at h
    split at h
    · simp only [Bool.and_eq_true] at h
      exact s_ex (sndE e X _ hX h.2).pe (sw_plain h.1)
    · cases h
  | .ret e, s, h => by
    unfold chkS at h
    split at h
    · exact s_ret (sndE e X _ hX h).pe
    · cases h
  | .retN, s, h => by
    unfold chkS at h
    split at h
    · exact s_retN
    · cases h
  | .ife c a b, s, h => by
    unfold chkS at h
    split at h
    · simp only [Bool.and_eq_true] at h
      obtain ⟨⟨⟨h1, h2⟩, h3⟩, h4⟩ := h
      exact s_ife ((sndE c X _ hX h2).pt h1) (sndSs X hX hk hp fb hf a _ h3) (sndSs X hX hk hp fb hf b _ h4)
    · cases h
  | .for t it b, s, h => by
    unfold chkS at h
    split at h
    · simp only [Bool.and_eq_true] at h
      obtain ⟨⟨⟨h1, h2⟩, h3⟩, h4⟩ := h
      exact s_for hp hX.cx.calm (sndI it X _ _ hX h2) (sndT hX.nd hX.cx.calm hf t _ h3) (sndSs X hX hk hp fb hf b _ h4) (notSet_ok h1 _)
    · cases h
  | .while c b, s, h => by
    unfold chkS at h
    split at h
    · simp only [Bool.and_eq_true] at h
      obtain ⟨⟨h1, h2⟩, h3⟩ := h
      exact s_while hp ((sndE c X _ hX h2).pt h1) (sndSs X hX hk hp fb hf b _ h3)
    · cases h
  | .brk, s, h => by
    unfold chkS at h
    split at h
    · exact s_brk
    · cases h
  | .cnt, s, h => by
    unfold chkS at h
    split at h
    · exact s_cnt
    · cases h
  | .pas, s, h => by
    unfold chkS at h
    split at h
    · exact s_pas
    · exact s_doc
    · cases h
  | .stuck, s, h => s_stuck
theorem sndSs (X : Cx) (hX : XOk T F X) (hk : X.env.scope.kind = .function) (hp : PassesOwn (model X.prog X.w) X.A X.env X.xe) (fb : Str → Bool) (hf : ∀ x, fb x = true → X.fn x = true) : ∀ (is : ISs) (ss : List Stmt), chkSs T X.N X.env.scope fb is ss = true → PSs X ss (rdS X.K (evSs F W is))
  | .nil, ss, h => by
    cases ss with
    | nil => exact ss_nil
    | cons _ _ => cases h
  | .cons a as, ss, h => by
    cases ss with
    | nil => cases h
    | cons s ss =>
      simp only [chkSs, Bool.and_eq_true] at h
      exact ss_cons (sndS X hX hk hp fb hf a s h.1) (sndSs X hX hk hp fb hf as ss h.2)
end
end
end Dp


set_option Elab.async false
set_option linter.all false
set_option maxRecDepth 100000
set_option maxHeartbeats 4000000
set_option autoImplicit false
/-! DpFn: defs, by the depth of their calls; the law's end. -/
namespace Dp
open PySem L2 PySem.Spec PyProof.Rows

abbrev noX : XK := fun _ _ _ => False
/-- a def, called with room for k calls, does what g tells -/
structure FnG (P : Program) (w : World) (K : PySem.W.Frag) (mg : Str → Option Value) (base : Heap) (k : Nat) (f : Addr) (fd : FuncData) (ps : List Str) (g : List PV → M PV) : Prop where
  run : ∀ (A : Around) (outer : List PySem.Env) (s : Shared) (H : Hp) (args : Args) (us : List Value) (vs : List V) (Q : VK), Room (k + 34) A → A.guards = some [] → Env0 P w K mg base A outer s H → (vs.length = ps.length → BindsTo s fd args (ps.zip us)) → Vals vs us → rdL K g vs H Q →
    codeAny (model P w) A (.call (.ref f) args) (CR CX0 outer P w H s Q noX) s

theorem getL_gone {n l : Nat} (hl : ¬ l < n) : ∀ obs : List (Nat × PO), getL l (obs.filter fun p => decide (p.1 < n)) = none
  | [] => rfl
  | (k, u) :: r => by
    rw [List.filter_cons]
    by_cases hq : k < n
    · rw [if_pos (decide_eq_true hq), getL, if_neg (fun z => hl (by rw [← beq_iff_eq.mp z]; exact hq))]
      exact getL_gone hl r
    · rw [if_neg (by rw [decide_eq_false hq]; decide)]
      exact getL_gone hl r
theorem getL_filter {n l : Nat} {o : PO} : ∀ {obs : List (Nat × PO)}, getL l (obs.filter fun p => decide (p.1 < n)) = some o → getL l obs = some o
  | [], h => by cases h
  | (k, u) :: r, h => by
    rw [List.filter_cons] at h
    by_cases hk : k < n
    · rw [if_pos (decide_eq_true hk), getL] at h
      rw [getL]
      by_cases e : (k == l) = true
      · rw [if_pos e] at h ⊢; exact h
      · rw [if_neg e] at h ⊢; exact getL_filter h
    · rw [if_neg (by rw [decide_eq_false hk]; decide)] at h
      rw [getL]
      by_cases e : (k == l) = true
      · rw [getL_gone (by rw [← beq_iff_eq.mp e]; exact hk)] at h
        cases h
      · rw [if_neg e]; exact getL_filter h
section
variable {K : PySem.W.Frag} {m m1 : Pl} {st st1 : Sto} {H H1 : Hp} {n : Nat}
theorem drop_get {l : Nat} {o : PO} (h : (st.drop n).get l = some o) : st.get l = some o := getL_filter h
theorem SRep.drop (s : SRep K m H st) (n : Nat) : SRep K m H (st.drop n) :=
  ⟨fun l o e => s.ob l o (drop_get e), fun l k xs ys e1 e2 m1 m2 q => s.inj l k xs ys (drop_get e1) (drop_get e2) m1 m2 q⟩
theorem Step.drop (t : Step m st H m1 st1 H1) (n : Nat) : Step m st H m1 (st1.drop n) H1 :=
  ⟨t.nx, t.mu, t.fr, fun a h => by obtain ⟨l, xs, e, hm, q⟩ := h; exact t.ow a ⟨l, xs, drop_get e, hm, q⟩⟩
end

/-- the body's reading gives the def's -/
theorem fn_read {K : PySem.W.Frag} {F : FT} {W : Nat} {d : IFn} {N : List Str} {vs : List V} {H : Hp} {Q : VK} (hn : d.ns = N.length) (h : rdL K (runFn F W d) vs H Q) (hl : d.np ≤ N.length) :
    vs.length = d.np ∧ rdS K (evSs F W d.body) { nx := fun _ H' => Q .non H', rt := Q } (L2.start N vs) H := by
  obtain ⟨m, st, ps, S, rs, F0⟩ := h
  unfold runFn at F0
  by_cases hp : ps.length = d.np
  · rw [if_pos hp] at F0
    have hv : vs.length = d.np := rs.length.trans hp
    refine ⟨hv, m, ps.map some ++ List.replicate (d.ns - d.np) none, st, ⟨?_, fun i p e => ?_⟩, S, ?_⟩
    · unfold L2.start
      rw [List.length_append, List.length_map, List.length_replicate, List.length_append, List.length_map, List.length_replicate, hn, hv, hp]
    · by_cases hi : i < ps.length
      · rw [List.getElem?_append_left (by rw [List.length_map]; exact hi), List.getElem?_map] at e
        cases e1 : ps[i]? with
        | none => rw [e1] at e; cases e
        | some q =>
          rw [e1] at e
          cases e
          obtain ⟨v, e2, r⟩ := rs.get e1
          refine ⟨v, ?_, r⟩
          unfold L2.start
          rw [List.getElem?_append_left (by rw [List.length_map, rs.length]; exact hi), List.getElem?_map, e2]
          rfl
      · rw [List.getElem?_append_right (by rw [List.length_map]; exact Nat.le_of_not_lt hi), List.getElem?_replicate] at e
        split at e <;> cases e
    · have dn : ∀ {s' : Sto} {m' : Pl} {H' : Hp}, Step m st H m' s' H' → SRep K m' H' s' → Step m st H m' (if d.keep then s' else s'.drop st.nxt) H' ∧ SRep K m' H' (if d.keep then s' else s'.drop st.nxt) ∧ (if d.keep then s' else s'.drop st.nxt).nxt = s'.nxt := fun {s' m' H'} t S' => by
        cases d.keep with
        | true => exact ⟨t, S', rfl⟩
        | false => exact ⟨t.drop _, S'.drop _, rfl⟩
      cases e : evSs F W d.body (ps.map some ++ List.replicate (d.ns - d.np) none) st with
      | err => rw [e] at F0; exact F0
      | ok o s' =>
        rw [e] at F0
        cases o with
        | nx r' =>
          intro σ' H' m' t S' E'
          obtain ⟨a, b, c⟩ := dn t S'
          exact F0 .non H' m' a b .non
        | rt p =>
          intro v H' m' t S' rp
          obtain ⟨a, b, c⟩ := dn t S'
          exact F0 v H' m' a b (by rw [c]; exact rp)
        | bk r' => exact F0.elim
        | ct r' => exact F0.elim
  · rw [if_neg hp] at F0; exact F0.elim

/-- a def as it stands behind the top, whatever its defaults are -/
structure DefAt (K : PySem.W.Frag) (x qual : Str) (st : Stmt) (f : Addr) (fd : FuncData) : Prop where
  ex : ∃ (oc : Value) (od : Option Addr) (dV kV doc pm : Value) (an : Option Addr) (cdv ct : Value) (osl : Array (Option Value)),
    fd = PySem.W.fnOf x qual (defArgs st) (defBody st) (defScope st) dV kV doc pm an cdv ct ∧ K.lookup f = some ⟨oc, od, .func fd, osl⟩ ∧ PySem.W.codeIn K cdv qual = true
  kp : PySem.W.keepIn K (.ref f) = true
theorem DefAt.ofFun {K : PySem.W.Frag} {x qual : Str} {st : Stmt} {f : Addr} {fd : FuncData} (F : L2.Fun K x qual st f fd) : DefAt K x qual st f fd := by
  obtain ⟨oc, od, kV, doc, pm, an, cdv, ct, osl, h⟩ := F.ex
  exact ⟨⟨oc, od, .none, kV, doc, pm, an, cdv, ct, osl, h⟩, F.kp⟩
theorem DefAt.ofFunD {K : PySem.W.Frag} {x qual : Str} {st : Stmt} {dvs : List V} {kws : List (Str × V)} {f : Addr} {fd : FuncData} (F : L2.FunD K x qual (defArgs st) (defBody st) (defScope st) dvs kws f fd) : DefAt K x qual st f fd := by
  obtain ⟨oc, od, dV, kV, doc, pm, an, cdv, ct, osl, h1, h2, h3, _, _⟩ := F.ex
  exact ⟨⟨oc, od, dV, kV, doc, pm, an, cdv, ct, osl, h1, h2, h3⟩, F.kp⟩
/-- the def's own text -/
theorem fnG_of {P : Program} {w : World} {K : PySem.W.Frag} {mg : Str → Option Value} {base : Heap} {k : Nat} {f : Addr} {x qual : Str} {sm : Stmt} {fd : FuncData} {N ps : List Str} {T : Tab} {F : FT} {W : Nat} {d : IFn}
    (Fn : DefAt K x qual sm f fd) (S : FnScope N ps (defScope sm)) (hb : chkSs T N (defScope sm) (fun _ => true) d.body (defBody sm) = true) (hns : d.ns = N.length) (hnp : d.np = ps.length)
    (hseer : base.NoSeer) (htr : P.given.tree = none)
    (hX : ∀ (X : Cx), X.prog = P → X.w = w → X.K = K → X.mg = mg → X.base = base → X.N = N → X.calm = true → X.A.guards = some [] → Room (k + 34) X.A → (∀ h : Heap, (∀ b o, X.base.get? b = some o → h.get? b = some o) → PySem.SeerAt (model X.prog X.w) X.A h) → XOk T F X) :
    FnG P w K mg base (k + 1) f fd ps (runFn F W d) := by
  refine ⟨fun A outer s H args us vs Q hr hgd e0 hbd r h => ?_⟩
  obtain ⟨oc, od, dV, kV, doc, pm, an, cdv, ct, osl, rfl, lk, hcd⟩ := Fn.ex
  have hpl : d.np ≤ N.length := by rw [hnp]; have := congrArg List.length S.pre; rw [List.length_take] at this; omega
  obtain ⟨hv, hread⟩ := fn_read hns h hpl
  have hl : vs.length = ps.length := hv.trans hnp
  have KX : K.In s.heap := e0.mod.kin.keeps fun b o e => (e0.bs b o e).1
  have lim : s.heap.NoLimit := e0.mod.nolimit.keeps fun b o e => (e0.bs b o e).1
  refine Att.call_fn KX lim lk hcd hr.depth (hbd hl) ?_ (fun s₁ x => ?_) S.co S.gen S.kind
  · rw [List.all_eq_true]
    rintro ⟨n, u⟩ hy
    rcases S.par n (List.of_mem_zip hy).1 with q | q
    · rw [q]; rfl
    · rw [q]; rfl
  · have J := inv_start (CX := CX0) (P := P) (w := w) (K := K) (mg := mg) (base := base) (E := noX) S hr.hd e0 hl r x
    have ok := hX (cxOf CX0 P w K mg base N qual (defScope sm) f cdv A outer s H noX).nox rfl rfl rfl rfl rfl rfl rfl hgd ((hr.mono (by omega) : Room (k + 34 + 1) A).deeper _)
      (fun h hk => PySem.SeerAt.of (hseer.keeps hk) htr (PySem.Around.frames_deeper e0.frames) S.gen S.co rfl rfl)
    have hS := sndSs W (cxOf CX0 P w K mg base N qual (defScope sm) f cdv A outer s H noX).nox ok S.kind .never (fun _ => true) (fun _ _ => rfl) d.body (defBody sm) hb
    refine wpAny_mono (hS.run [] s₁ (L2.start N vs) H _ (J.wish _) hread) (fun fl s' hs => ?_) fun e s' z => z.elim
    cases fl with
    | ret u =>
      obtain ⟨v, σ', H', I', rv, q⟩ := hs
      exact ⟨v, H', I'.os, I'.bare, I'.base, I'.hok, rv, q⟩
    | next =>
      obtain ⟨σ', H', I', q⟩ := hs
      exact ⟨V.non, H', I'.os, I'.bare, I'.base, I'.hok, rfl, q⟩
    | brk => obtain ⟨_, _, _, q⟩ := hs; exact q.elim
    | cont => obtain ⟨_, _, _, q⟩ := hs; exact q.elim
/-- a call of it -/
theorem call_fnG {X : Cx} {k : Nat} {f : Addr} {fd : FuncData} {ps : List Str} {g : List PV → M PV} (Fn : FnG X.prog X.w X.K X.mg X.base k f fd ps g) (hr : Room (k + 34) X.A) (hg : X.A.guards = some []) (hb : Binds X.K fd ps []) : CallR X (.ref f) (rdL X.K g) := by
  intro pins s σ H xs us Q I r h
  refine wpAny_call (codeAny_mono (Fn.run X.A X.stack s H ⟨us, []⟩ us xs Q hr hg I.env0 (fun hl => ?_) r h) fun r s' hq => ?_)
  · have := hb s us I.kIn (by rw [List.append_nil, ← hl]; exact r.length.symm)
    rwa [List.append_nil] at this
  · cases r with
    | error e => exact False.elim hq
    | ok fl => cases fl <;> first | exact I.after hq | exact False.elim hq

structure StarB (fd : FuncData) (ps : List Str) (n : Nat) : Prop where
  ln : ps.length = n + 1
  eq : ∀ us rest : List Value, us.length = n → bindArgs fd ⟨us ++ rest, []⟩ = (newTuple rest >>= fun t => pure (ps.zip (us ++ [t])))
def FnS (P : Program) (w : World) (K : PySem.W.Frag) (mg : Str → Option Value) (base : Heap) (k : Nat) (f : Addr) (n : Nat) (g : List PV → M PV) : Prop :=
  ∀ (A : Around) (outer : List PySem.Env) (s : Shared) (H : Hp) (us : List Value) (vs : List V) (Q : VK), Room (k + 34) A → A.guards = some [] → Env0 P w K mg base A outer s H → Vals vs us → rdL K (starM g n) vs H Q →
    codeAny (model P w) A (.call (.ref f) ⟨us, []⟩) (CR CX0 outer P w H s Q noX) s
theorem star_of {P : Program} {w : World} {K : PySem.W.Frag} {mg : Str → Option Value} {base : Heap} {k n : Nat} {f : Addr} {x qual : Str} {sm : Stmt} {fd : FuncData} {N ps : List Str} {T : Tab} {F : FT} {W : Nat} {d : IFn}
    (Fn : DefAt K x qual sm f fd) (S : FnScope N ps (defScope sm)) (hb : chkSs T N (defScope sm) (fun _ => true) d.body (defBody sm) = true) (hns : d.ns = N.length) (hnp : d.np = ps.length)
    (hseer : base.NoSeer) (htr : P.given.tree = none) (sb : StarB fd ps n)
    (hX : ∀ (X : Cx), X.prog = P → X.w = w → X.K = K → X.mg = mg → X.base = base → X.N = N → X.calm = true → X.A.guards = some [] → Room (k + 34) X.A → (∀ h : Heap, (∀ b o, X.base.get? b = some o → h.get? b = some o) → PySem.SeerAt (model X.prog X.w) X.A h) → XOk T F X) :
    FnS P w K mg base (k + 1) f n (runFn F W d) := by
  intro A outer s H us vs Q hr hgd e0 r h
  obtain ⟨oc, od, dV, kV, doc, pm, an, cdv, ct, osl, rfl, lk, hcd⟩ := Fn.ex
  obtain ⟨m, st, qs, SR, rs, F0⟩ := h
  unfold starM at F0
  by_cases hq : n ≤ qs.length ∧ qs.length ≤ 100000
  · rw [if_pos hq] at F0
    have hvl : vs.length = qs.length := rs.length
    have hpl : d.np ≤ N.length := by rw [hnp]; have := congrArg List.length S.pre; rw [List.length_take] at this; omega
    obtain ⟨u1, u2, eu, r1, r2⟩ := StX.vals_split (ws := vs.take n) (rest := vs.drop n) (by rw [List.take_append_drop]; exact r)
    subst eu
    have hl1 : u1.length = n := by rw [← r1.length, List.length_take]; omega
    have hz : (vs.drop n).length ≤ sizeLine := by
      rw [List.length_drop]
      have : sizeLine = 16777216 := sizeLine_eq
      omega
    have hn : H s.heap.objs.size = none := e0.hok.fresh (Nat.le_refl _)
    refine StX.run_bnd (k := k + 34) lk hcd S (hr.mono (by omega)) e0 (G := fun xs H2 => ∃ (p : Addr) (o : Obj), H p = none ∧ o.dict = none ∧ xs = vs.take n ++ [V.ref p] ∧ H2 = upd H p (.frz o (.tup (vs.drop n)))) (fun A' Ex Q' h => ?_) fun s2 H2 xs ⟨p, o, hp, hd, ex, eH⟩ hr' => ?_
    · rw [sb.eq u1 u2 hl1]
      refine wpAny_bind (wpAny_newTuple (wpAny_pure ?_) (by rw [← r2.length]; exact hz))
      have gp : (s.heap.push (tupO u2)).get? s.heap.objs.size = some (tupO u2) := Heap.get?_push_size _ rfl
      have new : ObjOk P w (upd H s.heap.objs.size (.frz (tupO u2) (.tup (vs.drop n)))) (s.heap.push (tupO u2)) s.heap.objs.size (.frz (tupO u2) (.tup (vs.drop n))) := ⟨gp, hz, u2, r2, _, gp, rfl, _, rfl⟩
      have un := StX.un_laid (fs := frs outer) (s := s) (o := tupO u2) (u := .frz (tupO u2) (.tup (vs.drop n))) hn
      have z := h _ _ (vs.take n ++ [V.ref s.heap.objs.size]) (u1 ++ [Value.ref s.heap.objs.size]) (StX.env0_laid e0 new) un rfl (fun e s' q => q) (r1.append (.cons rfl .nil)) (by rw [List.length_append, List.length_take, sb.ln]; simp; omega) ⟨_, _, hn, rfl, rfl, rfl⟩
      exact z
    · subst ex eH
      obtain ⟨t, S2, R2⟩ := new_tup SR hp hd (Reps.drop n rs)
      have hh : rdL K (runFn F W d) (vs.take n ++ [V.ref p]) (upd H p (.frz o (.tup (vs.drop n)))) Q :=
        ⟨m, st, qs.take n ++ [.tup (qs.drop n)], S2, (Reps.step SR t _ _ (Reps.take n rs)).append (.cons R2 .nil), F0.later t⟩
      obtain ⟨hv, hread⟩ := fn_read hns hh hpl
      have ok := hX (cxOf CX0 P w K mg base N qual (defScope sm) f cdv A outer s2 (upd H p (.frz o (.tup (vs.drop n)))) noX).nox rfl rfl rfl rfl rfl rfl rfl hgd hr'
        (fun h hk => PySem.SeerAt.of (hseer.keeps hk) htr (PySem.Around.frames_deeper e0.frames) S.gen S.co rfl rfl)
      have hS := sndSs W (cxOf CX0 P w K mg base N qual (defScope sm) f cdv A outer s2 (upd H p (.frz o (.tup (vs.drop n)))) noX).nox ok S.kind .never (fun _ => true) (fun _ _ => rfl) d.body (defBody sm) hb
      exact ⟨_, hS.nox, hread⟩
  · rw [if_neg hq] at F0
    exact F0.elim
/-- a call of it -/
theorem call_star {X : Cx} {k n : Nat} {f : Addr} {g : List PV → M PV} (Fn : FnS X.prog X.w X.K X.mg X.base k f n g) (hr : Room (k + 34) X.A) (hg : X.A.guards = some []) : CallR X (.ref f) (rdL X.K (starM g n)) := by
  intro pins s σ H xs us Q I r h
  refine wpAny_call (codeAny_mono (Fn X.A X.stack s H us xs Q hr hg I.env0 r h) fun r s' hq => ?_)
  cases r with
  | error e => exact False.elim hq
  | ok fl => cases fl <;> first | exact I.after hq | exact False.elim hq
/-- how keywords bind -/
def KwB (K : PySem.W.Frag) (fd : FuncData) (ps ks : List Str) (pm : List Nat) : Prop := ∀ (s : Shared) (ws : List Value), K.In s.heap → (pmG pm ws).length = ps.length → BindsTo s fd ⟨[], ks.zip ws⟩ (ps.zip (pmG pm ws))
theorem vals_pm {xs : List V} {us : List Value} (h : Vals xs us) : ∀ pm : List Nat, Vals (pmG pm xs) (pmG pm us)
  | [] => .nil
  | i :: pm => by
    have ih := vals_pm h pm
    unfold pmG at ih ⊢
    rw [List.filterMap_cons, List.filterMap_cons]
    cases e : xs[i]? with
    | some x =>
      obtain ⟨u, e2, r⟩ := h.get e
      rw [e2]
      exact .cons r ih
    | none =>
      have e2 : us[i]? = none := by
        rw [List.getElem?_eq_none_iff] at e ⊢
        rw [← h.length]
        exact e
      rw [e2]
      exact ih
theorem call_fnGk {X : Cx} {k : Nat} {f : Addr} {fd : FuncData} {ps ks : List Str} {pm : List Nat} {g : List PV → M PV} (Fn : FnG X.prog X.w X.K X.mg X.base k f fd ps g) (hr : Room (k + 34) X.A) (hg : X.A.guards = some []) (hb : KwB X.K fd ps ks pm) : CallKR X (.ref f) ks pm (rdL X.K g) := by
  intro pins s σ H xs us Q I r h
  have r2 := vals_pm r pm
  refine wpAny_call (codeAny_mono (Fn.run X.A X.stack s H ⟨[], ks.zip us⟩ (pmG pm us) (pmG pm xs) Q hr hg I.env0 (fun hl => hb s us I.kIn (by rw [← r2.length]; exact hl)) r2 h) fun r s' hq => ?_)
  cases r with
  | error e => exact False.elim hq
  | ok fl => cases fl <;> first | exact I.after hq | exact False.elim hq
/-- the def whose last parameter is not given -/
abbrev dfl1 (d : IFn) (c : PV) : IFn := ⟨d.np - 1, d.ns, d.keep, .cons (.asg (.nm (d.np - 1)) (.cst c)) d.body⟩
theorem env_dfl {ps : List PV} {c : PV} {n m : Nat} (h : ps.length = n) (hm : n < m) : (ps.map some ++ List.replicate (m - n) (none : Option PV)).set n (some c) = (ps ++ [c]).map some ++ List.replicate (m - (n + 1)) none := by
  obtain ⟨k, rfl⟩ : ∃ k, m = n + 1 + k := ⟨m - (n + 1), by omega⟩
  rw [show n + 1 + k - n = k + 1 by omega, show n + 1 + k - (n + 1) = k by omega, List.replicate_succ, List.map_append, List.append_assoc]
  rw [List.set_append_right _ _ (by rw [List.length_map]; omega), List.length_map, h, Nat.sub_self]
  rfl
theorem run_dfl {F : FT} {W : Nat} {d : IFn} {c : PV} {ps : List PV} {s : Sto} (h1 : 1 ≤ d.np) (h2 : d.np ≤ d.ns) (hp : ps.length = d.np - 1) : runFn F W (dfl1 d c) ps s = runFn F W d (ps ++ [c]) s := by
  have e : evSs F W (.cons (.asg (.nm (d.np - 1)) (.cst c)) d.body) (ps.map some ++ List.replicate (d.ns - (d.np - 1)) none) s = evSs F W d.body ((ps ++ [c]).map some ++ List.replicate (d.ns - d.np) none) s := by
    have := env_dfl (c := c) hp (show d.np - 1 < d.ns by omega)
    rw [show d.np - 1 + 1 = d.np by omega] at this
    rw [← this]
    rfl
  show (if ps.length = d.np - 1 then (match evSs F W (.cons (.asg (.nm (d.np - 1)) (.cst c)) d.body) (ps.map some ++ List.replicate (d.ns - (d.np - 1)) none) s with
    | .ok (.nx _) s' => R.ok PV.non (if d.keep then s' else s'.drop s.nxt)
    | .ok (.rt v) s' => .ok v (if d.keep then s' else s'.drop s.nxt)
    | _ => .err) else .err) = (if (ps ++ [c]).length = d.np then (match evSs F W d.body ((ps ++ [c]).map some ++ List.replicate (d.ns - d.np) none) s with
    | .ok (.nx _) s' => R.ok PV.non (if d.keep then s' else s'.drop s.nxt)
    | .ok (.rt v) s' => .ok v (if d.keep then s' else s'.drop s.nxt)
    | _ => .err) else .err)
  rw [if_pos hp, if_pos (by rw [List.length_append]; simp; omega), e]
/-- .. and a call that leaves the last parameter to its default -/
theorem call_fnG1 {X : Cx} {k : Nat} {f : Addr} {fd : FuncData} {ps : List Str} {g g1 : List PV → M PV} {c : PV} {dv : V} {du : Value} (Fn : FnG X.prog X.w X.K X.mg X.base k f fd ps g) (hr : Room (k + 34) X.A) (hg : X.A.guards = some []) (hb : Binds X.K fd ps [du]) (hd : RelV dv du) (hc : ∀ m n H, Rep X.K m n H dv c)
    (e : ∀ vs s, (g1 vs s = .err ∨ g1 vs s = g (vs ++ [c]) s)) : CallR X (.ref f) (rdL X.K g1) := by
  intro pins s σ H xs us Q I r h
  have h2 : rdL X.K g (xs ++ [dv]) H Q := by
    obtain ⟨m, st, qs, S, rs, F0⟩ := h
    refine ⟨m, st, qs ++ [c], S, rs.append (.cons (hc _ _ _) .nil), ?_⟩
    rcases e qs st with z | z
    · rw [z] at F0; exact F0.elim
    · rw [z] at F0; exact F0
  have r2 : Vals (xs ++ [dv]) (us ++ [du]) := r.append (.cons hd .nil)
  refine wpAny_call (codeAny_mono (Fn.run X.A X.stack s H ⟨us, []⟩ (us ++ [du]) (xs ++ [dv]) Q hr hg I.env0 (fun hl => ?_) r2 h2) fun r s' hq => ?_)
  · exact hb s us I.kIn (by rw [← r2.length]; exact hl)
  · cases r with
    | error e => exact False.elim hq
    | ok fl => cases fl <;> first | exact I.after hq | exact False.elim hq

/-! ### all defs of the text -/
/-- a def of the text -/
structure DefI where
  d : IFn
  x : Str
  fa : Addr
  fd : FuncData
  sm : Stmt
  N : List Str
  ps : List Str
  nm : Str
/-- the body d0 is the text's -/
structure DefB (K : PySem.W.Frag) (T : Tab) (i : DefI) (d0 : IFn) : Prop where
  fn : DefAt K i.x i.x i.sm i.fa i.fd
  sc : FnScope i.N i.ps (defScope i.sm)
  ck : chkSs T i.N (defScope i.sm) (fun _ => true) d0.body (defBody i.sm) = true
  ns : d0.ns = i.N.length
  np : d0.np = i.ps.length
structure DefOk (K : PySem.W.Frag) (T : Tab) (mg : Str → Option Value) (i : DefI) : Prop where
  mg : mg i.nm = some (.ref i.fa)
  bd : (DefB K T i i.d ∧ Binds K i.fd i.ps []) ∨ ∃ (d0 : IFn) (c : PV) (dv : V) (du : Value), DefB K T i d0 ∧ i.d = dfl1 d0 c ∧ 1 ≤ d0.np ∧ Binds K i.fd i.ps [du] ∧ RelV dv du ∧ ∀ m n H, Rep K m n H dv c
theorem DefOk.kp {K : PySem.W.Frag} {T : Tab} {mg : Str → Option Value} {i : DefI} (h : DefOk K T mg i) : PySem.W.keepIn K (.ref i.fa) = true := by
  rcases h.bd with ⟨b, _⟩ | ⟨_, _, _, _, b, _⟩ <;> exact b.fn.kp
/-- a def without defaults -/
theorem DefOk.mk0 {K : PySem.W.Frag} {T : Tab} {mg : Str → Option Value} {i : DefI} (fn : L2.Fun K i.x i.x i.sm i.fa i.fd) (sc : FnScope i.N i.ps (defScope i.sm)) (ck : chkSs T i.N (defScope i.sm) (fun _ => true) i.d.body (defBody i.sm) = true) (ns : i.d.ns = i.N.length) (np : i.d.np = i.ps.length) (hm : mg i.nm = some (.ref i.fa)) (bd : Binds K i.fd i.ps []) : DefOk K T mg i :=
  ⟨hm, .inl ⟨⟨.ofFun fn, sc, ck, ns, np⟩, bd⟩⟩
/-- a def with one default, always given -/
theorem DefOk.mkG {K : PySem.W.Frag} {T : Tab} {mg : Str → Option Value} {i : DefI} {dvs : List V} {kws : List (Str × V)} (fn : L2.FunD K i.x i.x (defArgs i.sm) (defBody i.sm) (defScope i.sm) dvs kws i.fa i.fd) (sc : FnScope i.N i.ps (defScope i.sm)) (ck : chkSs T i.N (defScope i.sm) (fun _ => true) i.d.body (defBody i.sm) = true) (ns : i.d.ns = i.N.length) (np : i.d.np = i.ps.length) (hm : mg i.nm = some (.ref i.fa))
    (bd : ∃ ds, Vals [] ds ∧ Binds K i.fd i.ps ds) : DefOk K T mg i := by
  obtain ⟨ds, r, b⟩ := bd
  cases r
  exact ⟨hm, .inl ⟨⟨.ofFunD fn, sc, ck, ns, np⟩, b⟩⟩
/-- a def with one default, never given -/
theorem DefOk.mkD {K : PySem.W.Frag} {T : Tab} {mg : Str → Option Value} {i : DefI} {dvs : List V} {kws : List (Str × V)} {d0 : IFn} {c : PV} {dv : V} (fn : L2.FunD K i.x i.x (defArgs i.sm) (defBody i.sm) (defScope i.sm) dvs kws i.fa i.fd) (sc : FnScope i.N i.ps (defScope i.sm)) (ck : chkSs T i.N (defScope i.sm) (fun _ => true) d0.body (defBody i.sm) = true) (ns : d0.ns = i.N.length) (np : d0.np = i.ps.length) (hm : mg i.nm = some (.ref i.fa))
    (hd : i.d = dfl1 d0 c) (h1 : 1 ≤ d0.np) (bd : ∃ ds, Vals [dv] ds ∧ Binds K i.fd i.ps ds) (hr : ∀ m n H, Rep K m n H dv c) : DefOk K T mg i := by
  obtain ⟨ds, r, b⟩ := bd
  cases r with
  | cons h1' h2 =>
    cases h2
    exact ⟨hm, .inr ⟨d0, c, dv, _, ⟨.ofFunD fn, sc, ck, ns, np⟩, hd, h1, b, h1', hr⟩⟩
/-- the text: its defs by number, its names -/
structure TextOk (K : PySem.W.Frag) (T : Tab) (mg : Str → Option Value) (L : List DefI) : Prop where
  tab : ∀ x f, fnB T x f = true → ∃ i, L[f]? = some i ∧ i.nm = x ∧ DefOk K T mg i
  cs : ∀ x v, T.cs x = some v → ∃ u w, mg x = some u ∧ RelV w u ∧ ∀ m n H, Rep K m n H w v
  nn : ∀ x, T.nn x = true → mg x = none
  isi : mg "isinstance" = none
  kf : ∀ x f, T.fn x = some f → T.kf f = true → ∃ fa, mg x = some (.ref fa) ∧ KeyFn K mg fa
  kw : ∀ f ks pm, T.kw f ks = some pm → ∃ i, L[f]? = some i ∧ DefB K T i i.d ∧ KwB K i.fd i.ps ks pm
  st : ∀ x f n, T.st x = some (f, n) → ∃ i, L[f]? = some i ∧ mg x = some (.ref i.fa) ∧ DefB K T i i.d ∧ StarB i.fd i.ps n
abbrev progOf (L : List DefI) : Nat → Option IFn := fun f => (L.map (·.d))[f]?
/-- a body, with room for k calls -/
def gOf (L : List DefI) (W : Nat) (d : IFn) : Nat → List PV → M PV
  | 0 => fun _ => M.err
  | k + 1 => runFn (run (progOf L) W k) W d
theorem run_gOf {L : List DefI} {W f : Nat} {i : DefI} (e : L[f]? = some i) : ∀ k, run (progOf L) W k f = gOf L W i.d k
  | 0 => rfl
  | k + 1 => by
    funext vs
    show (match (L.map (·.d))[f]? with | some fn => runFn (run (progOf L) W k) W fn vs | none => M.err) = _
    rw [List.getElem?_map, e]
    rfl
theorem gOf_dfl {L : List DefI} {W : Nat} {d : IFn} {c : PV} (h1 : 1 ≤ d.np) (h2 : d.np ≤ d.ns) : ∀ (k : Nat) (vs : List PV) (s : Sto), gOf L W (dfl1 d c) k vs s = .err ∨ gOf L W (dfl1 d c) k vs s = gOf L W d k (vs ++ [c]) s
  | 0, vs, s => .inl rfl
  | k + 1, vs, s => by
    by_cases hp : vs.length = d.np - 1
    · exact .inr (run_dfl h1 h2 hp)
    · refine .inl ?_
      show (if vs.length = d.np - 1 then _ else R.err) = _
      rw [if_neg hp]
theorem xok_of {P : Program} {w : World} {K : PySem.W.Frag} {T : Tab} {mg : Str → Option Value} {base : Heap} {L : List DefI} {W : Nat} (hseer : base.NoSeer) (tx : TextOk K T mg L) {k : Nat} {N : List Str} (hN : N.Nodup)
    (hG : ∀ (i : DefI) (d0 : IFn), DefB K T i d0 → FnG P w K mg base k i.fa i.fd i.ps (gOf L W d0 k)) (hS : ∀ (i : DefI) (n : Nat), DefB K T i i.d → StarB i.fd i.ps n → FnS P w K mg base k i.fa n (gOf L W i.d k)) :
    ∀ (X : Cx), X.prog = P → X.w = w → X.K = K → X.mg = mg → X.base = base → X.N = N → X.calm = true → X.A.guards = some [] → Room (k + 34) X.A → (∀ h : Heap, (∀ b o, X.base.get? b = some o → h.get? b = some o) → PySem.SeerAt (model X.prog X.w) X.A h) → XOk T (run (progOf L) W k) X := by
  intro X h1 h2 h3 h4 h5 h6 h7 hg hr hse
  refine ⟨by rw [h6]; exact hN, ⟨?_, hg, h7, fun x hx => by rw [h4, hx]; exact tx.isi, hse, by have := hr.dp; show X.A.depth + 100 < _; omega, let ⟨mm, ⟨o, es, ep, e, d, r⟩, _⟩ := hseer.mods; ⟨o, es, ep, by rw [h5]; exact e, d⟩⟩, fun x f' e' => ?_, fun x v e' => ?_, fun x e' => by rw [h4]; exact tx.nn x e', fun x f' e' hk => by rw [h3, h4]; exact tx.kf x f' e' hk, fun x f' ks pm e' e2 => ?_, fun x f' n e' => ?_⟩
  · have := hr.un; omega
  · obtain ⟨j, ej, rfl, oj⟩ := tx.tab x f' e'
    refine ⟨j.fa, by rw [h4]; exact oj.mg, by rw [h3]; exact oj.kp, fun X' c => ?_⟩
    rw [run_gOf ej k]
    have pp : ∀ d1, DefB K T j d1 → FnG X'.prog X'.w X'.K X'.mg X'.base k j.fa j.fd j.ps (gOf L W d1 k) := fun d1 b => by
      rw [c.prog, c.w, c.K, c.mg, c.base, h1, h2, h3, h4, h5]
      exact hG j d1 b
    rcases oj.bd with ⟨b, hb⟩ | ⟨d1, cc, dv, du, b, ed, n1, hb, rv, rp⟩
    · exact call_fnG (k := k) (fd := j.fd) (ps := j.ps) (pp _ b) (by rw [c.A]; exact hr) (by rw [c.A]; exact hg) (by rw [c.K, h3]; exact hb)
    · rw [ed]
      have hpl : d1.np ≤ d1.ns := by
        rw [b.np, b.ns]
        have := congrArg List.length b.sc.pre
        rw [List.length_take] at this
        omega
      exact call_fnG1 (k := k) (fd := j.fd) (ps := j.ps) (c := cc) (dv := dv) (du := du) (pp _ b) (by rw [c.A]; exact hr) (by rw [c.A]; exact hg) (by rw [c.K, h3]; exact hb) rv (by rw [c.K, h3]; exact rp) (gOf_dfl n1 hpl k)
  · obtain ⟨u, v', a, b, c⟩ := tx.cs x v e'
    exact ⟨u, v', by rw [h4]; exact a, b, fun m n H => by rw [h3]; exact c m n H⟩
  · obtain ⟨j, ej, rfl, oj⟩ := tx.tab x f' (fnB_of e')
    obtain ⟨j', ej', b, kb⟩ := tx.kw f' ks pm e2
    rw [ej] at ej'
    cases ej'
    refine ⟨j.fa, by rw [h4]; exact oj.mg, by rw [h3]; exact oj.kp, fun X' c => ?_⟩
    rw [run_gOf ej k]
    have pp : FnG X'.prog X'.w X'.K X'.mg X'.base k j.fa j.fd j.ps (gOf L W j.d k) := by
      rw [c.prog, c.w, c.K, c.mg, c.base, h1, h2, h3, h4, h5]
      exact hG j j.d b
    exact call_fnGk (k := k) pp (by rw [c.A]; exact hr) (by rw [c.A]; exact hg) (by rw [c.K, h3]; exact kb)
  · obtain ⟨j, ej, em, b, sb⟩ := tx.st x f' n e'
    refine ⟨j.fa, by rw [h4]; exact em, by rw [h3]; exact b.fn.kp, fun X' c => ?_⟩
    rw [run_gOf ej k]
    have pp : FnS X'.prog X'.w X'.K X'.mg X'.base k j.fa n (gOf L W j.d k) := by
      rw [c.prog, c.w, c.K, c.mg, c.base, h1, h2, h3, h4, h5]
      exact hS j n b sb
    exact call_star (k := k) pp (by rw [c.A]; exact hr) (by rw [c.A]; exact hg)
theorem all_both {P : Program} {w : World} {K : PySem.W.Frag} {T : Tab} {mg : Str → Option Value} {base : Heap} {L : List DefI} {W : Nat} (hseer : base.NoSeer) (htr : P.given.tree = none) (tx : TextOk K T mg L) : ∀ k : Nat,
    (∀ (i : DefI) (d0 : IFn), DefB K T i d0 → FnG P w K mg base k i.fa i.fd i.ps (gOf L W d0 k)) ∧ ∀ (i : DefI) (n : Nat), DefB K T i i.d → StarB i.fd i.ps n → FnS P w K mg base k i.fa n (gOf L W i.d k)
  | 0 => ⟨fun i d0 o => ⟨fun A outer s H args us vs Q hr hgd e0 hbd r ⟨m, st, ps, S, rs, h⟩ => h.elim⟩, fun i n o sb A outer s H us vs Q hr hgd e0 r ⟨m, st, ps, S, rs, h⟩ => by
    unfold starM at h
    split at h <;> exact h.elim⟩
  | k + 1 => by
    obtain ⟨hG, hS⟩ := all_both (w := w) (W := W) hseer htr tx k
    exact ⟨fun i d0 o => fnG_of o.fn o.sc o.ck o.ns o.np hseer htr (xok_of hseer tx o.sc.nd hG hS), fun i n o sb => star_of o.fn o.sc o.ck o.ns o.np hseer htr sb (xok_of hseer tx o.sc.nd hG hS)⟩
theorem all_gOf {P : Program} {w : World} {K : PySem.W.Frag} {T : Tab} {mg : Str → Option Value} {base : Heap} {L : List DefI} {W : Nat} (hseer : base.NoSeer) (htr : P.given.tree = none) (tx : TextOk K T mg L) (k : Nat) (i : DefI) (d0 : IFn) (o : DefB K T i d0) : FnG P w K mg base k i.fa i.fd i.ps (gOf L W d0 k) := (all_both hseer htr tx k).1 i d0 o
/-- the law's own def -/
theorem all_fnG {P : Program} {w : World} {K : PySem.W.Frag} {T : Tab} {mg : Str → Option Value} {base : Heap} {L : List DefI} {W : Nat} (hseer : base.NoSeer) (htr : P.given.tree = none) (tx : TextOk K T mg L) (k f : Nat) (i : DefI) (e : L[f]? = some i) (b : DefB K T i i.d) : FnG P w K mg base k i.fa i.fd i.ps (run (progOf L) W k f) := by
  rw [run_gOf e k]
  exact all_gOf hseer htr tx k i i.d b

/-! ### the law's end -/
/-- the script in the store -/
def sto0 (ns : List Int) : Sto := ⟨1, [(0, .frz (ns.map PV.int))]⟩
theorem reps_ints {K : PySem.W.Frag} {m : Pl} {n : Nat} {H : Hp} : ∀ ns : List Int, Reps K m n H (ns.map V.int) (ns.map PV.int)
  | [] => .nil
  | n :: ns => .cons (.int n) (reps_ints ns)
theorem law_read {K : PySem.W.Frag} {H : Hp} {a : Addr} {ns : List Int} {g : List PV → M PV} {st : Sto} (hs : SqF K H a (ns.map V.int)) (h : g [.loc 0] (sto0 ns) = .ok (.bl true) st) : rdL K g [.ref a] H (fun v _ => v = .bl true) := by
  have get0 : ∀ l o, (sto0 ns).get l = some o → l = 0 ∧ o = .frz (ns.map PV.int) := fun l o e => by
    have e : (if (0 == l) = true then some (PO.frz (ns.map PV.int)) else none) = some o := e
    by_cases z : (0 == l) = true
    · rw [if_pos z] at e; cases e; exact ⟨(beq_iff_eq.mp z).symm, rfl⟩
    · rw [if_neg z] at e; cases e
  refine ⟨fun _ => a, sto0 ns, [.loc 0], ⟨fun l o e => ?_, fun l k xs ys e _ hm _ _ => ?_⟩, .cons (.loc (Nat.lt_succ_self 0)) .nil, ?_⟩
  · obtain ⟨rfl, rfl⟩ := get0 l o e
    exact ⟨Nat.lt_succ_self 0, _, hs, reps_ints ns⟩
  · have := (get0 l _ e).2
    subst this
    cases hm
  · rw [h]
    intro v H' m' _ _ r
    cases r
    rfl
theorem law_callG {P : Program} {w : World} {K : PySem.W.Frag} {mg mb : Str → Option Value} {k : Nat} {fa a : Addr} {fd : FuncData} {x : Str} {g : List PV → M PV} {s₁ : Shared} {vs : List Value} {ns : List Int}
    (KX : K.In s₁.heap) (hns : s₁.heap.Ns mainGlobals mg) (hb : s₁.heap.Ns builtinsNs mb) (hbb : ∀ x : Str, x ≠ "__name__" → mb x = bootBuiltins x) (hlim : s₁.heap.NoLimit) (hg : s₁.gens = #[])
    (ha : s₁.heap.get? a = some { cls := .type "list", data := .seq vs.toArray }) (hi : IntsAre vs ns) (hl : ns.length ≤ sizeLine) (hr : Room (k + 34) callerA) (hseer : s₁.heap.NoSeer)
    (F : ∀ base : Heap, K.In base → base.Ns mainGlobals mg → base.NoSeer → FnG P w K mg base k fa fd [x] g) (hbind : ∀ (s : Shared) (u : Value), BindsTo s fd ⟨[u], []⟩ [(x, u)]) (hsp : ∃ st, g [.loc 0] (sto0 ns) = .ok (.bl true) st) :
    codeAny (model P w) callerA (.call (.ref fa) ⟨[.ref a], []⟩) (fun r s' => r = .ok (.ret (.bool true)) ∧ OldK s₁.heap s'.heap ∧ s'.os = s₁.os ∧ AllBare s'.gens) s₁ := by
  obtain ⟨st, hsp⟩ := hsp
  -- the abstract heap: the script, where the module has it not
  let ob : Obj := { cls := .type "list", data := .seq vs.toArray }
  let H : Hp := fun b => if b = a ∧ K.lookup a = none then some (.frz ob (.lst (ns.map V.int))) else none
  have Hs : ∀ b u, H b = some u → b = a ∧ K.lookup a = none ∧ u = .frz ob (.lst (ns.map V.int)) := fun b u e => by
    by_cases q : b = a ∧ K.lookup a = none
    · have e' : some (HO.frz ob (.lst (ns.map V.int))) = some u := (if_pos q).symm.trans e
      exact ⟨q.1, q.2, (Option.some.inj e').symm⟩
    · have e' : none = some u := (if_neg q).symm.trans e
      cases e'
  have Hn : ∀ b, b ≠ a → H b = none := fun b q => if_neg fun z => q z.1
  have rv : Vals (ns.map V.int) vs := vals_ints hi
  have sq : SqF K H a (ns.map V.int) := by
    cases q : K.lookup a with
    | none => exact .inl ⟨ob, if_pos ⟨rfl, q⟩⟩
    | some o =>
      have e := KX a o q
      rw [ha] at e
      cases e
      exact .inr ⟨_, vs.toArray, _, q, rfl, rfl, rfl, by rw [List.size_toArray, hi.length]; exact hl, by simpa using rv⟩
  have hok : HOk P w H s₁.heap := fun b u e => by
    obtain ⟨rfl, _, rfl⟩ := Hs b u e
    exact ⟨ha, by rw [List.length_map]; exact hl, vs, _, rv, ha⟩
  have free : ∀ {b : Addr} {o : Obj} {es : Array DictEntry} {ep : Nat}, s₁.heap.get? b = some o → o.data = .dict es ep → H b = none := fun {b o es ep} e d => Hn b fun z => by
    rw [z, ha] at e
    cases e
    cases (show Data.seq vs.toArray _ = Data.dict es ep from d)
  have ns' : ∀ {b : Addr} {m : Str → Option Value}, s₁.heap.Ns b m → (hidT s₁.heap H).Ns b m := fun {b m} ⟨o, es, ep, e, d, r⟩ => ⟨o, es, ep, hidT_get e (free e d), d, r⟩
  have kin : K.In (hidT s₁.heap H) := fun b o e => hidT_get (KX b o e) (by
    cases q : H b with
    | none => rfl
    | some u =>
      obtain ⟨z, n, _⟩ := Hs b u q
      rw [z, n] at e; cases e)
  have e0 : Env0 P w K mg (hidT s₁.heap H) callerA [] s₁ H :=
    ⟨rfl, ⟨kin, ns' hns, ⟨mb, ns' hb, hbb⟩, let ⟨mc, h1, h2⟩ := hlim; ⟨mc, ns' h1, h2⟩⟩, fun b o e => of_hidT e, Nat.le_of_eq (hidT_size _ _), trivial, fun b z => (nomatch z), hok, .of_eq hg⟩
  have see : (hidT s₁.heap H).NoSeer := ⟨let ⟨mc, a, b⟩ := hseer.statics; ⟨mc, ns' a, b⟩, let ⟨mc, a, b⟩ := hseer.mods; ⟨mc, ns' a, b⟩, let ⟨mc, a, b⟩ := hseer.imp; ⟨mc, ns' a, b⟩,
    let ⟨mg, bm, o, a, b, c, d, e⟩ := hseer.main; ⟨mg, bm, o, ns' a, b, hidT_get c (Hn bm fun z => by
      rw [z, ha] at c
      cases c
      exact absurd (show (Value.type "list") = Value.type "module" from d) (by simp)), d, e⟩⟩
  refine codeAny_mono ((F _ kin (ns' hns) see).run callerA [] s₁ H ⟨[.ref a], []⟩ [.ref a] [.ref a] _ hr rfl e0 (fun _ => hbind s₁ (.ref a)) (.cons rfl .nil) (law_read sq hsp)) fun r s' h => ?_
  cases r with
  | error e => exact False.elim h
  | ok fl =>
    cases fl <;> first | exact False.elim h | skip
    case ret u =>
      obtain ⟨v, H', os, bare, un, hok', rv', q⟩ := h
      subst q
      cases rv'
      refine ⟨rfl, OldK.of_keep fun b o e => ?_, os, bare⟩
      cases q : H b with
      | none => exact un.keep b o e q (fun z => (nomatch z)) (by simp)
      | some u =>
        obtain ⟨rfl, _, rfl⟩ := Hs b u q
        have z := hok' b _ (un.frzs b _ _ q)
        rw [ha] at e
        cases e
        exact z.1
theorem walk_ofG {l : PySem.W.OpenLaw} {n k : Nat} {q : Program} {loose : List Str} {XP : (Str → Option Value) → Heap → Prop} {YP : World → Heap → Prop} {d : DefRec} {K : Params → PySem.W.Frag} {x : Str} {g : List PV → M PV}
    (hn : l.most = some n) (hn2 : n ≤ sizeLine) (hdf : d.params.defaults = []) (hr : Room (k + 34) callerA) (him : importsNone q = true) (hY : ∀ (w : World) (h : Heap), YP w h → (K w.params).In h)
    (F : ∀ (w : World) (mg : Str → Option Value) (fa : Addr) (h : Heap), (K w.params).In h → h.Ns mainGlobals mg → mg d.name = some (.ref fa) →
      ∃ fd : FuncData, (∀ (s : Shared) (u : Value), BindsTo s fd ⟨[u], []⟩ [(x, u)]) ∧ ∀ base : Heap, (K w.params).In base → base.Ns mainGlobals mg → base.NoSeer → FnG l.prog w (K w.params) mg base k fa fd [x] g)
    (hsp : ∀ ns : List Int, ns.length ≤ n → (∀ z ∈ ns, Builtin.Int.intBits z ≤ 1048576) → ∃ st, g [.loc 0] (sto0 ns) = .ok (.bl true) st) :
    PySem.W.WalkO q loose XP YP l.row.toRowW d [] (fun f vs => PySem.call f vs) := by
  refine Att.attach_callB hn hdf fun w s₀ s₁ mg mb fa o pm cd doc a vs ns G Y ho hd hcd hmg hobj hints hlen hbits hg => ?_
  obtain ⟨fd, hb, hF⟩ := F w mg fa _ (hY w _ Y) G.T.g hmg
  exact law_callG (hY w _ Y) G.T.g G.T.b G.T.builtins G.T.nolimit hg hobj hints (Nat.le_trans hlen hn2) hr (G.T.seer him) hF hb (hsp ns hlen hbits)
end Dp


set_option Elab.async false
set_option linter.all false
set_option maxRecDepth 100000
set_option maxHeartbeats 4000000
set_option autoImplicit false
/-! DpTx: a text's names and constants. -/
namespace Dp
open PySem L2 PySem.Spec PyProof.Rows

theorem fc {α : Type} {p : α → Prop} {a : α} {l : List α} (h : p a) (t : ∀ i ∈ l, p i) : ∀ i ∈ a :: l, p i := fun i hi => by
  rcases List.mem_cons.mp hi with e | e
  · rw [e]; exact h
  · exact t i e
theorem fn0 {α : Type} {p : α → Prop} : ∀ i ∈ ([] : List α), p i := fun i hi => (nomatch hi)
/-- the names of the defs, the constants, the built-ins -/
def tabOf (names : List Str) (cs : List (Str × PV)) (nn : List Str) (ks : List Nat) (kws : List ((Nat × List Str) × List Nat)) (d2 : List (Str × Nat)) (sts : List (Str × (Nat × Nat)) := []) : Tab := ⟨fun x => if sts.any (fun q => decide (q.1 = x)) = true then none else names.findIdx? fun n => decide (n = x), fun x => cs.lookup x, fun x => nn.contains x, fun f => ks.contains f, fun f l => kws.lookup (f, l), fun x f => d2.contains (x, f), fun x => sts.lookup x⟩
theorem find_ok {L : List DefI} {x : Str} {f : Nat} (h : (L.map (·.nm)).findIdx? (fun n => decide (n = x)) = some f) : ∃ i, L[f]? = some i ∧ i.nm = x := by
  rw [List.findIdx?_eq_some_iff_getElem] at h
  obtain ⟨hl, h1, _⟩ := h
  rw [List.length_map] at hl
  refine ⟨L[f], List.getElem?_eq_getElem hl, ?_⟩
  have := of_decide_eq_true h1
  rw [List.getElem_map] at this
  exact this
/-- a constant of the module -/
def CstOk (K : PySem.W.Frag) (mg : Str → Option Value) (p : Str × PV) : Prop := ∃ u w, mg p.1 = some u ∧ RelV w u ∧ ∀ m n H, Rep K m n H w p.2
theorem text_ok {K : PySem.W.Frag} {mg : Str → Option Value} {L : List DefI} {names nn : List Str} {cs : List (Str × PV)} {ks : List Nat} {kws : List ((Nat × List Str) × List Nat)} {d2 : List (Str × Nat)} {sts : List (Str × (Nat × Nat))} (hn : L.map (·.nm) = names) (hL : ∀ i ∈ L, DefOk K (tabOf names cs nn ks kws d2 sts) mg i ∨ (sts.any fun q => decide (q.1 = i.nm)) = true) (hc : ∀ p ∈ cs, CstOk K mg p) (hb : ∀ x ∈ nn, mg x = none) (hi : mg "isinstance" = none)
    (hk : ∀ f ∈ ks, ∃ fa, (L.map (·.fa))[f]? = some fa ∧ KeyFn K mg fa) (hw : ∀ q ∈ kws, ∃ i, L[q.1.1]? = some i ∧ DefB K (tabOf names cs nn ks kws d2 sts) i i.d ∧ KwB K i.fd i.ps q.1.2 q.2) (h2 : ∀ q ∈ d2, ∃ i, L[q.2]? = some i ∧ i.nm = q.1 ∧ (sts.any fun p => decide (p.1 = q.1)) = false) (hst : ∀ q ∈ sts, ∃ i, L[q.2.1]? = some i ∧ mg q.1 = some (.ref i.fa) ∧ DefB K (tabOf names cs nn ks kws d2 sts) i i.d ∧ StarB i.fd i.ps q.2.2) : TextOk K (tabOf names cs nn ks kws d2 sts) mg L := by
  have nst : ∀ {x : Str} {f : Nat}, (tabOf names cs nn ks kws d2 sts).fn x = some f → (sts.any fun q => decide (q.1 = x)) = false ∧ (L.map (·.nm)).findIdx? (fun n => decide (n = x)) = some f := fun {x f} e => by
    have e : (if sts.any (fun q => decide (q.1 = x)) = true then none else names.findIdx? fun n => decide (n = x)) = some f := e
    cases h : sts.any fun q => decide (q.1 = x) with
    | true => rw [h, if_pos rfl] at e; cases e
    | false => rw [h, if_neg (by decide)] at e; exact ⟨rfl, by rw [hn]; exact e⟩
  have ok : ∀ {i : DefI}, i ∈ L → (sts.any fun q => decide (q.1 = i.nm)) = false → DefOk K (tabOf names cs nn ks kws d2 sts) mg i := fun {i} hi h => by
    rcases hL i hi with z | z
    · exact z
    · rw [h] at z; cases z
  exact ⟨fun x f e => by
    unfold fnB at e
    rw [Bool.or_eq_true] at e
    rcases e with e | e
    · obtain ⟨n1, n2⟩ := nst (of_decide_eq_true e)
      obtain ⟨i, e1, rfl⟩ := find_ok n2
      exact ⟨i, e1, rfl, ok (List.mem_of_getElem? e1) n1⟩
    · obtain ⟨i, e1, rfl, n1⟩ := h2 (x, f) (List.contains_iff_mem.mp e)
      exact ⟨i, e1, rfl, ok (List.mem_of_getElem? e1) n1⟩, fun x v e => hc (x, v) (PySem.mem_of_lookup e), fun x e => hb x (List.contains_iff_mem.mp e), hi, fun x f e h => by
    obtain ⟨n1, n2⟩ := nst e
    obtain ⟨i, e1, rfl⟩ := find_ok n2
    obtain ⟨fa, e2, k⟩ := hk f (List.contains_iff_mem.mp h)
    rw [List.getElem?_map, e1] at e2
    cases e2
    exact ⟨_, (ok (List.mem_of_getElem? e1) n1).mg, k⟩, fun f l pm e => by
    have e : kws.lookup (f, l) = some pm := e
    have : ∀ ks : List ((Nat × List Str) × List Nat), ks.lookup (f, l) = some pm → ((f, l), pm) ∈ ks := by
      intro ks
      induction ks with
      | nil => intro h; cases h
      | cons a r ih =>
        intro h
        obtain ⟨k, v⟩ := a
        rw [List.lookup_cons] at h
        cases q : ((f, l) == k) with
        | true =>
          rw [q] at h
          cases h
          rw [eq_of_beq q]
          exact List.mem_cons_self
        | false =>
          rw [q] at h
          exact List.mem_cons_of_mem _ (ih h)
    exact hw ((f, l), pm) (this kws e), fun x f n e => hst (x, (f, n)) (PySem.mem_of_lookup e)⟩
/-! constants -/
theorem cst_non {K : PySem.W.Frag} {mg : Str → Option Value} {x : Str} (h : mg x = some .none) : CstOk K mg (x, .non) := ⟨_, .non, h, rfl, fun _ _ _ => .non⟩
theorem cst_bl {K : PySem.W.Frag} {mg : Str → Option Value} {x : Str} {b : Bool} (h : mg x = some (.bool b)) : CstOk K mg (x, .bl b) := ⟨_, .bl b, h, rfl, fun _ _ _ => .bl b⟩
theorem cst_int {K : PySem.W.Frag} {mg : Str → Option Value} {x : Str} {i : Int} {t : Tok} (h : mg x = some (.int i t)) : CstOk K mg (x, .int i) := ⟨_, .int i, h, ⟨_, rfl⟩, fun _ _ _ => .int i⟩
theorem cst_str {K : PySem.W.Frag} {mg : Str → Option Value} {x y : Str} {s : List Nat} {t : Tok} (h : mg x = some (.str y t)) (e : y = S s) (hs : s.all (fun c => decide (c < 1114112)) = true) : CstOk K mg (x, .str s) :=
  ⟨_, .str (S s), by rw [h, e], ⟨_, rfl⟩, fun _ _ _ => .str s fun c hc => of_decide_eq_true (List.all_eq_true.mp hs c hc)⟩
/-- a value that stands in the written part -/
inductive KRep (K : PySem.W.Frag) : Value → V → PV → Prop
  | non : KRep K .none .non .non
  | bl (b : Bool) : KRep K (.bool b) (.bl b) (.bl b)
  | int (i : Int) (t : Tok) : KRep K (.int i t) (.int i) (.int i)
  | str (s : List Nat) (t : Tok) (h : sOk s) : KRep K (.str (S s) t) (.str (S s)) (.str s)
  | tup {a : Addr} {its : List Value} {vs : List V} {ps : List PV} {n : Nat} {sl : Array (Option Value)} (h : K.lookup a = some ⟨.type "tuple", none, .seq its.toArray n, sl⟩) (l : its.length ≤ sizeLine) (r : Vals vs its) (q : ∀ m n H, Reps K m n H vs ps) : KRep K (.ref a) (.ref a) (.tup ps)
theorem KRep.rel {K : PySem.W.Frag} {u : Value} {w : V} {p : PV} (h : KRep K u w p) : RelV w u := by
  cases h with
  | non => rfl
  | bl b => rfl
  | int i t => exact ⟨_, rfl⟩
  | str s t h => exact ⟨_, rfl⟩
  | tup h l r q => rfl
theorem KRep.rep {K : PySem.W.Frag} {u : Value} {w : V} {p : PV} (h : KRep K u w p) (m : Pl) (n : Nat) (H : Hp) : Rep K m n H w p := by
  cases h with
  | non => exact .non
  | bl b => exact .bl b
  | int i t => exact .int i
  | str s t h => exact .str s h
  | tup h l r q => exact .tup (.inr ⟨_, _, _, ⟨h, rfl, rfl, by rw [List.size_toArray]; exact l, by simpa using r⟩, rfl⟩) (q m n H)
theorem KRep.cst {K : PySem.W.Frag} {mg : Str → Option Value} {x : Str} {u : Value} {w : V} {p : PV} (h : KRep K u w p) (e : mg x = some u) : CstOk K mg (x, p) := ⟨u, w, e, h.rel, h.rep⟩
/-- the items of a tuple of the written part -/
inductive KReps (K : PySem.W.Frag) : List Value → List V → List PV → Prop
  | nil : KReps K [] [] []
  | cons {u : Value} {w : V} {p : PV} {us : List Value} {ws : List V} {ps : List PV} (h : KRep K u w p) (t : KReps K us ws ps) : KReps K (u :: us) (w :: ws) (p :: ps)
theorem KReps.vals {K : PySem.W.Frag} : ∀ {us : List Value} {ws : List V} {ps : List PV}, KReps K us ws ps → Vals ws us
  | _, _, _, .nil => .nil
  | _, _, _, .cons h t => .cons h.rel t.vals
theorem KReps.reps {K : PySem.W.Frag} : ∀ {us : List Value} {ws : List V} {ps : List PV}, KReps K us ws ps → ∀ m n H, Reps K m n H ws ps
  | _, _, _, .nil, _, _, _ => .nil
  | _, _, _, .cons h t, m, n, H => .cons (h.rep m n H) (t.reps m n H)
theorem KRep.tupl {K : PySem.W.Frag} {a : Addr} {its : List Value} {vs : List V} {ps : List PV} {n : Nat} {sl : Array (Option Value)} (h : K.lookup a = some ⟨.type "tuple", none, .seq its.toArray n, sl⟩) (l : its.length ≤ sizeLine) (t : KReps K its vs ps) : KRep K (.ref a) (.ref a) (.tup ps) := .tup h l t.vals t.reps
end Dp


set_option Elab.async false
set_option linter.all false
set_option maxRecDepth 100000
set_option maxHeartbeats 4000000
set_option autoImplicit false
/-! DpWp: what a run reaches, told by what is wanted of its end. -/
namespace Dp

/-- the run ends, and of its end P holds -/
inductive Ok {α : Type} : R α → (α → Sto → Prop) → Prop
  | mk {a : α} {s : Sto} {P : α → Sto → Prop} : P a s → Ok (.ok a s) P
theorem Ok.un {α : Type} {a : α} {s : Sto} {P : α → Sto → Prop} (h : Ok (.ok a s) P) : P a s := by cases h; assumption
theorem ok_ok {α : Type} {P : α → Sto → Prop} {s : Sto} {a : α} : Ok (.ok a s) P = P a s := propext ⟨Ok.un, .mk⟩
theorem Ok.no {α : Type} {P : α → Sto → Prop} (h : Ok (.err : R α) P) : False := by cases h
section
variable {α β : Type} {P Q : α → Sto → Prop} {s : Sto}
theorem Ok.mono {r : R α} (h : Ok r P) (k : ∀ a s, P a s → Q a s) : Ok r Q := by
  cases h with
  | mk h => exact .mk (k _ _ h)
theorem Ok.get {r : R α} (h : Ok r P) : ∃ a s, r = .ok a s ∧ P a s := by
  cases h with
  | mk h => exact ⟨_, _, rfl, h⟩
theorem ok_bind {g : M β} {f : β → M α} : Ok (M.bind g f s) P = Ok (g s) fun a s' => Ok (f a s') P := by
  unfold M.bind
  cases g s with
  | ok a s' => exact (ok_ok (P := fun a s' => Ok (f a s') P)).symm
  | err => exact propext ⟨fun h => h.no.elim, fun h => h.no.elim⟩
theorem ok_pure {a : α} : Ok (M.pure a s) P = P a s := ok_ok
theorem ok_err : Ok (M.err s : R α) P = False := propext ⟨fun h => Ok.no h, False.elim⟩
theorem ok_err2 : Ok (R.err : R α) P = False := propext ⟨fun h => h.no, False.elim⟩
theorem ok_ite {c : Prop} [Decidable c] {a b : R α} : Ok (if c then a else b) P = if c then Ok a P else Ok b P := by
  by_cases h : c
  · rw [if_pos h, if_pos h]
  · rw [if_neg h, if_neg h]
theorem ite_app {c : Prop} [Decidable c] {f g : M α} : (if c then f else g) s = if c then f s else g s := by
  by_cases h : c
  · rw [if_pos h, if_pos h]
  · rw [if_neg h, if_neg h]
end
theorem truth_bl {b : Bool} {s : Sto} : truth (.bl b) s = .ok b s := rfl
/-- a def that is run -/
theorem ok_runFn {F : FT} {W : Nat} {d : IFn} {vs : List PV} {s : Sto} {P : PV → Sto → Prop} (h1 : vs.length = d.np)
    (h : Ok (evSs F W d.body (vs.map some ++ List.replicate (d.ns - d.np) none) s) fun o s' => match o with
      | .nx _ => P .non (if d.keep then s' else s'.drop s.nxt)
      | .rt v => P v (if d.keep then s' else s'.drop s.nxt)
      | _ => False) : Ok (runFn F W d vs s) P := by
  unfold runFn
  rw [if_pos h1]
  cases e : evSs F W d.body (vs.map some ++ List.replicate (d.ns - d.np) none) s with
  | err => rw [e] at h; exact h.no.elim
  | ok o s' =>
    rw [e] at h
    have h := h.un
    cases o <;> first | exact .mk h | exact h.elim
/-- a loop over a fixed list, by an invariant -/
theorem ok_for {t : IT} {xs : List PV} {f : Env → M Out} {P : Out → Sto → Prop} (I : Nat → Env → Sto → Prop)
    (hs : ∀ i x r s, xs[i]? = some x → I i r s → ∃ r', setT t x r = some r' ∧ Ok (f r' s) fun o s' => match o with
      | .nx r2 => I (i + 1) r2 s'
      | .ct r2 => I (i + 1) r2 s'
      | .bk r2 => P (.nx r2) s'
      | .rt v => P (.rt v) s')
    (hd : ∀ r s, I xs.length r s → P (.nx r) s) : ∀ (k i : Nat) (r : Env) (s : Sto), i ≤ xs.length → xs.length < i + k → I i r s → Ok (forGo t (.fix xs) f k i r s) P := by
  intro k
  induction k with
  | zero => intro i r s h1 h2 _; omega
  | succ k ih =>
    intro i r s h1 h2 hI
    by_cases hi : i < xs.length
    · have e : xs[i]? = some xs[i] := List.getElem?_eq_getElem hi
      obtain ⟨r', e2, h⟩ := hs i _ r s e hI
      have e3 : forGo t (.fix xs) f (k + 1) i r s = M.bind (f r') (fun o => match o with
        | .nx r2 => forGo t (.fix xs) f k (i + 1) r2
        | .ct r2 => forGo t (.fix xs) f k (i + 1) r2
        | .bk r2 => M.pure (.nx r2)
        | .rt v => M.pure (.rt v)) s := by
        simp only [forGo, Itr.at, seqAt, e, e2] <;> first | done | rfl
      rw [e3, ok_bind]
      refine h.mono fun o s' q => ?_
      cases o with
      | nx r2 => exact ih (i + 1) r2 s' hi (by omega) q
      | ct r2 => exact ih (i + 1) r2 s' hi (by omega) q
      | bk r2 => exact .mk q
      | rt v => exact .mk q
    · have e : i = xs.length := by omega
      subst e
      have e3 : forGo t (.fix xs) f (k + 1) xs.length r s = .ok (.nx r) s := by
        simp only [forGo, Itr.at, seqAt, List.getElem?_eq_none (Nat.le_refl _), beq_self_eq_true, if_true]
      rw [e3]
      exact .mk (hd r s hI)
/-- a while loop, by an invariant that tells the turns still to come -/
theorem ok_while {c : Env → M Bool} {f : Env → M Out} {P : Out → Sto → Prop} (I : Nat → Env → Sto → Prop)
    (hs : ∀ k r s, I k r s → Ok (c r s) fun b s1 => if b = true then ∃ j, k = j + 1 ∧ Ok (f r s1) fun o s' => match o with
      | .nx r2 => I j r2 s'
      | .ct r2 => I j r2 s'
      | .bk r2 => P (.nx r2) s'
      | .rt v => P (.rt v) s' else P (.nx r) s1) : ∀ (W k : Nat) (r : Env) (s : Sto), k < W → I k r s → Ok (whGo c f W r s) P := by
  intro W
  induction W with
  | zero => intro k r s h _; omega
  | succ W ih =>
    intro k r s hk hI
    show Ok (M.bind (c r) _ s) P
    rw [ok_bind]
    refine (hs k r s hI).mono fun b s1 q => ?_
    cases b with
    | false => exact .mk q
    | true =>
      rw [if_pos rfl] at q
      obtain ⟨j, rfl, q⟩ := q
      show Ok (M.bind (f r) _ s1) P
      rw [ok_bind]
      refine q.mono fun o s' q => ?_
      cases o with
      | nx r2 => exact ih j r2 s' (by omega) q
      | ct r2 => exact ih j r2 s' (by omega) q
      | bk r2 => exact .mk q
      | rt v => exact .mk q
/-- the items of a comprehension over a fixed list -/
theorem ok_lc {t : IT} {xs : List PV} {r : Env} {f : Env → List PV → M (List PV)} {P : List PV → Sto → Prop} (I : Nat → List PV → Sto → Prop)
    (hs : ∀ i x acc s, xs[i]? = some x → I i acc s → ∃ r', setT t x r = some r' ∧ Ok (f r' acc s) fun a s' => I (i + 1) a s')
    (hd : ∀ a s, I xs.length a s → P a s) : ∀ (k i : Nat) (acc : List PV) (s : Sto), i ≤ xs.length → xs.length < i + k → I i acc s → Ok (lcGo t (.fix xs) r f k i acc s) P := by
  intro k
  induction k with
  | zero => intro i r s h1 h2 _; omega
  | succ k ih =>
    intro i acc s h1 h2 hI
    by_cases hi : i < xs.length
    · have e : xs[i]? = some xs[i] := List.getElem?_eq_getElem hi
      obtain ⟨r', e2, h⟩ := hs i _ acc s e hI
      have e3 : lcGo t (.fix xs) r f (k + 1) i acc s = M.bind (f r' acc) (lcGo t (.fix xs) r f k (i + 1)) s := by
        simp only [lcGo, Itr.at, seqAt, e, e2]
      rw [e3, ok_bind]
      exact h.mono fun a s' q => ih (i + 1) a s' hi (by omega) q
    · have e : i = xs.length := by omega
      subst e
      have e3 : lcGo t (.fix xs) r f (k + 1) xs.length acc s = .ok acc s := by
        simp only [lcGo, Itr.at, seqAt, List.getElem?_eq_none (Nat.le_refl _), beq_self_eq_true, if_true]
      rw [e3]
      exact .mk (hd acc s hI)
end Dp


set_option Elab.async false
set_option linter.all false
set_option maxRecDepth 100000
set_option maxHeartbeats 4000000
set_option autoImplicit false
/-! DpWp2: the steps of a run, as rows for simp; the store's objects. -/
namespace Dp

theorem run_s {P : Nat → Option IFn} {W d f : Nat} {fn : IFn} {vs : List PV} {s : Sto} {Q : PV → Sto → Prop} (h : P f = some fn) (k : Ok (runFn (run P W d) W fn vs s) Q) : Ok (run P W (d + 1) f vs s) Q := by
  have e : run P W (d + 1) f vs s = runFn (run P W d) W fn vs s := by
    show (match P f with | some fn => runFn (run P W d) W fn vs | none => M.err) s = _
    rw [h]
  rw [e]; exact k
/-- what was there stands -/
def Fr0 (s s' : Sto) : Prop := s.nxt ≤ s'.nxt ∧ ∀ l, l < s.nxt → s'.get l = s.get l
theorem Fr0.refl (s : Sto) : Fr0 s s := ⟨Nat.le_refl _, fun _ _ => rfl⟩
theorem Fr0.trans {s s1 s2 : Sto} (a : Fr0 s s1) (b : Fr0 s1 s2) : Fr0 s s2 := ⟨Nat.le_trans a.1 b.1, fun l h => (b.2 l (Nat.lt_of_lt_of_le h a.1)).trans (a.2 l h)⟩
theorem Fr0.new (s : Sto) (o : PO) : Fr0 s (s.new o) := ⟨Nat.le_succ _, fun l h => by
  show getL l ((s.nxt, o) :: s.obs) = getL l s.obs
  rw [getL, if_neg (fun q => absurd (beq_iff_eq.mp q) (Nat.ne_of_gt h))]⟩
theorem getL_keep {n l : Nat} (hl : l < n) : ∀ obs : List (Nat × PO), getL l (obs.filter fun p => decide (p.1 < n)) = getL l obs
  | [] => rfl
  | (k, u) :: r => by
    rw [List.filter_cons]
    by_cases hk : k < n
    · rw [if_pos (decide_eq_true hk), getL, getL, getL_keep hl r]
    · rw [if_neg (by rw [decide_eq_false hk]; decide), getL_keep hl r, getL, if_neg (fun q => hk (by rw [beq_iff_eq.mp q]; exact hl))]
theorem Fr0.drop {s s' : Sto} (h : Fr0 s s') : Fr0 s (s'.drop s.nxt) := ⟨h.1, fun l hl => (getL_keep hl s'.obs).trans (h.2 l hl)⟩
theorem Fr0.setN {s s' : Sto} (h : Fr0 s s') (o : PO) : Fr0 s (s'.set s.nxt o) := ⟨h.1, fun l hl => by
  have : ∀ obs : List (Nat × PO), getL l (setL s.nxt o obs) = getL l obs := by
    intro obs
    induction obs with
    | nil => rfl
    | cons q r ih =>
      obtain ⟨j, w⟩ := q
      rw [setL]
      by_cases e : (j == s.nxt) = true
      · have ne : ¬ (j == l) = true := fun q => absurd ((beq_iff_eq.mp q).symm.trans (beq_iff_eq.mp e)) (Nat.ne_of_lt hl)
        rw [if_pos e, getL, getL, if_neg ne, if_neg ne]
      · rw [if_neg e, getL, getL, ih]
  exact (this s'.obs).trans (h.2 l hl)⟩
/-- .. but for the objects of ps -/
def Frp (p : Nat) (s s' : Sto) : Prop := s.nxt ≤ s'.nxt ∧ ∀ l, l < s.nxt → l ≠ p → s'.get l = s.get l
theorem Fr0.p {s s' : Sto} (h : Fr0 s s') (p : Nat) : Frp p s s' := ⟨h.1, fun l hl _ => h.2 l hl⟩
theorem Frp.refl (p : Nat) (s : Sto) : Frp p s s := (Fr0.refl s).p p
theorem Frp.trans {p : Nat} {s s1 s2 : Sto} (a : Frp p s s1) (b : Frp p s1 s2) : Frp p s s2 := ⟨Nat.le_trans a.1 b.1, fun l h n => (b.2 l (Nat.lt_of_lt_of_le h a.1) n).trans (a.2 l h n)⟩
theorem Frp.set (p : Nat) (s : Sto) (o : PO) : Frp p s (s.set p o) := ⟨Nat.le_refl _, fun l _ n => by
  have : ∀ obs : List (Nat × PO), getL l (setL p o obs) = getL l obs := by
    intro obs
    induction obs with
    | nil => rfl
    | cons q r ih =>
      obtain ⟨j, w⟩ := q
      rw [setL]
      by_cases e : (j == p) = true
      · have ne : ¬ (j == l) = true := fun q => n ((beq_iff_eq.mp q).symm.trans (beq_iff_eq.mp e))
        rw [if_pos e, getL, getL, if_neg ne, if_neg ne]
      · rw [if_neg e, getL, getL, ih]
  exact this s.obs⟩
theorem Frp.drop {p : Nat} {s s' : Sto} (h : Frp p s s') : Frp p s (s'.drop s.nxt) := ⟨h.1, fun l hl n => (getL_keep hl s'.obs).trans (h.2 l hl n)⟩
theorem get_set {s : Sto} {l : Nat} {o u : PO} (h : s.get l = some u) : (s.set l o).get l = some o := by
  have : ∀ obs : List (Nat × PO), getL l obs = some u → getL l (setL l o obs) = some o := by
    intro obs
    induction obs with
    | nil => intro h; cases h
    | cons q r ih =>
      obtain ⟨k, w⟩ := q
      intro h
      rw [setL]
      by_cases e : (k == l) = true
      · rw [if_pos e, getL, if_pos e]
      · rw [if_neg e, getL, if_neg e]
        rw [getL, if_neg e] at h
        exact ih h
  exact this s.obs h
theorem get_new' {s : Sto} {o : PO} : (s.new o).get s.nxt = some o := by
  show getL s.nxt ((s.nxt, o) :: s.obs) = some o
  rw [getL, if_pos (beq_iff_eq.mpr rfl)]
theorem nxt_new {s : Sto} {o : PO} : (s.new o).nxt = s.nxt + 1 := rfl
theorem nxt_set {s : Sto} {l : Nat} {o : PO} : (s.set l o).nxt = s.nxt := rfl
theorem nxt_drop {s : Sto} {n : Nat} : (s.drop n).nxt = s.nxt := rfl

theorem setT_nm {i : Nat} {v : PV} {r : Env} : setT (.nm i) v r = some (setN i v r) := by unfold setT; rfl
theorem setT_tp {ts : ITs} {xs : List PV} {r : Env} : setT (.tp ts) (.tup xs) r = setTs ts xs r := by rw [setT]
theorem setTs_nil {r : Env} : setTs .nil [] r = some r := by rw [setTs]
theorem setTs_cons {t : IT} {ts : ITs} {v : PV} {vs : List PV} {r : Env} : setTs (.cons t ts) (v :: vs) r = (match setT t v r with | some r' => setTs ts vs r' | none => none) := by first | (rw [setTs]; done) | (rw [setTs]; cases setT t v r <;> rfl)
/-! ### steps -/
section
variable {P : PV → Sto → Prop} {B : Bool → Sto → Prop} {s : Sto} {i j : Int} {t u : List Nat}
theorem x_addI : Ok (binM .add (.int i) (.int j) s) P = P (.int (i + j)) s := ok_ok
theorem x_subI : Ok (binM .sub (.int i) (.int j) s) P = P (.int (i - j)) s := ok_ok
theorem x_mulI : Ok (binM .mul (.int i) (.int j) s) P = if mulOk i j = true then P (.int (i * j)) s else False := by
  show Ok (if mulOk i j then R.ok (.int (i * j)) s else .err) P = _
  rw [ok_ite, ok_ok, ok_err2]
theorem x_mulR (h : small64 j = true) : Ok (binM .mul (.int i) (.int j) s) P = P (.int (i * j)) s := by
  rw [x_mulI, if_pos]
  unfold mulOk
  rw [h, Bool.or_true, Bool.true_or]
theorem x_mulL (h : small64 i = true) : Ok (binM .mul (.int i) (.int j) s) P = P (.int (i * j)) s := by
  rw [x_mulI, if_pos]
  unfold mulOk
  rw [h, Bool.true_or, Bool.true_or]
theorem x_modP (h : 0 < j) : Ok (binM .mod (.int i) (.int j) s) P = P (.int (i % j)) s := by
  show Ok (if 0 < j then R.ok (.int (i % j)) s else .err) P = _
  rw [if_pos h]
  first | exact ok_ok | exact ok_ok.trans ok_ok
theorem x_fdivP (h : 0 < j) (_ : j.natAbs.log2 < 9000) : Ok (binM .fdiv (.int i) (.int j) s) P = P (.int (i / j)) s := by
  show Ok (if 0 < j then R.ok (.int (i / j)) s else if j ≠ 0 then .ok (.int (i.fdiv j)) s else .err) P = _
  rw [if_pos h]
  first | exact ok_ok | exact ok_ok.trans ok_ok
theorem x_fdivQ (h : 0 < j) : Ok (binM .fdiv (.int i) (.int j) s) P = P (.int (i / j)) s := by
  show Ok (if 0 < j then R.ok (.int (i / j)) s else if j ≠ 0 then .ok (.int (i.fdiv j)) s else .err) P = _
  rw [if_pos h]
  first | exact ok_ok | exact ok_ok.trans ok_ok
theorem x_fdivI : Ok (binM .fdiv (.int i) (.int j) s) P = if 0 < j then P (.int (i / j)) s else if j ≠ 0 then P (.int (i.fdiv j)) s else False := by
  show Ok (if 0 < j then R.ok (.int (i / j)) s else if j ≠ 0 then .ok (.int (i.fdiv j)) s else .err) P = _
  rw [ok_ite, ok_ite, ok_ok, ok_ok, ok_err2]
theorem x_modI : Ok (binM .mod (.int i) (.int j) s) P = if 0 < j then P (.int (i % j)) s else False := by
  show Ok (if 0 < j then R.ok (.int (i % j)) s else .err) P = _
  rw [ok_ite, ok_ok, ok_err2]
theorem x_powI : Ok (binM .pow (.int i) (.int j) s) P = if 0 ≤ j ∧ j ≤ 1000000 ∧ decide (i.natAbs < 2 ^ 64) = true then P (.int (i ^ j.toNat)) s else False := by
  show Ok (if 0 ≤ j ∧ j ≤ 1000000 ∧ decide (i.natAbs < 2 ^ 64) = true then R.ok (.int (i ^ j.toNat)) s else .err) P = _
  rw [ok_ite, ok_ok, ok_err2]
theorem x_addS : Ok (binM .add (.str t) (.str u) s) P = if (t ++ u).length ≤ 16777216 then P (.str (t ++ u)) s else False := by
  show Ok (mkStr (t ++ u) s) P = _
  unfold mkStr
  rw [ite_app, ok_ite, ok_pure, ok_err]
theorem x_addT {a b : List PV} : Ok (binM .add (.tup a) (.tup b) s) P = if (a ++ b).length ≤ 16777216 then P (.tup (a ++ b)) s else False := by
  show Ok (mkTup (a ++ b) s) P = _
  unfold mkTup
  rw [ite_app, ok_ite, ok_pure, ok_err]
theorem x_ltI : Ok (cmpM .lt (.int i) (.int j) s) B = B (decide (i < j)) s := ok_ok
theorem x_leI : Ok (cmpM .le (.int i) (.int j) s) B = B (decide (i ≤ j)) s := ok_ok
theorem x_gtI : Ok (cmpM .gt (.int i) (.int j) s) B = B (decide (j < i)) s := ok_ok
theorem x_geI : Ok (cmpM .ge (.int i) (.int j) s) B = B (decide (j ≤ i)) s := ok_ok
theorem x_eqI : Ok (cmpM .eq (.int i) (.int j) s) B = B (i == j) s := ok_ok
theorem x_neI : Ok (cmpM .ne (.int i) (.int j) s) B = B (!(i == j)) s := ok_ok
theorem x_eqS : Ok (cmpM .eq (.str t) (.str u) s) B = B (t == u) s := ok_ok
theorem x_neS : Ok (cmpM .ne (.str t) (.str u) s) B = B (!(t == u)) s := ok_ok
theorem x_isN {p : PV} (h : ∀ xs, p ≠ .lv xs) : Ok (cmpM .isN p .non s) B = B (match p with | .non => true | _ => false) s := by
  cases p <;> first | exact ok_ok | exact absurd rfl (h _)
theorem x_bl {b : Bool} : Ok (truth (.bl b) s) B = B b s := ok_ok
theorem x_trI : Ok (truth (.int i) s) B = B (i != 0) s := ok_ok
theorem x_get {l : Nat} {xs : List PV} {k : Int} (h : s.get l = some (.lst xs)) : Ok (idxM (.loc l) (.int k) s) P = Ok (ofO (atIx xs k) s) P := by
  have e : s.lstAt l = some xs := by unfold Sto.lstAt; rw [h]
  show Ok (match s.lstAt l with | some xs => ofO (atIx xs k) s | none => .err) P = _
  rw [e]
theorem x_setix {l : Nat} {xs : List PV} {k : Int} {v : PV} {n : Nat} {U : Unit → Sto → Prop} (h : s.get l = some (.lst xs)) (hk : ixOf xs.length k = some n) : Ok (setIx (.loc l) (.int k) v s) U = U () (s.set l (.lst (xs.set n v))) := by
  show Ok (match s.get l with | some (.lst xs) => (match ixOf xs.length k with | some j => R.ok () (s.set l (.lst (xs.set j v))) | none => .err) | _ => .err) U = _
  rw [h]
  simp only [hk]
  first | exact ok_ok | exact ok_ok.trans ok_ok
theorem x_lenL {l : Nat} {xs : List PV} (h : s.get l = some (.lst xs)) : Ok (biM .len [.loc l] s) P = P (.int xs.length) s := by
  have e : s.lstAt l = some xs := by unfold Sto.lstAt; rw [h]
  show Ok (M.bind (lstOf l) (biSeq .len) s) P = _
  rw [ok_bind]
  show Ok (match s.lstAt l with | some xs => R.ok xs s | none => .err) _ = _
  rw [e]
  first | exact ok_ok | exact ok_ok.trans ok_ok
theorem x_chkL {l : Nat} {xs : List PV} {U : Unit → Sto → Prop} (h : s.get l = some (.lst xs)) : Ok (mtChk .append (.loc l) s) U = U () s := by
  have e : s.lstAt l = some xs := by unfold Sto.lstAt; rw [h]
  have e2 : mtT .append (.loc l) s = some "list" := by
    show (match s.lstAt l with | some _ => some "list" | none => none) = _
    rw [e]
  unfold mtChk
  rw [e2]
  first | exact ok_ok | exact ok_ok.trans ok_ok
theorem x_app {l : Nat} {xs : List PV} {v : PV} (h : s.get l = some (.lst xs)) (hl : xs.length < 16777216) : Ok (mtM .append (.loc l) [v] s) P = P .non (s.set l (.lst (xs ++ [v]))) := by
  show Ok (match s.get l with | some (.lst xs) => if xs.length < 16777216 then R.ok .non (s.set l (.lst (xs ++ [v]))) else .err | _ => .err) P = _
  rw [h]
  simp only [hl, if_true]
  first | exact ok_ok | exact ok_ok.trans ok_ok
theorem x_chkS {U : Unit → Sto → Prop} : Ok (mtChk .join (.str t) s) U = U () s := ok_ok
theorem strsP_map : ∀ ss : List (List Nat), strsP (ss.map PV.str) = some ss
  | [] => rfl
  | s :: ss => by
    show (match strsP (ss.map PV.str) with | some r => some (s :: r) | none => none) = _
    rw [strsP_map ss]
theorem x_joinL {l : Nat} {xs : List PV} {ss : List (List Nat)} (h : s.get l = some (.lst xs)) (hx : xs = ss.map PV.str) (hl : (ss.map (·.length)).sum + ss.length * t.length ≤ 16777216) : Ok (mtM .join (.str t) [.loc l] s) P = P (.str (joinL t ss)) s := by
  have e : s.lstAt l = some xs := by unfold Sto.lstAt; rw [h]
  show Ok (match s.lstAt l with | some xs => joinM (.str t) xs s | none => .err) P = _
  rw [e]
  subst hx
  unfold joinM
  simp only [strsP_map, hl, if_true]
  first | exact ok_ok | exact ok_ok.trans ok_ok
theorem chars_map (t : List Nat) : chars t = (t.map fun c => [c]).map PV.str := by unfold chars; rw [List.map_map]; rfl
theorem joinL_chars : ∀ t : List Nat, joinL [] (t.map fun c => [c]) = t
  | [] => rfl
  | [c] => rfl
  | c :: d :: t => by
    show [c] ++ ([] ++ joinL [] ((d :: t).map fun c => [c])) = _
    rw [joinL_chars (d :: t)]
    rfl
theorem sum_chars : ∀ t : List Nat, ((t.map fun c => [c]).map (·.length)).sum = t.length
  | [] => rfl
  | c :: t => by
    show 1 + ((t.map fun c => [c]).map (·.length)).sum = _
    rw [sum_chars t, List.length_cons, Nat.add_comm]
theorem x_newL {xs : List PV} (h : xs.length ≤ 16777216) : Ok (newLst xs s) P = P (.loc s.nxt) (s.new (.lst xs)) := by
  unfold newLst
  rw [if_pos h]
  first | exact ok_ok | exact ok_ok.trans ok_ok
theorem x_idxS {k : Int} {n c : Nat} (hl : t.length ≤ 16777216) (hk : ixOf t.length k = some n) (hc : t[n]? = some c) : Ok (idxM (.str t) (.int k) s) P = P (.str [c]) s := by
  show Ok (if t.length ≤ 16777216 then (match atIx t k with | some c => R.ok (.str [c]) s | none => .err) else .err) P = _
  rw [if_pos hl]
  unfold atIx
  simp only [hk, hc]
  first | exact ok_ok | exact ok_ok.trans ok_ok
theorem x_lenS (hl : t.length ≤ 16777216) : Ok (biM .len [.str t] s) P = P (.int t.length) s := by
  show Ok (if t.length ≤ 16777216 then R.ok (.int t.length) s else .err) P = _
  rw [if_pos hl]
  first | exact ok_ok | exact ok_ok.trans ok_ok
theorem x_intI : Ok (biM .int [.int i] s) P = P (.int i) s := ok_ok
theorem uptoL : ∀ (n : Nat) (lo : Int), (upto lo n).length = n
  | 0, lo => rfl
  | n + 1, lo => by rw [upto, List.length_cons, uptoL n]
theorem uptoG : ∀ (n : Nat) (lo : Int) (i : Nat) (x : PV), (upto lo n)[i]? = some x → i < n ∧ x = .int (lo + i)
  | 0, lo, i, x, h => by simp [upto] at h
  | n + 1, lo, 0, x, h => by simp [upto] at h; exact ⟨Nat.succ_pos n, by rw [← h]; simp⟩
  | n + 1, lo, i + 1, x, h => by
    rw [upto, List.getElem?_cons_succ] at h
    obtain ⟨h1, h2⟩ := uptoG n _ i x h
    exact ⟨Nat.succ_lt_succ h1, by rw [h2]; congr 1; omega⟩
end
end Dp


set_option Elab.async false
set_option linter.all false
set_option maxRecDepth 100000
set_option maxHeartbeats 4000000
set_option autoImplicit false
/-! Pen: what the laws draw from a script: a number of the range asked, any. -/
namespace Dp

/-! ### lists of plain values, compared -/
def flat : PV → Bool
  | .non | .bl _ | .int _ | .str _ => true
  | _ => false
theorem snap_flat {d : Nat → Option PV} : ∀ {p : PV}, flat p = true → snapW d p = some p
  | .non, _ => rfl
  | .bl _, _ => rfl
  | .int _, _ => rfl
  | .str _, _ => rfl
theorem snaps_flat {d : Nat → Option PV} : ∀ {ps : List PV}, ps.all flat = true → snapsW d ps = some ps
  | [], _ => rfl
  | p :: ps, h => by
    rw [List.all_cons, Bool.and_eq_true] at h
    show (match snapW d p, snapsW d ps with | some y, some ys => some (y :: ys) | _, _ => none) = _
    rw [snap_flat h.1, snaps_flat h.2]
theorem dep_flat : ∀ {p : PV}, flat p = true → dep p = 0
  | .non, _ => rfl
  | .bl _, _ => rfl
  | .int _, _ => rfl
  | .str _, _ => rfl
theorem deps_flat : ∀ {ps : List PV}, ps.all flat = true → deps ps = 0
  | [], _ => rfl
  | p :: ps, h => by
    rw [List.all_cons, Bool.and_eq_true] at h
    show max (dep p) (deps ps) = 0
    rw [dep_flat h.1, deps_flat h.2]
    rfl
theorem snapL_flat {s : Sto} {l : Nat} {ps : List PV} (h : s.get l = some (.lst ps)) (hf : ps.all flat = true) : snap s (.loc l) = some (.lv ps) := by
  have e : s.lstAt l = some ps := by unfold Sto.lstAt; rw [h]
  show snapL s 8 l = _
  show (match s.lstAt l with | some xs => (match snapsW (snapL s 7) xs with | some ys => some (PV.lv ys) | none => none) | none => none) = _
  rw [e]
  simp only [snaps_flat hf]
theorem eq_flat {s : Sto} {a b : Nat} {ps qs : List PV} (ha : s.get a = some (.lst ps)) (hb : s.get b = some (.lst qs)) (hp : ps.all flat = true) (hq : qs.all flat = true) : eqM (.loc a) (.loc b) s = .ok (peqs ps qs) s := by
  show (match snap s (.loc a), snap s (.loc b) with
    | some x, some y => if dep x ≤ 60 ∧ dep y ≤ 60 then R.ok (peq x y) s else .err
    | _, _ => .err) = _
  rw [snapL_flat ha hp, snapL_flat hb hq]
  have d1 : dep (.lv ps) = 1 := by show deps ps + 1 = 1; rw [deps_flat hp]
  have d2 : dep (.lv qs) = 1 := by show deps qs + 1 = 1; rw [deps_flat hq]
  simp only [d1, d2]
  rfl
theorem flat_ints : ∀ is : List Int, (is.map PV.int).all flat = true
  | [] => rfl
  | i :: is => by rw [List.map_cons, List.all_cons, flat_ints is]; rfl
theorem x_neF {s : Sto} {a b : Nat} {ps qs : List PV} {B : Bool → Sto → Prop} (ha : s.get a = some (.lst ps)) (hb : s.get b = some (.lst qs)) (hp : ps.all flat = true) (hq : qs.all flat = true) : Ok (cmpM .ne (.loc a) (.loc b) s) B = B (!peqs ps qs) s := by
  show Ok (M.bind (eqM (.loc a) (.loc b)) (fun r => M.pure (!r)) s) B = _
  rw [ok_bind, eq_flat ha hb hp hq]
  first | exact ok_ok | exact ok_ok.trans ok_ok
theorem x_eqF {s : Sto} {a b : Nat} {ps qs : List PV} {B : Bool → Sto → Prop} (ha : s.get a = some (.lst ps)) (hb : s.get b = some (.lst qs)) (hp : ps.all flat = true) (hq : qs.all flat = true) : Ok (cmpM .eq (.loc a) (.loc b) s) B = B (peqs ps qs) s := by
  show Ok (eqM (.loc a) (.loc b) s) B = _
  rw [eq_flat ha hb hp hq]
  first | exact ok_ok | exact ok_ok.trans ok_ok

/-! ### the pen -/
structure Pen (s : Sto) (p c : Nat) (cells : List Int) (pl n : Int) : Prop where
  get : s.get p = some (.lst [.loc c, .int pl, .int n])
  getc : s.get c = some (.lst (cells.map PV.int))
  ne : p ≠ c
  lt : p < s.nxt
  ltc : c < s.nxt
def PenS (s : Sto) (p c : Nat) : Prop := ∃ cells pl n, Pen s p c cells pl n
theorem Pen.fr0 {s s' : Sto} {p c : Nat} {cells : List Int} {pl n : Int} (h : Pen s p c cells pl n) (f : Fr0 s s') : Pen s' p c cells pl n :=
  ⟨(f.2 p h.lt).trans h.get, (f.2 c h.ltc).trans h.getc, h.ne, Nat.lt_of_lt_of_le h.lt f.1, Nat.lt_of_lt_of_le h.ltc f.1⟩
theorem PenS.fr0 {s s' : Sto} {p c : Nat} (h : PenS s p c) (f : Fr0 s s') : PenS s' p c := let ⟨cs, pl, n, h⟩ := h; ⟨cs, pl, n, h.fr0 f⟩
theorem PenS.lt {s : Sto} {p c : Nat} (h : PenS s p c) : p < s.nxt := let ⟨_, _, _, h⟩ := h; h.lt
theorem PenS.ltc {s : Sto} {p c : Nat} (h : PenS s p c) : c < s.nxt := let ⟨_, _, _, h⟩ := h; h.ltc
theorem Pen.set {s : Sto} {p c : Nat} {cells : List Int} {pl n pl' n' : Int} (h : Pen s p c cells pl n) : Pen (s.set p (.lst [.loc c, .int pl', .int n'])) p c cells pl' n' :=
  ⟨get_set h.get, ((Frp.set p s _).2 c h.ltc (Ne.symm h.ne)).trans h.getc, h.ne, h.lt, h.ltc⟩
theorem Pen.drop {s : Sto} {p c k : Nat} {cells : List Int} {pl n : Int} (h : Pen s p c cells pl n) (hp : p < k) (hc : c < k) : Pen (s.drop k) p c cells pl n :=
  ⟨(getL_keep hp s.obs).trans h.get, (getL_keep hc s.obs).trans h.getc, h.ne, h.lt, h.ltc⟩
theorem PenS.drop {s : Sto} {p c k : Nat} (h : PenS s p c) (hp : p < k) (hc : c < k) : PenS (s.drop k) p c := let ⟨cs, pl, n, h⟩ := h; ⟨cs, pl, n, h.drop hp hc⟩
def prm : Int := 2305843009213693951
def big18 : Int := 10 ^ Int.toNat 18
def bLoop : ISs := (.cons (.asg (.nm 5) (.bin .mod (.bi .int (.cons (.bin .add (.bin .add (.bin .mul (.var 5) (.var 5)) (.bin .mul (.bin .mul (.cst (.int 48271)) (.bin .add (.var 7) (.cst (.int 2)))) (.bin .add (.var 1) (.cst (.int 1))))) (.var 3)) .nil)) (.var 4))) (.cons (.asg (.nm 6) (.bin .add (.bin .mul (.var 6) (.var 4)) (.var 5))) .nil))
def bTail : ISs := (.cons (.ife (.and (.cmp .lt (.var 1) (.bi .len (.cons (.var 2) .nil))) (.cmp .ge (.var 3) (.bin .pow (.cst (.int 10)) (.cst (.int 18))))) (.cons (.ret (.bin .sub (.var 3) (.bin .pow (.cst (.int 10)) (.cst (.int 18))))) .nil) .nil) (.cons (.asg (.nm 4) (.cst (.int prm))) (.cons (.asg (.nm 5) (.bin .mod (.bi .int (.cons (.bin .add (.bin .add (.bin .mul (.var 3) (.cst (.int 40014))) (.bin .mul (.cst (.int 52774)) (.var 1))) (.cst (.int 17))) .nil)) (.var 4))) (.cons (.asg (.nm 6) (.var 5)) (.cons (.for (.nm 7) (.rng (.cons (.cst (.int 6)) .nil)) bLoop) (.cons (.ret (.var 6)) .nil))))))
def bFresh : ISs := (.cons (.asg (.tp (.cons (.nm 1) (.cons (.nm 2) .nil))) (.tup (.cons (.idx (.var 0) (.cst (.int 1))) (.cons (.idx (.var 0) (.cst (.int 0))) .nil)))) (.cons (.setix (.var 0) (.cst (.int 1)) (.bin .add (.var 1) (.cst (.int 1)))) (.cons (.asg (.nm 3) (.ifx (.cmp .ne (.var 2) (.lst .nil)) (.idx (.var 2) (.bin .mod (.bi .int (.cons (.var 1) .nil)) (.bi .len (.cons (.var 2) .nil)))) (.cst (.int 0)))) bTail)))
def bDrawT : ISs := (.cons (.asg (.nm 2) (.bin .mod (.bi .int (.cons (.idx (.var 0) (.cst (.int 2))) .nil)) (.var 1))) (.cons (.setix (.var 0) (.cst (.int 2)) (.bin .fdiv (.bi .int (.cons (.idx (.var 0) (.cst (.int 2))) .nil)) (.var 1))) (.cons (.ret (.var 2)) .nil)))
def bDraw (i : Nat) : ISs := (.cons (.ife (.cmp .lt (.idx (.var 0) (.cst (.int 2))) (.var 1)) (.cons (.setix (.var 0) (.cst (.int 2)) (.call i (.cons (.var 0) .nil))) .nil) .nil) bDrawT)
def bOne (i : Nat) : ISs := (.cons (.ret (.idx (.var 1) (.call i (.cons (.var 0) (.cons (.bi .len (.cons (.var 1) .nil)) .nil))))) .nil)
theorem x_ix {P : PV → Sto → Prop} {s : Sto} {l : Nat} {xs : List PV} {k : Int} {n : Nat} {v : PV} (h : s.get l = some (.lst xs)) (hk : ixOf xs.length k = some n) (hv : xs[n]? = some v) : Ok (idxM (.loc l) (.int k) s) P = P v s := by
  rw [x_get h]
  unfold atIx
  simp only [hk, hv]
  first | exact ok_ok | exact ok_ok.trans ok_ok
theorem mulR {i : Int} {j : Int} (h : small64 j = true) : mulOk i j = true := by unfold mulOk; rw [h, Bool.or_true, Bool.true_or]
theorem mulL {i : Int} {j : Int} (h : small64 i = true) : mulOk i j = true := by unfold mulOk; rw [h, Bool.true_or, Bool.true_or]
theorem sm64 {i : Int} (h1 : -18446744073709551616 < i) (h2 : i < 18446744073709551616) : small64 i = true := by
  unfold small64
  rw [Bool.and_eq_true, decide_eq_true_eq, decide_eq_true_eq]
  exact ⟨h1, h2⟩
section
variable {P : Nat → Option IFn} {W d i j k p c : Nat} {s : Sto} {cells : List Int} {pl n : Int}
theorem x_pow18 {P : PV → Sto → Prop} {s : Sto} : Ok (binM .pow (.int 10) (.int 18) s) P = P (.int big18) s := ok_ok
theorem prm_pos : 0 < prm := by decide
theorem prm_sm : small64 prm = true := by decide
theorem mod_sm (x : Int) : small64 (x % prm) = true := by
  have h1 : 0 ≤ x % prm := Int.emod_nonneg _ (by decide)
  have h2 : x % prm < prm := Int.emod_lt_of_pos _ prm_pos
  have h3 : prm < 18446744073709551616 := by decide
  exact sm64 (by omega) (by omega)
end
end Dp


set_option Elab.async false
set_option linter.all false
set_option maxRecDepth 100000
set_option maxHeartbeats 4000000
set_option autoImplicit false
namespace Dp
section
variable {P : Nat → Option IFn} {W d i j k p c : Nat} {s : Sto} {cells : List Int} {pl n : Int}
def envT (p c : Nat) (pl0 z a b : Int) (x7 : Option PV) : Env := [some (.loc p), some (.int pl0), some (.loc c), some (.int z), some (.int prm), some (.int a), some (.int b), x7]
theorem body_ok {pl0 z a b : Int} {x7 : Option PV} {x : Int} (h0 : 0 ≤ x) (hi : x < 6) (ha : small64 a = true) : Ok (evSs (run P W d) W bLoop (setN 7 (.int x) (envT p c pl0 z a b x7)) s) fun o s' => s' = s ∧ ∃ a b x7, small64 a = true ∧ o = .nx (envT p c pl0 z a b x7) := by
  simp only [bLoop, envT, evSs, evS, evE, evEs, evI, evO, evT, evC, ok_bind, ok_pure, ok_ok, ok_ite, ite_app, setT_nm, setT_tp, setTs_nil, setTs_cons, setN, List.map_cons, List.map_nil, List.set_cons_zero, List.set_cons_succ, List.replicate_succ, List.replicate_zero, List.cons_append, List.nil_append, List.getElem?_cons_zero, List.getElem?_cons_succ, bndM, x_addI, x_subI, x_addS, x_addT, x_ltI, x_leI, x_gtI, x_geI, x_eqI, x_neI, x_eqS, x_neS, x_bl, x_trI, Bool.false_eq_true, if_false, if_true]
  rw [x_mulL ha, x_mulL (sm64 (by decide) (by decide))]
  rw [x_mulL (sm64 (by omega) (by omega))]
  simp -implicitDefEqProofs only [evSs, evS, evE, evEs, evI, evO, evT, evC, ok_bind, ok_pure, ok_ok, ok_ite, ite_app, setT_nm, setT_tp, setTs_nil, setTs_cons, setN, List.map_cons, List.map_nil, List.set_cons_zero, List.set_cons_succ, List.replicate_succ, List.replicate_zero, List.cons_append, List.nil_append, List.getElem?_cons_zero, List.getElem?_cons_succ, bndM, x_addI, x_subI, x_addS, x_addT, x_ltI, x_leI, x_gtI, x_geI, x_eqI, x_neI, x_eqS, x_neS, x_bl, x_trI, Bool.false_eq_true, if_false, if_true]
  rw [x_intI, x_modP prm_pos, x_mulR prm_sm]
  simp -implicitDefEqProofs only [evSs, evS, evE, evEs, evI, evO, evT, evC, ok_bind, ok_pure, ok_ok, ok_ite, ite_app, setT_nm, setT_tp, setTs_nil, setTs_cons, setN, List.map_cons, List.map_nil, List.set_cons_zero, List.set_cons_succ, List.replicate_succ, List.replicate_zero, List.cons_append, List.nil_append, List.getElem?_cons_zero, List.getElem?_cons_succ, bndM, x_addI, x_subI, x_addS, x_addT, x_ltI, x_leI, x_gtI, x_geI, x_eqI, x_neI, x_eqS, x_neS, x_bl, x_trI, Bool.false_eq_true, if_false, if_true]
  exact ⟨trivial, _, _, _, mod_sm _, rfl⟩
theorem loop_ok {pl0 z a b : Int} (ha : small64 a = true) : Ok (forGo (.nm 7) (.fix (upto 0 6)) (evSs (run P W d) W bLoop) 7 0 (envT p c pl0 z a b none) s) fun o s' => s' = s ∧ ∃ a b x7, o = .nx (envT p c pl0 z a b x7) := by
  refine ok_for (I := fun i r s' => s' = s ∧ ∃ a b x7, small64 a = true ∧ r = envT p c pl0 z a b x7) ?_ ?_ _ 0 _ _ (Nat.zero_le _) (by rw [uptoL]; decide) ⟨rfl, a, b, none, ha, rfl⟩
  · rintro i x r s' hx ⟨rfl, a, b, x7, ha, rfl⟩
    obtain ⟨hi, rfl⟩ := uptoG _ _ _ _ hx
    refine ⟨_, setT_nm, ?_⟩
    refine (body_ok (by omega) (by omega) ha).mono ?_
    rintro o s' ⟨rfl, a, b, x7, h, rfl⟩
    exact ⟨rfl, a, b, x7, h, rfl⟩
  · rintro r s' ⟨rfl, a, b, x7, _, rfl⟩
    exact ⟨rfl, a, b, x7, rfl⟩
theorem x_rng6 {Q : Itr → Sto → Prop} : Ok (rngM [.int 6] s) Q = Q (.fix (upto 0 6)) s := ok_ok
theorem go_ok {z pl0 : Int} {K : Out → Sto → Prop} (hK : ∀ a b x7, K (.nx (envT p c pl0 z a b x7)) s) : Ok (binM .mul (.int z) (.int 40014) s) (fun a s' => Ok (binM .mul (.int 52774) (.int pl0) s') fun a_1 s' => Ok (binM .add a a_1 s') fun a s' => Ok (binM .add a (.int 17) s') fun a s' => Ok (biM .int [a] s') fun a s' => Ok (binM .mod a (.int prm) s') fun a s' => Ok (rngM [.int 6] s') fun a_2 s' =>
      Ok (forGo (.nm 7) a_2 (evSs (run P W d) W bLoop) (Itr.bnd s' a_2 + 1) 0 [some (.loc p), some (.int pl0), some (.loc c), some (.int z), some (.int prm), some a, some a, none] s') K) := by
  rw [x_mulR (sm64 (by decide) (by decide)), x_mulL (sm64 (by decide) (by decide)), x_addI, x_addI, x_intI, x_modP prm_pos, x_rng6]
  refine (loop_ok (mod_sm _)).mono ?_
  rintro o s' ⟨rfl, a, b, x7, rfl⟩
  exact hK a b x7
theorem tail_ok {z : Int} (h : Pen s p c cells pl n) {pl0 : Int} : Ok (evSs (run P W d) W bTail [some (.loc p), some (.int pl0), some (.loc c), some (.int z), none, none, none, none] s) fun o s' => s' = s ∧ ∃ x, o = .rt (.int x) := by
  simp only [bTail, evSs, evS, evE, evEs, evI, evO, evT, evC, ok_bind, ok_pure, ok_ok, ok_ite, ite_app, setT_nm, setT_tp, setTs_nil, setTs_cons, setN, List.map_cons, List.map_nil, List.set_cons_zero, List.set_cons_succ, List.replicate_succ, List.replicate_zero, List.cons_append, List.nil_append, List.getElem?_cons_zero, List.getElem?_cons_succ, bndM, x_addI, x_subI, x_addS, x_addT, x_ltI, x_leI, x_gtI, x_geI, x_eqI, x_neI, x_eqS, x_neS, x_bl, x_trI, Bool.false_eq_true, if_false, if_true]
  rw [x_lenL h.getc, x_ltI]
  by_cases c1 : pl0 < ((cells.map PV.int).length : Int)
  · rw [decide_eq_true c1, if_pos rfl, x_pow18, x_geI]
    by_cases c2 : big18 ≤ z
    · rw [decide_eq_true c2, if_pos rfl, x_pow18, x_subI]
      exact ⟨rfl, _, rfl⟩
    · rw [decide_eq_false c2, if_neg (by decide)]
      refine go_ok ?_
      intro a b x7
      exact ⟨rfl, _, rfl⟩
  · rw [decide_eq_false c1, if_neg (by decide), if_neg (by decide)]
    refine go_ok ?_
    intro a b x7
    exact ⟨rfl, _, rfl⟩
theorem peqs_nil {cs : List Int} : peqs (cs.map PV.int) [] = cs.isEmpty := by cases cs <;> rfl
theorem x_tup {xs : List PV} {P : PV → Sto → Prop} {s : Sto} (h : xs.length ≤ 16777216) : Ok (mkTup xs s) P = P (.tup xs) s := by
  unfold mkTup
  rw [if_pos h]
  first | exact ok_ok | exact ok_ok.trans ok_ok
theorem log9 {b : Int} (h : b < 9000) (h0 : 0 < b) : b.natAbs.log2 < 9000 := Nat.lt_of_le_of_lt (Nat.log2_le_self _) (by omega)
theorem Pen.set1 (h : Pen s p c cells pl n) {v : Int} {U : Unit → Sto → Prop} : Ok (setIx (.loc p) (.int 1) (.int v) s) U = U () (s.set p (.lst [.loc c, .int v, .int n])) := x_setix (n := 1) h.get rfl
theorem Pen.set2 (h : Pen s p c cells pl n) {v : Int} {U : Unit → Sto → Prop} : Ok (setIx (.loc p) (.int 2) (.int v) s) U = U () (s.set p (.lst [.loc c, .int pl, .int v])) := x_setix (n := 2) h.get rfl
theorem fresh_ok (hP : P i = some ⟨1, 8, false, bFresh⟩) (h : Pen s p c cells pl n) : Ok (run P W (d + 1) i [.loc p] s) fun v s' => (∃ x, v = .int x) ∧ PenS s' p c ∧ Frp p s s' := by
  refine run_s hP (ok_runFn rfl ?_)
  have h1 : Pen (s.set p (.lst [.loc c, .int (pl + 1), .int n])) p c cells (pl + 1) n := h.set
  have h2 := h1.fr0 (Fr0.new _ (.lst []))
  have h3 : ((s.set p (.lst [.loc c, .int (pl + 1), .int n])).new (.lst [])).get ((s.set p (.lst [.loc c, .int (pl + 1), .int n])).nxt) = some (.lst []) := get_new'
  have fin : ∀ (z : Int) (K : Out → Sto → Prop), (∀ x : Int, K (.rt (.int x)) ((s.set p (.lst [.loc c, .int (pl + 1), .int n])).new (.lst []))) → Ok (evSs (run P W d) W bTail [some (.loc p), some (.int pl), some (.loc c), some (.int z), none, none, none, none] ((s.set p (.lst [.loc c, .int (pl + 1), .int n])).new (.lst []))) K := by
    intro z K hK
    refine (tail_ok h2).mono ?_
    rintro o s' ⟨rfl, x, rfl⟩
    exact hK x
  have done : PenS (((s.set p (.lst [.loc c, .int (pl + 1), .int n])).new (.lst [])).drop s.nxt) p c ∧ Frp p s (((s.set p (.lst [.loc c, .int (pl + 1), .int n])).new (.lst [])).drop s.nxt) :=
    ⟨⟨cells, _, n, h2.drop h.lt h.ltc⟩, ((Frp.set p s _).trans ((Fr0.new _ _).p p)).drop⟩
  simp only [bFresh, evSs, evS, evE, evEs, evI, evO, evT, evC, ok_bind, ok_pure, ok_ok, ok_ite, ite_app, setT_nm, setT_tp, setTs_nil, setTs_cons, setN, List.map_cons, List.map_nil, List.set_cons_zero, List.set_cons_succ, List.replicate_succ, List.replicate_zero, List.cons_append, List.nil_append, List.getElem?_cons_zero, List.getElem?_cons_succ, bndM, x_addI, x_subI, x_addS, x_addT, x_ltI, x_leI, x_gtI, x_geI, x_eqI, x_neI, x_eqS, x_neS, x_bl, x_trI, Bool.false_eq_true, if_false, if_true]
  rw [x_ix h.get rfl rfl, x_ix h.get rfl rfl, x_tup (by simp)]
  simp -implicitDefEqProofs only [evSs, evS, evE, evEs, evI, evO, evT, evC, ok_bind, ok_pure, ok_ok, ok_ite, ite_app, setT_nm, setT_tp, setTs_nil, setTs_cons, setN, List.map_cons, List.map_nil, List.set_cons_zero, List.set_cons_succ, List.replicate_succ, List.replicate_zero, List.cons_append, List.nil_append, List.getElem?_cons_zero, List.getElem?_cons_succ, bndM, x_addI, x_subI, x_addS, x_addT, x_ltI, x_leI, x_gtI, x_geI, x_eqI, x_neI, x_eqS, x_neS, x_bl, x_trI, Bool.false_eq_true, if_false, if_true]
  rw [h.set1]
  rw [x_newL (by decide), x_neF h2.getc h3 (flat_ints _) rfl, peqs_nil]
  cases cells with
  | nil =>
    simp -implicitDefEqProofs only [evSs, evS, evE, evEs, evI, evO, evT, evC, ok_bind, ok_pure, ok_ok, ok_ite, ite_app, setT_nm, setT_tp, setTs_nil, setTs_cons, setN, List.map_cons, List.map_nil, List.set_cons_zero, List.set_cons_succ, List.replicate_succ, List.replicate_zero, List.cons_append, List.nil_append, List.getElem?_cons_zero, List.getElem?_cons_succ, bndM, x_addI, x_subI, x_addS, x_addT, x_ltI, x_leI, x_gtI, x_geI, x_eqI, x_neI, x_eqS, x_neS, x_bl, x_trI, Bool.false_eq_true, if_false, if_true, List.isEmpty_nil, Bool.not_true]
    exact fin _ _ fun x => ⟨⟨x, rfl⟩, done⟩
  | cons z0 zs =>
    have hl : 0 < (((z0 :: zs).map PV.int).length : Int) := by rw [List.length_map, List.length_cons]; omega
    have hm := Int.emod_lt_of_pos pl hl
    have hn := Int.emod_nonneg pl (Int.ne_of_gt hl)
    obtain ⟨k, hk⟩ := Int.eq_ofNat_of_zero_le hn
    have hk2 : k < (z0 :: zs).length := by rw [hk, List.length_map] at hm; exact Int.ofNat_lt.mp hm
    have hv : ((z0 :: zs).map PV.int)[k]? = some (.int (z0 :: zs)[k]) := by rw [List.getElem?_map, List.getElem?_eq_getElem hk2]; rfl
    have hix : ixOf ((z0 :: zs).map PV.int).length (pl % (((z0 :: zs).map PV.int).length : Int)) = some k := by
      rw [hk]
      unfold ixOf
      rw [hk] at hm
      rw [if_pos (by omega)]
      rw [List.length_cons] at hk2
      simp [hk2]
    simp -implicitDefEqProofs only [evSs, evS, evE, evEs, evI, evO, evT, evC, ok_bind, ok_pure, ok_ok, ok_ite, ite_app, setT_nm, setT_tp, setTs_nil, setTs_cons, setN, List.map_cons, List.map_nil, List.set_cons_zero, List.set_cons_succ, List.replicate_succ, List.replicate_zero, List.cons_append, List.nil_append, List.getElem?_cons_zero, List.getElem?_cons_succ, bndM, x_addI, x_subI, x_addS, x_addT, x_ltI, x_leI, x_gtI, x_geI, x_eqI, x_neI, x_eqS, x_neS, x_bl, x_trI, Bool.false_eq_true, if_false, if_true, List.isEmpty_cons, Bool.not_false]
    rw [x_intI, x_lenL h2.getc, x_modP hl, x_ix h2.getc hix hv]
    exact fin _ _ fun x => ⟨⟨x, rfl⟩, done⟩
theorem draw_ok {b : Int} (hD : P j = some ⟨2, 3, false, bDraw i⟩) (hP : P i = some ⟨1, 8, false, bFresh⟩) (h : PenS s p c) (hb : 0 < b) (hb2 : b < 9000) : Ok (run P W (d + 2) j [.loc p, .int b] s) fun v s' => (∃ x, v = .int x ∧ 0 ≤ x ∧ x < b) ∧ PenS s' p c ∧ Frp p s s' := by
  refine run_s hD (ok_runFn rfl ?_)
  obtain ⟨cells, pl, n, h⟩ := h
  have fin : ∀ (s1 : Sto) (K : Out → Sto → Prop), PenS s1 p c → Frp p s s1 → (∀ x s2, 0 ≤ x → x < b → PenS s2 p c → Frp p s s2 → K (.rt (.int x)) s2) → Ok (evSs (run P W (d + 1)) W bDrawT [some (.loc p), some (.int b), none] s1) K := by
    intro s1 K hp hf hK
    obtain ⟨cells, pl, n, h⟩ := hp
    simp only [bDrawT, evSs, evS, evE, evEs, evI, evO, evT, evC, ok_bind, ok_pure, ok_ok, ok_ite, ite_app, setT_nm, setT_tp, setTs_nil, setTs_cons, setN, List.map_cons, List.map_nil, List.set_cons_zero, List.set_cons_succ, List.replicate_succ, List.replicate_zero, List.cons_append, List.nil_append, List.getElem?_cons_zero, List.getElem?_cons_succ, bndM, x_addI, x_subI, x_addS, x_addT, x_ltI, x_leI, x_gtI, x_geI, x_eqI, x_neI, x_eqS, x_neS, x_bl, x_trI, Bool.false_eq_true, if_false, if_true]
    rw [x_ix h.get rfl rfl, x_intI, x_modP hb, x_ix h.get rfl rfl, x_intI, x_fdivP hb (log9 hb2 hb), h.set2]
    exact hK _ _ (Int.emod_nonneg _ (Int.ne_of_gt hb)) (Int.emod_lt_of_pos _ hb) ⟨cells, _, _, h.set⟩ (hf.trans (Frp.set p _ _))
  simp only [bDraw, evSs, evS, evE, evEs, evI, evO, evT, evC, ok_bind, ok_pure, ok_ok, ok_ite, ite_app, setT_nm, setT_tp, setTs_nil, setTs_cons, setN, List.map_cons, List.map_nil, List.set_cons_zero, List.set_cons_succ, List.replicate_succ, List.replicate_zero, List.cons_append, List.nil_append, List.getElem?_cons_zero, List.getElem?_cons_succ, bndM, x_addI, x_subI, x_addS, x_addT, x_ltI, x_leI, x_gtI, x_geI, x_eqI, x_neI, x_eqS, x_neS, x_bl, x_trI, Bool.false_eq_true, if_false, if_true]
  rw [x_ix h.get rfl rfl]
  simp -implicitDefEqProofs only [evSs, evS, evE, evEs, evI, evO, evT, evC, ok_bind, ok_pure, ok_ok, ok_ite, ite_app, setT_nm, setT_tp, setTs_nil, setTs_cons, setN, List.map_cons, List.map_nil, List.set_cons_zero, List.set_cons_succ, List.replicate_succ, List.replicate_zero, List.cons_append, List.nil_append, List.getElem?_cons_zero, List.getElem?_cons_succ, bndM, x_addI, x_subI, x_addS, x_addT, x_ltI, x_leI, x_gtI, x_geI, x_eqI, x_neI, x_eqS, x_neS, x_bl, x_trI, Bool.false_eq_true, if_false, if_true]
  by_cases c1 : n < b
  · rw [decide_eq_true c1, if_pos rfl]
    refine (fresh_ok hP h).mono ?_
    rintro v s' ⟨⟨x, rfl⟩, hp, hf⟩
    obtain ⟨cells, pl, n, h3⟩ := hp
    rw [h3.set2]
    refine fin _ _ ⟨cells, _, _, h3.set⟩ (hf.trans (Frp.set p _ _)) ?_
    intro x s2 h0 hx hp hf
    exact ⟨⟨x, rfl, h0, hx⟩, hp.drop h.lt h.ltc, hf.drop⟩
  · rw [decide_eq_false c1, if_neg (by decide)]
    refine fin _ _ ⟨cells, _, _, h⟩ (Frp.refl p s) ?_
    intro x s2 h0 hx hp hf
    exact ⟨⟨x, rfl, h0, hx⟩, hp.drop h.lt h.ltc, hf.drop⟩
/-- one of the things of a list, or one letter of a text -/
theorem one_list {xs : List PV} {l : Nat} (hO : P k = some ⟨2, 2, false, bOne j⟩) (hD : P j = some ⟨2, 3, false, bDraw i⟩) (hP : P i = some ⟨1, 8, false, bFresh⟩) (h : PenS s p c) (hx : s.get l = some (.lst xs)) (hl : l < s.nxt) (hlp : l ≠ p) (h0 : xs ≠ []) (h9 : xs.length < 9000) : Ok (run P W (d + 3) k [.loc p, .loc l] s) fun v s' => v ∈ xs ∧ PenS s' p c ∧ Frp p s s' := by
  refine run_s hO (ok_runFn rfl ?_)
  have hpos : 0 < xs.length := List.length_pos_iff.mpr h0
  simp only [bOne, evSs, evS, evE, evEs, evI, evO, evT, evC, ok_bind, ok_pure, ok_ok, ok_ite, ite_app, setT_nm, setT_tp, setTs_nil, setTs_cons, setN, List.map_cons, List.map_nil, List.set_cons_zero, List.set_cons_succ, List.replicate_succ, List.replicate_zero, List.cons_append, List.nil_append, List.getElem?_cons_zero, List.getElem?_cons_succ, bndM, x_addI, x_subI, x_addS, x_addT, x_ltI, x_leI, x_gtI, x_geI, x_eqI, x_neI, x_eqS, x_neS, x_bl, x_trI, Bool.false_eq_true, if_false, if_true]
  rw [x_lenL hx]
  refine (draw_ok hD hP h (by omega) (by omega)).mono ?_
  rintro v s' ⟨⟨x, rfl, hx0, hxl⟩, hp, hf⟩
  obtain ⟨q, rfl⟩ := Int.eq_ofNat_of_zero_le hx0
  have hq : q < xs.length := Int.ofNat_lt.mp hxl
  have hix : ixOf xs.length (q : Int) = some q := by
    unfold ixOf
    rw [if_pos (by omega)]
    simp [hq]
  rw [x_ix ((hf.2 l hl hlp).trans hx) hix (List.getElem?_eq_getElem hq)]
  exact ⟨List.getElem_mem hq, hp.drop h.lt h.ltc, hf.drop⟩
theorem one_text {t : List Nat} (hO : P k = some ⟨2, 2, false, bOne j⟩) (hD : P j = some ⟨2, 3, false, bDraw i⟩) (hP : P i = some ⟨1, 8, false, bFresh⟩) (h : PenS s p c) (h0 : t ≠ []) (h9 : t.length < 9000) : Ok (run P W (d + 3) k [.loc p, .str t] s) fun v s' => (∃ c ∈ t, v = .str [c]) ∧ PenS s' p c ∧ Frp p s s' := by
  refine run_s hO (ok_runFn rfl ?_)
  have hpos : 0 < t.length := List.length_pos_iff.mpr h0
  simp only [bOne, evSs, evS, evE, evEs, evI, evO, evT, evC, ok_bind, ok_pure, ok_ok, ok_ite, ite_app, setT_nm, setT_tp, setTs_nil, setTs_cons, setN, List.map_cons, List.map_nil, List.set_cons_zero, List.set_cons_succ, List.replicate_succ, List.replicate_zero, List.cons_append, List.nil_append, List.getElem?_cons_zero, List.getElem?_cons_succ, bndM, x_addI, x_subI, x_addS, x_addT, x_ltI, x_leI, x_gtI, x_geI, x_eqI, x_neI, x_eqS, x_neS, x_bl, x_trI, Bool.false_eq_true, if_false, if_true]
  rw [x_lenS (by omega)]
  refine (draw_ok hD hP h (by omega) (by omega)).mono ?_
  rintro v s' ⟨⟨x, rfl, hx0, hxl⟩, hp, hf⟩
  obtain ⟨q, rfl⟩ := Int.eq_ofNat_of_zero_le hx0
  have hq : q < t.length := Int.ofNat_lt.mp hxl
  have hix : ixOf t.length (q : Int) = some q := by
    unfold ixOf
    rw [if_pos (by omega)]
    simp [hq]
  rw [x_idxS (by omega) hix (List.getElem?_eq_getElem hq)]
  exact ⟨⟨_, List.getElem_mem hq, rfl⟩, hp.drop h.lt h.ltc, hf.drop⟩
end
end Dp


set_option Elab.async false
set_option linter.all false
set_option maxRecDepth 100000
set_option maxHeartbeats 4000000
set_option autoImplicit false
/-! DpWp3: plain values, iterators, frames: rows for walks. -/
namespace Dp

mutual
theorem sam_refl : ∀ x : PV, pln x = true → sam x x = true
  | .non, _ => rfl
  | .bl _, _ => by simp [sam]
  | .int _, _ => by simp [sam]
  | .str _, _ => by simp [sam]
  | .tup xs, h => by rw [sam]; exact sams_refl xs (by simpa [pln] using h)
  | .loc _, h => by simp [pln] at h
  | .lv _, h => by simp [pln] at h
  | .rp _, h => by simp [pln] at h
theorem sams_refl : ∀ xs : List PV, plns xs = true → sams xs xs = true
  | [], _ => rfl
  | x :: xs, h => by
    rw [plns, Bool.and_eq_true] at h
    rw [sams, sam_refl x h.1, sams_refl xs h.2]; rfl
end
mutual
theorem peq_refl : ∀ x : PV, pln x = true → peq x x = true
  | .non, _ => rfl
  | .bl _, _ => by simp [peq]
  | .int _, _ => by simp [peq]
  | .str _, _ => by simp [peq]
  | .tup xs, h => by rw [peq]; exact peqs_refl xs (by simpa [pln] using h)
  | .loc _, h => by simp [pln] at h
  | .lv _, h => by simp [pln] at h
  | .rp _, h => by simp [pln] at h
theorem peqs_refl : ∀ xs : List PV, plns xs = true → peqs xs xs = true
  | [], _ => rfl
  | x :: xs, h => by
    rw [plns, Bool.and_eq_true] at h
    rw [peqs, peq_refl x h.1, peqs_refl xs h.2]; rfl
end
/-- fit to be compared and told -/
structure Fit (v : PV) : Prop where
  pl : pln v = true
  dp : dep v ≤ 60
structure Tell (v : PV) : Prop where
  pl : pln v = true
  dp : dep v ≤ 60
  sk : shK v = true
  sw : shW v ≤ 16777216
theorem Tell.fit {v : PV} (h : Tell v) : Fit v := ⟨h.pl, h.dp⟩
section
variable {P : PV → Sto → Prop} {B : Bool → Sto → Prop} {U : Unit → Sto → Prop} {s : Sto}
theorem eq_fit {a b : PV} (ha : Fit a) (hb : Fit b) : eqM a b s = .ok (peq a b) s := by
  have key : (match snap s a, snap s b with
    | some x, some y => if dep x ≤ 60 ∧ dep y ≤ 60 then R.ok (peq x y) s else .err
    | _, _ => .err) = .ok (peq a b) s := by
    have e1 : snap s a = some a := snap_pln a ha.pl
    have e2 : snap s b = some b := snap_pln b hb.pl
    rw [e1, e2]
    simp only [ha.dp, hb.dp, and_self, if_true]
  have h1 := ha.pl
  unfold eqM
  split
  · simp [pln] at h1
  · rfl
  · rename_i xs
    cases xs <;> rfl
  · exact key
theorem x_eqP {a b : PV} (ha : Fit a) (hb : Fit b) : Ok (cmpM .eq a b s) B = B (peq a b) s := by
  show Ok (eqM a b s) B = _
  rw [eq_fit ha hb]
  first | exact ok_ok | exact ok_ok.trans ok_ok
theorem x_neP {a b : PV} (ha : Fit a) (hb : Fit b) : Ok (cmpM .ne a b s) B = B (!peq a b) s := by
  have h0 : dicTup s a b = false := by
    have h1 := ha.pl
    cases a <;> first | rfl | (simp [pln] at h1)
  show Ok (if dicTup s a b = true then R.ok true s else M.bind (eqM a b) (fun r => M.pure (!r)) s) B = _
  rw [h0, if_neg (by decide), ok_bind, eq_fit ha hb]
  first | exact ok_ok | exact ok_ok.trans ok_ok
theorem x_rpP {v : PV} (h : Tell v) : Ok (biM .repr [v] s) P = P (.rp v) s := by
  show Ok (reprM v s) P = _
  have e1 : snap s v = some v := snap_pln v h.pl
  unfold reprM
  rw [e1]
  simp only [h.sk, h.dp, h.sw, and_self, if_true]
  first | exact ok_ok | exact ok_ok.trans ok_ok
theorem x_neRP {v : PV} (h : pln v = true) : Ok (cmpM .ne (.rp v) (.rp v) s) B = B false s := by
  show Ok (M.bind (eqM (.rp v) (.rp v)) (fun r => M.pure (!r)) s) B = _
  rw [ok_bind]
  show Ok (R.ok (if sam v v = true then true else _) s) _ = _
  rw [if_pos (sam_refl v h)]
  first | exact ok_ok | exact ok_ok.trans ok_ok
theorem x_eqRP {v : PV} (h : pln v = true) : Ok (cmpM .eq (.rp v) (.rp v) s) B = B true s := by
  show Ok (R.ok (if sam v v = true then true else _) s) _ = _
  rw [if_pos (sam_refl v h)]
  first | exact ok_ok | exact ok_ok.trans ok_ok
/-! steps that need nothing -/
theorem x_isNn : Ok (cmpM .isN .non .non s) B = B true s := ok_ok
theorem x_isNt {xs : List PV} : Ok (cmpM .isN (.tup xs) .non s) B = B false s := ok_ok
theorem x_isNi {i : Int} : Ok (cmpM .isN (.int i) .non s) B = B false s := ok_ok
theorem x_isNs {t : List Nat} : Ok (cmpM .isN (.str t) .non s) B = B false s := ok_ok
theorem x_isNl {l : Nat} : Ok (cmpM .isN (.loc l) .non s) B = B false s := ok_ok
theorem x_noNn : Ok (cmpM .notN .non .non s) B = B false s := ok_ok
theorem x_noNt {xs : List PV} : Ok (cmpM .notN (.tup xs) .non s) B = B true s := ok_ok
theorem x_noNi {i : Int} : Ok (cmpM .notN (.int i) .non s) B = B true s := ok_ok
theorem x_noNs {t : List Nat} : Ok (cmpM .notN (.str t) .non s) B = B true s := ok_ok
theorem x_noNl {l : Nat} : Ok (cmpM .notN (.loc l) .non s) B = B true s := ok_ok
theorem x_is0s {t : List Nat} : Ok (biM (.isinst 0) [.str t] s) P = P (.bl true) s := ok_ok
theorem x_is0i {i : Int} : Ok (biM (.isinst 0) [.int i] s) P = P (.bl false) s := ok_ok
theorem x_is0t {xs : List PV} : Ok (biM (.isinst 0) [.tup xs] s) P = P (.bl false) s := ok_ok
theorem x_is0n : Ok (biM (.isinst 0) [.non] s) P = P (.bl false) s := ok_ok
theorem x_lenT {xs : List PV} : Ok (biM .len [.tup xs] s) P = P (.int xs.length) s := ok_ok
theorem x_tupT {xs : List PV} : Ok (biM .tuple [.tup xs] s) P = P (.tup xs) s := ok_ok
theorem x_itT {xs : List PV} {Q : Itr → Sto → Prop} : Ok (iterOf (.tup xs) s) Q = Q (.fix xs) s := ok_ok
theorem x_itS {t : List Nat} {Q : Itr → Sto → Prop} (h : t.length ≤ 16777216) : Ok (iterOf (.str t) s) Q = Q (.fix (chars t)) s := by
  show Ok (if t.length ≤ 16777216 then R.ok (.fix (chars t)) s else .err) Q = _
  rw [if_pos h]; first | exact ok_ok | exact ok_ok.trans ok_ok | rfl
theorem x_itL {l : Nat} {xs : List PV} {Q : Itr → Sto → Prop} (h : s.lstAt l = some xs) : Ok (iterOf (.loc l) s) Q = Q (.liv l) s := by
  show Ok (match s.lstAt l with | some _ => R.ok (.liv l) s | none => .err) Q = _
  rw [h]; first | exact ok_ok | exact ok_ok.trans ok_ok | rfl
theorem x_idT {xs : List PV} {i : Int} {v : PV} (h : atIx xs i = some v) : Ok (idxM (.tup xs) (.int i) s) P = P v s := by
  show Ok (ofO (atIx xs i) s) P = _
  rw [h]; first | exact ok_ok | exact ok_ok.trans ok_ok | rfl
theorem x_idL {l : Nat} {xs : List PV} {i : Int} {v : PV} (hg : s.lstAt l = some xs) (h : atIx xs i = some v) : Ok (idxM (.loc l) (.int i) s) P = P v s := by
  show Ok (match s.lstAt l with | some xs => ofO (atIx xs i) s | none => .err) P = _
  rw [hg]
  show Ok (ofO (atIx xs i) s) P = _
  rw [h]; first | exact ok_ok | exact ok_ok.trans ok_ok | rfl
theorem x_lnL {l : Nat} {xs : List PV} (e : s.lstAt l = some xs) : Ok (biM .len [.loc l] s) P = P (.int xs.length) s := by
  show Ok (M.bind (lstOf l) (biSeq .len) s) P = _
  rw [ok_bind]
  show Ok (match s.lstAt l with | some xs => R.ok xs s | none => .err) _ = _
  rw [e]; first | exact ok_ok | exact ok_ok.trans ok_ok | rfl
theorem x_liL {l : Nat} {xs : List PV} (e : s.lstAt l = some xs) : Ok (biM .list [.loc l] s) P = Ok (newLst xs s) P := by
  show Ok (M.bind (lstOf l) (biSeq .list) s) P = _
  rw [ok_bind]
  show Ok (match s.lstAt l with | some xs => R.ok xs s | none => .err) _ = _
  rw [e]; first | exact ok_ok | exact ok_ok.trans ok_ok | rfl
theorem x_tuL {l : Nat} {xs : List PV} (e : s.lstAt l = some xs) (h : xs.length ≤ 16777216) : Ok (biM .tuple [.loc l] s) P = P (.tup xs) s := by
  show Ok (M.bind (lstOf l) (biSeq .tuple) s) P = _
  rw [ok_bind]
  show Ok (match s.lstAt l with | some xs => R.ok xs s | none => .err) _ = _
  rw [e]
  refine ok_ok.trans ?_
  show Ok (mkTup xs s) P = _
  rw [x_tup h]
theorem x_slL {l : Nat} {xs : List PV} {lo hi : Option Int} (e : s.lstAt l = some xs) : Ok (slM (.loc l) lo hi s) P = Ok (newLst (cut xs lo hi) s) P := by
  show Ok (match s.lstAt l with | some xs => newLst (cut xs lo hi) s | none => .err) P = _
  rw [e]
theorem x_slT {xs : List PV} {lo hi : Option Int} : Ok (slM (.tup xs) lo hi s) P = P (.tup (cut xs lo hi)) s := ok_ok
theorem x_slS {t : List Nat} {lo hi : Option Int} (h : t.length ≤ 16777216) : Ok (slM (.str t) lo hi s) P = P (.str (cut t lo hi)) s := by
  show Ok (if t.length ≤ 16777216 then R.ok (.str (cut t lo hi)) s else .err) P = _
  rw [if_pos h]; first | exact ok_ok | exact ok_ok.trans ok_ok | rfl
theorem x_rvL {l : Nat} {xs : List PV} (e : s.lstAt l = some xs) : Ok (revM (.loc l) s) P = Ok (newLst xs.reverse s) P := by
  show Ok (match s.lstAt l with | some xs => newLst xs.reverse s | none => .err) P = _
  rw [e]
theorem x_rvT {xs : List PV} : Ok (revM (.tup xs) s) P = P (.tup xs.reverse) s := ok_ok
theorem x_trT {xs : List PV} : Ok (truth (.tup xs) s) B = B (!xs.isEmpty) s := ok_ok
theorem x_addL {l k : Nat} {xs ys : List PV} (h : s.get l = some (.lst xs)) (h2 : s.get k = some (.lst ys)) : Ok (binM .add (.loc l) (.loc k) s) P = Ok (newLst (xs ++ ys) s) P := by
  show Ok (match s.get l, s.get k with | some (.lst x), some (.lst y) => newLst (x ++ y) s | _, _ => .err) P = _
  rw [h, h2]
theorem x_max2 {i j : Int} : Ok (biM .max2 [.int i, .int j] s) P = P (.int (if j > i then j else i)) s := ok_ok
theorem x_min2 {i j : Int} : Ok (biM .min2 [.int i, .int j] s) P = P (.int (if j < i then j else i)) s := ok_ok
theorem x_absI {i : Int} : Ok (biM .abs [.int i] s) P = P (.int (if i < 0 then -i else i)) s := ok_ok
theorem x_intB {b : Bool} : Ok (biM .int [.bl b] s) P = P (.int (if b then 1 else 0)) s := ok_ok
theorem x_ordS {c : Nat} : Ok (biM .ord [.str [c]] s) P = P (.int c) s := ok_ok
theorem x_rngN {n : Int} {Q : Itr → Sto → Prop} (h0 : -4611686018427387904 ≤ n) (h1 : n < 4611686018427387904) : Ok (rngM [.int n] s) Q = Q (.fix (upto 0 n.toNat)) s := by
  have e : rngOk n = true := by
    unfold rngOk
    rw [Bool.and_eq_true, decide_eq_true_eq, decide_eq_true_eq]
    constructor <;> omega
  show Ok (if rngOk n = true then R.ok (.fix (upto 0 n.toNat)) s else .err) Q = _
  rw [e]; first | exact ok_ok | exact ok_ok.trans ok_ok | rfl
theorem x_lrng {n : Int} (h0 : 0 ≤ n) (h1 : n ≤ 16777216) : Ok (rngL (.int n) s) P = P (.loc s.nxt) (s.new (.lst (upto 0 n.toNat))) := by
  have e : rngOk n = true := by
    unfold rngOk
    rw [Bool.and_eq_true, decide_eq_true_eq, decide_eq_true_eq]
    constructor <;> omega
  show Ok ((if rngOk n = true then newLst (upto 0 n.toNat) else M.err) s) P = _
  rw [if_pos e, x_newL (by rw [uptoL]; omega)]
theorem x_joinC {t : List Nat} {xs : List PV} {ss : List (List Nat)} (hx : xs = ss.map PV.str) (hl : (ss.map (·.length)).sum + ss.length * t.length ≤ 16777216) : Ok (joinM (.str t) xs s) P = P (.str (joinL t ss)) s := by
  subst hx
  unfold joinM
  simp only [strsP_map, hl, if_true]
  first | exact ok_ok | exact ok_ok.trans ok_ok
theorem x_tupC {xs : List PV} (h : xs.length ≤ 16777216) : Ok (biSeq .tuple xs s) P = P (.tup xs) s := x_tup h
theorem x_acc {acc : List PV} {v : PV} {Q : List PV → Sto → Prop} (h : acc.length < 16777216) : Ok (accM acc v s) Q = Q (acc ++ [v]) s := by
  unfold accM
  rw [if_pos h]
  exact ok_ok
theorem x_bndF {xs : List PV} {Q : Nat → Sto → Prop} : Ok (bndM (.fix xs) s) Q = Q (xs.length + 1) s := ok_ok
theorem joinL_nil : ∀ ss : List (List Nat), joinL [] ss = ss.flatten
  | [] => rfl
  | [x] => by simp [joinL]
  | x :: y :: r => by
    show x ++ ([] ++ joinL [] (y :: r)) = _
    rw [joinL_nil (y :: r)]
    rfl
/-! dicts -/
theorem x_dnew : Ok (newDic s) P = P (.loc s.nxt) (s.new (.dic [])) := ok_ok
theorem dicAt_of {l : Nat} {kvs : List (PV × PV)} (h : s.get l = some (.dic kvs)) : s.dicAt l = some kvs := by unfold Sto.dicAt; rw [h]
theorem x_dget {l : Nat} {kvs : List (PV × PV)} {k v : PV} (h : s.get l = some (.dic kvs)) (hk : keyOk k = true) (hv : dfind k kvs = some v) : Ok (dgetM (.loc l) k s) P = P v s := by
  show Ok (match s.dicAt l with
    | some kvs => if keyOk k = true then (match dfind k kvs with | some v => R.ok v s | none => .err) else .err
    | none => .err) P = _
  rw [dicAt_of h]
  simp only [hk, hv, if_true]
  first | exact ok_ok | exact ok_ok.trans ok_ok
theorem x_dput {l : Nat} {kvs : List (PV × PV)} {k v : PV} (h : s.get l = some (.dic kvs)) (hk : keyOk k = true) (hl : kvs.length < 16777216) : Ok (dputM (.loc l) k v s) U = U () (s.set l (.dic (dstore k v kvs))) := by
  show Ok (match s.dicAt l with
    | some kvs => if keyOk k = true ∧ kvs.length < 16777216 then R.ok () (s.set l (.dic (dstore k v kvs))) else .err
    | none => .err) U = _
  rw [dicAt_of h]
  simp only [hk, hl, and_self, if_true]
  first | exact ok_ok | exact ok_ok.trans ok_ok
/-! in, index over ints -/
theorem snaps_ints {s : Sto} (is : List Int) : snaps s (is.map PV.int) = some (is.map PV.int) := snaps_flat (flat_ints is)
theorem deps_ints (is : List Int) : deps (is.map PV.int) = 0 := deps_flat (flat_ints is)
theorem any_ints (k : Int) : ∀ is : List Int, ((is.map PV.int).any fun b => peq b (.int k)) = is.any fun j => j == k
  | [] => rfl
  | j :: is => by rw [List.map_cons, List.any_cons, List.any_cons, any_ints k is]; rfl
theorem find_ints (k : Int) : ∀ is : List Int, ((is.map PV.int).findIdx? fun b => peq b (.int k)) = is.findIdx? fun j => j == k
  | [] => rfl
  | j :: is => by rw [List.map_cons, List.findIdx?_cons, List.findIdx?_cons, find_ints k is]; rfl
theorem seek_ints {α : Type} {f : PV → List PV → Option α} {k : Int} {is : List Int} {r : α} (h : f (.int k) (is.map PV.int) = some r) : seekM f (.int k) (is.map PV.int) s = .ok r s := by
  unfold seekM
  have e1 : snap s (.int k) = some (.int k) := rfl
  rw [e1, snaps_ints]
  simp only [deps_ints, h, show dep (.int k) = 0 from rfl, Nat.zero_le, and_self, if_true]
theorem x_inL {l : Nat} {is : List Int} {k : Int} (e : s.lstAt l = some (is.map PV.int)) : Ok (cmpM .isin (.int k) (.loc l) s) B = B (is.any fun j => j == k) s := by
  show Ok (match s.lstAt l with | some ys => seekM anyEq (.int k) ys s | none => .err) B = _
  rw [e]
  show Ok (seekM anyEq (.int k) (is.map PV.int) s) B = _
  rw [seek_ints (f := anyEq) (r := is.any fun j => j == k) (by unfold anyEq; rw [any_ints])]
  first | exact ok_ok | exact ok_ok.trans ok_ok
theorem x_ixL {l : Nat} {is : List Int} {k : Int} {n : Nat} (e : s.lstAt l = some (is.map PV.int)) (h : (is.findIdx? fun j => j == k) = some n) : Ok (mtM .index (.loc l) [.int k] s) P = P (.int n) s := by
  show Ok (match s.lstAt l with | some xs => M.bind (seekM firstEq (.int k) xs) (fun n => M.pure (.int n)) s | none => .err) P = _
  rw [e]
  show Ok (M.bind (seekM firstEq (.int k) (is.map PV.int)) (fun n => M.pure (.int n)) s) P = _
  rw [ok_bind, seek_ints (f := firstEq) (r := n) (by unfold firstEq; rw [find_ints]; exact h)]
  first | exact ok_ok | exact ok_ok.trans ok_ok
theorem x_popAt {l : Nat} {xs : List PV} {i : Int} {j : Nat} {v : PV} (h : s.get l = some (.lst xs)) (hi : ixOf xs.length i = some j) (hv : xs[j]? = some v) : Ok (mtM .pop (.loc l) [.int i] s) P = P v (s.set l (.lst (xs.eraseIdx j))) := by
  show Ok (match s.get l with
    | some (.lst xs) => (match ixOf xs.length i with
      | some j => (match xs[j]? with | some v => R.ok v (s.set l (.lst (xs.eraseIdx j))) | none => .err)
      | none => .err)
    | _ => .err) P = _
  rw [h]
  simp only [hi, hv]
  first | exact ok_ok | exact ok_ok.trans ok_ok
theorem x_chkM {m : Mt} {l : Nat} {xs : List PV} (hm : m ≠ .join) (e : s.lstAt l = some xs) (hm2 : m ≠ .starts := by intro z; cases z) : Ok (mtChk m (.loc l) s) U = U () s := by
  have e2 : mtT m (.loc l) s = some "list" := by
    cases m <;> first | exact absurd rfl hm | exact absurd rfl hm2 | (show (match s.lstAt l with | some _ => some "list" | none => none) = _; rw [e])
  unfold mtChk
  rw [e2]
  first | exact ok_ok | exact ok_ok.trans ok_ok
theorem lst_at {l : Nat} {xs : List PV} (e : s.get l = some (.lst xs)) : s.lstAt l = some xs := by unfold Sto.lstAt; rw [e]
theorem ix_nat {n k : Nat} (h : k < n) : ixOf n (k : Int) = some k := by
  unfold ixOf
  rw [if_pos (by omega)]
  simp [h]
theorem ix_neg1 {n : Nat} (h : 0 < n) : ixOf n (-1) = some (n - 1) := by
  unfold ixOf
  rw [if_neg (by omega), if_pos (by omega)]
  congr 1
  omega
theorem at_nat {α : Type} {xs : List α} {k : Nat} {v : α} (h : xs[k]? = some v) : atIx xs (k : Int) = some v := by
  have hk : k < xs.length := (List.getElem?_eq_some_iff.mp h).1
  unfold atIx
  rw [ix_nat hk]
  exact h
end

/-- a def that is run; its body by a name, so that nobody runs it ahead of time -/
theorem ok_run {Pr : Nat → Option IFn} {W d f np ns : Nat} {keep : Bool} {body : ISs} {vs : List PV} {s : Sto} {Q : PV → Sto → Prop} (hP : Pr f = some ⟨np, ns, keep, body⟩) (hl : vs.length = np)
    (h : ∀ b, b = body → Ok (evSs (run Pr W d) W b (vs.map some ++ List.replicate (ns - np) none) s) fun o s' => match o with
      | .nx _ => Q .non (if keep then s' else s'.drop s.nxt)
      | .rt v => Q v (if keep then s' else s'.drop s.nxt)
      | _ => False) : Ok (run Pr W (d + 1) f vs s) Q :=
  run_s hP (ok_runFn hl (h body rfl))
/-! ### loops over any iterator that tells its items -/
theorem ok_forJ {t : IT} {J : Itr} {xs : List PV} {f : Env → M Out} {P : Out → Sto → Prop} (I : Nat → Env → Sto → Prop)
    (hJ : ∀ i r s, I i r s → J.at s i = seqAt xs i)
    (hs : ∀ i x r s, xs[i]? = some x → I i r s → ∃ r', setT t x r = some r' ∧ Ok (f r' s) fun o s' => match o with
      | .nx r2 => I (i + 1) r2 s'
      | .ct r2 => I (i + 1) r2 s'
      | .bk r2 => P (.nx r2) s'
      | .rt v => P (.rt v) s')
    (hd : ∀ r s, I xs.length r s → P (.nx r) s) : ∀ (k i : Nat) (r : Env) (s : Sto), i ≤ xs.length → xs.length < i + k → I i r s → Ok (forGo t J f k i r s) P := by
  intro k
  induction k with
  | zero => intro i r s h1 h2 _; omega
  | succ k ih =>
    intro i r s h1 h2 hI
    have eJ := hJ i r s hI
    by_cases hi : i < xs.length
    · have e : xs[i]? = some xs[i] := List.getElem?_eq_getElem hi
      obtain ⟨r', e2, h⟩ := hs i _ r s e hI
      have eS : J.at s i = some (some xs[i]) := by rw [eJ]; unfold seqAt; rw [e]
      have e3 : forGo t J f (k + 1) i r s = M.bind (f r') (fun o => match o with
        | .nx r2 => forGo t J f k (i + 1) r2
        | .ct r2 => forGo t J f k (i + 1) r2
        | .bk r2 => M.pure (.nx r2)
        | .rt v => M.pure (.rt v)) s := by
        simp only [forGo, eS, e2] <;> first | done | rfl
      rw [e3, ok_bind]
      refine h.mono fun o s' q => ?_
      cases o with
      | nx r2 => exact ih (i + 1) r2 s' hi (by omega) q
      | ct r2 => exact ih (i + 1) r2 s' hi (by omega) q
      | bk r2 => exact .mk q
      | rt v => exact .mk q
    · have e : i = xs.length := by omega
      subst e
      have eS : J.at s xs.length = some none := by
        rw [eJ]; unfold seqAt
        rw [List.getElem?_eq_none (Nat.le_refl _)]
        simp only [beq_self_eq_true, if_true]
      have e3 : forGo t J f (k + 1) xs.length r s = .ok (.nx r) s := by simp only [forGo, eS]
      rw [e3]
      exact .mk (hd r s hI)
theorem ok_lcJ {t : IT} {J : Itr} {xs : List PV} {r : Env} {f : Env → List PV → M (List PV)} {P : List PV → Sto → Prop} (I : Nat → List PV → Sto → Prop)
    (hJ : ∀ i a s, I i a s → J.at s i = seqAt xs i)
    (hs : ∀ i x acc s, xs[i]? = some x → I i acc s → ∃ r', setT t x r = some r' ∧ Ok (f r' acc s) fun a s' => I (i + 1) a s')
    (hd : ∀ a s, I xs.length a s → P a s) : ∀ (k i : Nat) (acc : List PV) (s : Sto), i ≤ xs.length → xs.length < i + k → I i acc s → Ok (lcGo t J r f k i acc s) P := by
  intro k
  induction k with
  | zero => intro i r s h1 h2 _; omega
  | succ k ih =>
    intro i acc s h1 h2 hI
    have eJ := hJ i acc s hI
    by_cases hi : i < xs.length
    · have e : xs[i]? = some xs[i] := List.getElem?_eq_getElem hi
      obtain ⟨r', e2, h⟩ := hs i _ acc s e hI
      have eS : J.at s i = some (some xs[i]) := by rw [eJ]; unfold seqAt; rw [e]
      have e3 : lcGo t J r f (k + 1) i acc s = M.bind (f r' acc) (lcGo t J r f k (i + 1)) s := by simp only [lcGo, eS, e2]
      rw [e3, ok_bind]
      exact h.mono fun a s' q => ih (i + 1) a s' hi (by omega) q
    · have e : i = xs.length := by omega
      subst e
      have eS : J.at s xs.length = some none := by
        rw [eJ]; unfold seqAt
        rw [List.getElem?_eq_none (Nat.le_refl _)]
        simp only [beq_self_eq_true, if_true]
      have e3 : lcGo t J r f (k + 1) xs.length acc s = .ok acc s := by simp only [lcGo, eS]
      rw [e3]
      exact .mk (hd acc s hI)
theorem at_fix {xs : List PV} {s : Sto} {i : Nat} : (Itr.fix xs).at s i = seqAt xs i := rfl
theorem at_liv {l : Nat} {xs : List PV} {s : Sto} {i : Nat} (h : s.lstAt l = some xs) : (Itr.liv l).at s i = seqAt xs i := by
  show (match s.lstAt l with | some xs => seqAt xs i | none => none) = _
  rw [h]
def enumP : Nat → List PV → List PV
  | _, [] => []
  | k, x :: xs => .tup [.int k, x] :: enumP (k + 1) xs
theorem enumP_len : ∀ (k : Nat) (xs : List PV), (enumP k xs).length = xs.length
  | _, [] => rfl
  | k, x :: xs => by rw [enumP, List.length_cons, List.length_cons, enumP_len]
theorem enumP_get : ∀ (k : Nat) (xs : List PV) (i : Nat), (enumP k xs)[i]? = (xs[i]?).map fun x => .tup [.int ((k + i : Nat) : Int), x]
  | _, [], _ => by simp [enumP]
  | k, x :: xs, 0 => by simp [enumP]
  | k, x :: xs, i + 1 => by
    rw [enumP, List.getElem?_cons_succ, List.getElem?_cons_succ, enumP_get (k + 1) xs i, show k + 1 + i = k + (i + 1) by omega]
theorem at_en {J : Itr} {xs : List PV} {s : Sto} {i : Nat} (h : J.at s i = seqAt xs i) : (Itr.en J).at s i = seqAt (enumP 0 xs) i := by
  show (match J.at s i with
    | some (some p) => some (some (PV.tup [.int i, p]))
    | some none => some none
    | none => none) = _
  rw [h]
  unfold seqAt
  rw [enumP_get, enumP_len, Nat.zero_add]
  cases xs[i]? with
  | some x => rfl
  | none =>
    simp only [Option.map_none]
    by_cases q : (i == xs.length) = true
    · rw [if_pos q]
    · rw [if_neg q]
def zipP (xs ys : List PV) : List PV := List.zipWith (fun x y => .tup [x, y]) xs ys
theorem zipP_len {xs ys : List PV} (h : xs.length = ys.length) : (zipP xs ys).length = xs.length := by unfold zipP; rw [List.length_zipWith]; omega
theorem at_zp {st : Bool} {A B : Itr} {xs ys : List PV} {s : Sto} {i : Nat} (h1 : A.at s i = seqAt xs i) (h2 : B.at s i = seqAt ys i) (hl : xs.length = ys.length) : (Itr.zp st A B).at s i = seqAt (zipP xs ys) i := by
  show (match A.at s i, B.at s i with
    | some (some x), some (some y) => some (some (PV.tup [x, y]))
    | some none, some none => some none
    | some none, some (some _) => if st then none else some none
    | some (some _), some none => if st then none else some none
    | _, _ => none) = _
  rw [h1, h2]
  unfold seqAt
  rw [zipP_len hl]
  unfold zipP
  rw [List.getElem?_zipWith]
  by_cases hi : i < xs.length
  · rw [List.getElem?_eq_getElem hi, List.getElem?_eq_getElem (by omega : i < ys.length)]
  · rw [List.getElem?_eq_none (by omega : xs.length ≤ i), List.getElem?_eq_none (by omega : ys.length ≤ i), ← hl]
    by_cases q : (i == xs.length) = true
    · simp only [q, if_true]
    · simp only [q]
      rfl

/-! ### frames with some objects changed -/
def Fra (A : List Nat) (s s' : Sto) : Prop := s.nxt ≤ s'.nxt ∧ ∀ l, l < s.nxt → l ∉ A → s'.get l = s.get l
section
variable {A B : List Nat} {s s1 s2 : Sto} {p : Nat}
theorem Fra.refl (A : List Nat) (s : Sto) : Fra A s s := ⟨Nat.le_refl _, fun _ _ _ => rfl⟩
theorem Fra.trans (a : Fra A s s1) (b : Fra A s1 s2) : Fra A s s2 := ⟨Nat.le_trans a.1 b.1, fun l h n => (b.2 l (Nat.lt_of_lt_of_le h a.1) n).trans (a.2 l h n)⟩
theorem Fra.mono (a : Fra A s s1) (h : ∀ l ∈ A, l ∈ B) : Fra B s s1 := ⟨a.1, fun l hl n => a.2 l hl fun q => n (h l q)⟩
theorem Fr0.fra (a : Fr0 s s1) (A : List Nat) : Fra A s s1 := ⟨a.1, fun l hl _ => a.2 l hl⟩
theorem Frp.fra (a : Frp p s s1) (h : p ∈ A) : Fra A s s1 := ⟨a.1, fun l hl n => a.2 l hl fun q => n (q ▸ h)⟩
theorem Fra.fr0 (a : Fra [] s s1) : Fr0 s s1 := ⟨a.1, fun l hl => a.2 l hl (List.not_mem_nil)⟩
theorem Fra.frp (a : Fra [p] s s1) : Frp p s s1 := ⟨a.1, fun l hl n => a.2 l hl fun q => n (List.mem_singleton.mp q)⟩
theorem Fra.set (s : Sto) {l : Nat} (o : PO) (h : l ∈ A) : Fra A s (s.set l o) := (Frp.set l s o).fra h
theorem Fra.drop (a : Fra A s s1) : Fra A s (s1.drop s.nxt) := ⟨a.1, fun l hl n => (getL_keep hl s1.obs).trans (a.2 l hl n)⟩
/-- an object made since s may be changed -/
theorem Fra.setN (a : Fra A s s1) {l : Nat} (o : PO) (h : s.nxt ≤ l) : Fra A s (s1.set l o) :=
  ⟨a.1, fun k hk n => ((Frp.set l s1 o).2 k (Nat.lt_of_lt_of_le hk a.1) (by omega)).trans (a.2 k hk n)⟩
theorem Frp.setN (a : Frp p s s1) {l : Nat} (o : PO) (h : s.nxt ≤ l) : Frp p s (s1.set l o) :=
  ⟨a.1, fun k hk n => ((Frp.set l s1 o).2 k (Nat.lt_of_lt_of_le hk a.1) (by omega)).trans (a.2 k hk n)⟩
theorem Fr0.setW (a : Fr0 s s1) {l : Nat} (o : PO) (h : s.nxt ≤ l) : Fr0 s (s1.set l o) :=
  ⟨a.1, fun k hk => ((Frp.set l s1 o).2 k (Nat.lt_of_lt_of_le hk a.1) (by omega)).trans (a.2 k hk)⟩
theorem Fra.get (a : Fra A s s1) {l : Nat} {o : PO} (h : s.get l = some o) (hl : l < s.nxt) (n : l ∉ A) : s1.get l = some o := (a.2 l hl n).trans h
theorem Frp.get (a : Frp p s s1) {l : Nat} {o : PO} (h : s.get l = some o) (hl : l < s.nxt) (n : l ≠ p) : s1.get l = some o := (a.2 l hl n).trans h
theorem Fr0.get (a : Fr0 s s1) {l : Nat} {o : PO} (h : s.get l = some o) (hl : l < s.nxt) : s1.get l = some o := (a.2 l hl).trans h
theorem Fr0.at_ (a : Fr0 s s1) {l : Nat} {xs : List PV} (h : s.lstAt l = some xs) (hl : l < s.nxt) : s1.lstAt l = some xs := by
  unfold Sto.lstAt at h ⊢
  rw [a.2 l hl]; exact h
theorem set_get {l k : Nat} {o : PO} (h : k ≠ l) : (s.set l o).get k = s.get k := by
  show getL k (setL l o s.obs) = getL k s.obs
  induction s.obs with
  | nil => rfl
  | cons q r ih =>
    obtain ⟨j, w⟩ := q
    rw [setL]
    by_cases e : (j == l) = true
    · have ne : ¬ (j == k) = true := fun z => h ((beq_iff_eq.mp z).symm.trans (beq_iff_eq.mp e))
      rw [if_pos e, getL, getL, if_neg ne, if_neg ne]
    · rw [if_neg e, getL, getL, ih]
theorem PenS.fra {c : Nat} (h : PenS s p c) (f : Fra A s s1) (hp : p ∉ A) (hc : c ∉ A) : PenS s1 p c := by
  obtain ⟨cs, pl, n, h⟩ := h
  exact ⟨cs, pl, n, (f.2 p h.lt hp).trans h.get, (f.2 c h.ltc hc).trans h.getc, h.ne, Nat.lt_of_lt_of_le h.lt f.1, Nat.lt_of_lt_of_le h.ltc f.1⟩
theorem PenS.setX {c l : Nat} {o : PO} (h : PenS s p c) (hp : l ≠ p) (hc : l ≠ c) : PenS (s.set l o) p c := by
  obtain ⟨cs, pl, n, h⟩ := h
  exact ⟨cs, pl, n, (set_get (Ne.symm hp)).trans h.get, (set_get (Ne.symm hc)).trans h.getc, h.ne, h.lt, h.ltc⟩
end
end Dp

local macro_rules | `(tactic| simp_arith only [$as,*]) => `(tactic| simp -implicitDefEqProofs only [$as,*, Dp.evSs, Dp.evS, Dp.evE, Dp.evEs, Dp.evI, Dp.evO, Dp.evT, Dp.evC, Dp.ok_bind, Dp.ok_pure, Dp.ok_ok, Dp.ok_ite, Dp.ite_app, Dp.setT_nm, Dp.setT_tp, Dp.setTs_nil, Dp.setTs_cons, Dp.setN, List.map_cons, List.map_nil, List.set_cons_zero, List.set_cons_succ, List.replicate_succ, List.replicate_zero, List.cons_append, List.nil_append, List.getElem?_cons_zero, List.getElem?_cons_succ, Dp.bndM, Dp.x_addI, Dp.x_subI, Dp.x_addS, Dp.x_addT, Dp.x_ltI, Dp.x_leI, Dp.x_gtI, Dp.x_geI, Dp.x_eqI, Dp.x_neI, Dp.x_eqS, Dp.x_neS, Dp.x_bl, Dp.x_trI, Bool.false_eq_true, if_false, if_true, Dp.x_isNn, Dp.x_isNt, Dp.x_isNi, Dp.x_isNs, Dp.x_isNl, Dp.x_noNn, Dp.x_noNt, Dp.x_noNi, Dp.x_noNs, Dp.x_noNl, Dp.x_is0s, Dp.x_is0i, Dp.x_is0t, Dp.x_is0n, Dp.x_lenT, Dp.x_tupT, Dp.x_itT, Dp.x_slT, Dp.x_rvT, Dp.x_trT, Dp.x_max2, Dp.x_min2, Dp.x_absI, Dp.x_intB, Dp.x_intI, Dp.x_ordS, Dp.x_bndF, Bool.not_true, Bool.not_false, decide_true, decide_false, Dp.wipeE])


set_option Elab.async false
set_option linter.all false
set_option maxRecDepth 100000
set_option autoImplicit false
/-! Gn: the bodies of the defs that many laws share, the indices of the defs that they call as parameters (printed by mkgen.py). -/
namespace Dp
def Gmade_of_e1 : IE := (.ifx (.bi (.isinst 0) (.cons (.var 2) .nil)) (.var 2) (.idx (.var 1) (.var 2)))
/-- made_of(recipe, texts): ; 3 slots: 0 recipe 1 texts 2 part; keep False -/
def Gmade_of : ISs := (.cons (.ret (.joinC (.cst (.str [])) (.one [2] Gmade_of_e1 (.nm 2) (.ex (.var 0)) .none))) .nil)
def Gf_made_of : IFn := ⟨2, 3, false, Gmade_of⟩
/-- beginning(writer): ; 1 slots: 0 writer; keep False -/
def Gbeginning : ISs := (.cons (.ret (.tup (.cons (.cst (.int 0)) (.cons (.idx (.var 0) (.cst (.int 0))) .nil)))) .nil)
def Gf_beginning : IFn := ⟨1, 1, false, Gbeginning⟩
def Gstep_e1 (i_made_of : Nat) : IE := (.call i_made_of (.cons (.var 6) (.cons (.var 4) .nil)))
/-- step(writer, situation, kind): made_of; 7 slots: 0 writer 1 situation 2 kind 3 state 4 texts 5 entry 6 recipe; keep False -/
def Gstep (i_made_of : Nat) : ISs := (.cons (.ife (.cmp .isN (.var 1) (.cst .non)) (.cons (.ret (.cst .non)) .nil) .nil) (.cons (.asg (.tp (.cons (.nm 3) (.cons (.nm 4) .nil))) (.var 1)) (.cons (.asg (.nm 5) (.idx (.idx (.idx (.var 0) (.cst (.int 1))) (.var 3)) (.var 2))) (.cons (.ife (.cmp .isN (.var 5) (.cst .non)) (.cons (.ret (.cst .non)) .nil) .nil) (.cons (.ret (.tup (.cons (.idx (.var 5) (.cst (.int 0))) (.cons (.biC .tuple (.one [6] (Gstep_e1 i_made_of) (.nm 6) (.ex (.idx (.var 5) (.cst (.int 1)))) .none)) .nil)))) .nil)))))
def Gf_step (i_made_of : Nat) : IFn := ⟨3, 7, false, Gstep i_made_of⟩
def Gled_on_b1 (i_step : Nat) : ISs := (.cons (.asg (.nm 1) (.call i_step (.cons (.var 0) (.cons (.var 1) (.cons (.var 3) .nil))))) .nil)
/-- led_on(writer, situation, word): step; 4 slots: 0 writer 1 situation 2 word 3 kind; keep False -/
def Gled_on (i_step : Nat) : ISs := (.cons (.for (.nm 3) (.ex (.var 2)) (Gled_on_b1 i_step)) (.cons (.ret (.var 1)) .nil))
def Gf_led_on (i_step : Nat) : IFn := ⟨3, 4, false, Gled_on i_step⟩
/-- behind(writer, word): led_on, beginning; 2 slots: 0 writer 1 word; keep False -/
def Gbehind (i_led_on i_beginning : Nat) : ISs := (.cons (.ret (.call i_led_on (.cons (.var 0) (.cons (.call i_beginning (.cons (.var 0) .nil)) (.cons (.var 1) .nil))))) .nil)
def Gf_behind (i_led_on i_beginning : Nat) : IFn := ⟨2, 2, false, Gbehind i_led_on i_beginning⟩
/-- end_text(writer, situation): made_of; 3 slots: 0 writer 1 situation 2 end; keep False -/
def Gend_text (i_made_of : Nat) : ISs := (.cons (.ife (.cmp .isN (.var 1) (.cst .non)) (.cons (.ret (.cst .non)) .nil) .nil) (.cons (.asg (.nm 2) (.idx (.idx (.var 0) (.cst (.int 2))) (.idx (.var 1) (.cst (.int 0))))) (.cons (.ret (.ifx (.cmp .isN (.var 2) (.cst .non)) (.cst .non) (.call i_made_of (.cons (.var 2) (.cons (.idx (.var 1) (.cst (.int 1))) .nil))))) .nil)))
def Gf_end_text (i_made_of : Nat) : IFn := ⟨2, 3, false, Gend_text i_made_of⟩
/-- text_for(writer, word): end_text, behind; 2 slots: 0 writer 1 word; keep False -/
def Gtext_for (i_end_text i_behind : Nat) : ISs := (.cons (.ret (.call i_end_text (.cons (.var 0) (.cons (.call i_behind (.cons (.var 0) (.cons (.var 1) .nil))) .nil)))) .nil)
def Gf_text_for (i_end_text i_behind : Nat) : IFn := ⟨2, 2, false, Gtext_for i_end_text i_behind⟩
/-- _law_pen(script): ; 1 slots: 0 script; keep True -/
def GL_pen : ISs := (.cons (.ret (.lst (.cons (.bi .list (.cons (.sl (.var 0) .none (.some (.cst (.int 63)))) .nil)) (.cons (.cst (.int 0)) (.cons (.cst (.int 0)) .nil))))) .nil)
def Gf_L_pen : IFn := ⟨1, 1, true, GL_pen⟩
def GL_piece_e1 (i_one_of i_draw : Nat) : IE := (.call i_one_of (.cons (.var 0) (.cons (.var 2) .nil)))
/-- _law_piece(pen, most): _law_one_of, _law_draw; 4 slots: 0 pen 1 most 2 letters 3 lap; keep False -/
def GL_piece (i_one_of i_draw : Nat) : ISs := (.cons (.asg (.nm 2) (.call i_one_of (.cons (.var 0) (.cons (.lst (.cons (.cst (.str [97, 98])) (.cons (.cst (.str [97, 98])) (.cons (.cst (.str [97])) (.cons (.cst (.str [97, 98, 99])) (.cons (.cst (.str [97, 98, 99, 100, 101, 102, 103, 104, 105, 106, 107, 108, 109, 110, 111, 112, 113, 114, 115, 116, 117, 118, 119, 120, 121, 122])) .nil)))))) .nil)))) (.cons (.ret (.joinC (.cst (.str [])) (.one [3] (GL_piece_e1 i_one_of i_draw) (.nm 3) (.rng (.cons (.bin .add (.cst (.int 1)) (.call i_draw (.cons (.var 0) (.cons (.var 1) .nil)))) .nil)) .none))) .nil))
def Gf_L_piece (i_one_of i_draw : Nat) : IFn := ⟨2, 4, false, GL_piece i_one_of i_draw⟩
def GL_normal_b1 : ISs := (.cons (.ife (.and (.bi (.isinst 0) (.cons (.var 2) .nil)) (.and (.cmp .ne (.var 1) (.lst .nil)) (.bi (.isinst 0) (.cons (.idx (.var 1) (.neg (.cst (.int 1)))) .nil)))) (.cons (.setix (.var 1) (.neg (.cst (.int 1))) (.bin .add (.idx (.var 1) (.neg (.cst (.int 1)))) (.var 2))) .nil) (.cons (.ife (.cmp .ne (.var 2) (.cst (.str []))) (.cons (.ex (.mt .append (.var 1) (.cons (.var 2) .nil))) .nil) .nil) .nil)) .nil)
/-- _law_normal(parts): ; 3 slots: 0 parts 1 found 2 part; keep False -/
def GL_normal : ISs := (.cons (.asg (.nm 1) (.lst .nil)) (.cons (.for (.nm 2) (.ex (.var 0)) GL_normal_b1) (.cons (.ret (.bi .tuple (.cons (.var 1) .nil))) .nil)))
def Gf_L_normal : IFn := ⟨1, 3, false, GL_normal⟩
def GL_fill_b1 (i_normal i_one_of i_draw i_piece : Nat) : ISs := (.cons (.ife (.cmp .eq (.call i_draw (.cons (.var 0) (.cons (.cst (.int 3)) .nil))) (.cst (.int 0))) (.cons (.ex (.mt .append (.var 3) (.cons (.call i_piece (.cons (.var 0) (.cons (.cst (.int 2)) .nil))) .nil))) .nil) .nil) (.cons (.ife (.cmp .ne (.var 1) (.lst .nil)) (.cons (.asg (.nm 5) (.ifx (.and (.cmp .isin (.var 2) (.var 1)) (.cmp .gt (.call i_draw (.cons (.var 0) (.cons (.cst (.int 3)) .nil))) (.cst (.int 0)))) (.mt .index (.var 1) (.cons (.var 2) .nil)) (.call i_draw (.cons (.var 0) (.cons (.bi .len (.cons (.var 1) .nil)) .nil))))) (.cons (.ex (.mt .append (.var 3) (.cons (.mt .pop (.var 1) (.cons (.var 5) .nil)) .nil))) .nil)) .nil) .nil))
/-- _law_fill(pen, left, own): _law_normal, _law_one_of, _law_draw, _law_piece; 6 slots: 0 pen 1 left 2 own 3 parts 4 lap 5 at; keep False -/
def GL_fill (i_normal i_one_of i_draw i_piece : Nat) : ISs := (.cons (.asg (.nm 3) (.lst .nil)) (.cons (.for (.nm 4) (.rng (.cons (.call i_one_of (.cons (.var 0) (.cons (.lst (.cons (.cst (.int 0)) (.cons (.cst (.int 1)) (.cons (.cst (.int 1)) (.cons (.cst (.int 1)) (.cons (.cst (.int 1)) (.cons (.cst (.int 2)) .nil))))))) .nil))) .nil)) (GL_fill_b1 i_normal i_one_of i_draw i_piece)) (.cons (.ife (.cmp .eq (.call i_draw (.cons (.var 0) (.cons (.cst (.int 2)) .nil))) (.cst (.int 0))) (.cons (.ex (.mt .append (.var 3) (.cons (.call i_piece (.cons (.var 0) (.cons (.cst (.int 2)) .nil))) .nil))) .nil) .nil) (.cons (.ret (.call i_normal (.cons (.var 3) .nil))) .nil))))
def Gf_L_fill (i_normal i_one_of i_draw i_piece : Nat) : IFn := ⟨3, 6, false, GL_fill i_normal i_one_of i_draw i_piece⟩
def GL_fills_e1 (i_fill i_draw : Nat) : IE := (.dget (.var 4) (.var 5))
def GL_fills_b1 (i_fill i_draw : Nat) : ISs := (.cons (.dput (.var 4) (.var 5) (.call i_fill (.cons (.var 0) (.cons (.var 2) (.cons (.var 5) .nil))))) .nil)
/-- _law_fills(pen, buffers): _law_fill, _law_draw; 6 slots: 0 pen 1 buffers 2 left 3 order 4 found 5 buffer; keep False -/
def GL_fills (i_fill i_draw : Nat) : ISs := (.cons (.asg (.nm 2) (.lrng (.var 1))) (.cons (.asg (.nm 3) (.ifx (.cmp .eq (.call i_draw (.cons (.var 0) (.cons (.cst (.int 4)) .nil))) (.cst (.int 0))) (.rev (.var 2)) (.bi .list (.cons (.var 2) .nil)))) (.cons (.asg (.nm 4) .dnew) (.cons (.for (.nm 5) (.ex (.var 3)) (GL_fills_b1 i_fill i_draw)) (.cons (.ret (.biC .tuple (.one [5] (GL_fills_e1 i_fill i_draw) (.nm 5) (.rng (.cons (.var 1) .nil)) .none))) .nil)))))
def Gf_L_fills (i_fill i_draw : Nat) : IFn := ⟨2, 6, false, GL_fills i_fill i_draw⟩
/-- _law_end(pen, buffers): _law_fill, _law_draw; 2 slots: 0 pen 1 buffers; keep False -/
def GL_end (i_fill i_draw : Nat) : ISs := (.cons (.ret (.ifx (.cmp .gt (.call i_draw (.cons (.var 0) (.cons (.cst (.int 5)) .nil))) (.cst (.int 0))) (.call i_fill (.cons (.var 0) (.cons (.lrng (.var 1)) (.cons (.bin .sub (.var 1) (.cst (.int 1))) .nil)))) (.cst .non))) .nil)
def Gf_L_end (i_fill i_draw : Nat) : IFn := ⟨2, 2, false, GL_end i_fill i_draw⟩
def GL_writer_e1 (i_end i_draw i_piece i_fills : Nat) : IE := (.call i_end (.cons (.var 0) (.cons (.var 3) .nil)))
def GL_writer_b1 (i_end i_draw i_piece i_fills : Nat) : ISs := (.cons (.asg (.tp (.cons (.nm 9) (.cons (.nm 10) .nil))) (.tup (.cons (.call i_draw (.cons (.var 0) (.cons (.var 2) .nil))) (.cons (.call i_fills (.cons (.var 0) (.cons (.var 3) .nil))) .nil)))) (.cons (.ex (.mt .append (.var 7) (.cons (.ifx (.cmp .gt (.call i_draw (.cons (.var 0) (.cons (.cst (.int 6)) .nil))) (.cst (.int 0))) (.tup (.cons (.var 9) (.cons (.var 10) .nil))) (.cst .non)) .nil))) .nil))
def GL_writer_b2 (i_end i_draw i_piece i_fills : Nat) : ISs := (.cons (.asg (.nm 7) (.lst .nil)) (.cons (.for (.nm 8) (.rng (.cons (.var 1) .nil)) (GL_writer_b1 i_end i_draw i_piece i_fills)) (.cons (.ex (.mt .append (.var 5) (.cons (.bi .tuple (.cons (.var 7) .nil)) .nil))) .nil)))
def GL_writer_e2 (i_end i_draw i_piece i_fills : Nat) : IE := (.ifx (.cmp .eq (.call i_draw (.cons (.var 0) (.cons (.cst (.int 4)) .nil))) (.cst (.int 0))) (.call i_piece (.cons (.var 0) (.cons (.cst (.int 2)) .nil))) (.cst (.str [])))
/-- _law_writer(pen, count, states, buffers): _law_end, _law_draw, _law_piece, _law_fills; 13 slots: 0 pen 1 count 2 states 3 buffers 4 begins 5 rules 6 state 7 row 8 kind 9 target 10 fills 11 ends 12 lap; keep False -/
def GL_writer (i_end i_draw i_piece i_fills : Nat) : ISs := (.cons (.asg (.tp (.cons (.nm 2) (.cons (.nm 3) .nil))) (.tup (.cons (.bin .add (.cst (.int 1)) (.call i_draw (.cons (.var 0) (.cons (.var 2) .nil)))) (.cons (.bin .add (.cst (.int 1)) (.call i_draw (.cons (.var 0) (.cons (.var 3) .nil)))) .nil)))) (.cons (.asg (.nm 4) (.biC .tuple (.one [12] (GL_writer_e2 i_end i_draw i_piece i_fills) (.nm 12) (.rng (.cons (.var 3) .nil)) .none))) (.cons (.asg (.nm 5) (.lst .nil)) (.cons (.for (.nm 6) (.rng (.cons (.var 2) .nil)) (GL_writer_b2 i_end i_draw i_piece i_fills)) (.cons (.asg (.nm 11) (.lc (.one [6] (GL_writer_e1 i_end i_draw i_piece i_fills) (.nm 6) (.rng (.cons (.var 2) .nil)) .none))) (.cons (.ret (.tup (.cons (.var 4) (.cons (.bi .tuple (.cons (.var 5) .nil)) (.cons (.bi .tuple (.cons (.var 11) .nil)) .nil))))) .nil))))))
def Gf_L_writer (i_end i_draw i_piece i_fills : Nat) : IFn := ⟨4, 13, false, GL_writer i_end i_draw i_piece i_fills⟩
def GL_word_e1 (i_draw : Nat) : IE := (.call i_draw (.cons (.var 0) (.cons (.var 1) .nil)))
/-- _law_word(pen, count, most): _law_draw; 4 slots: 0 pen 1 count 2 most 3 lap; keep False -/
def GL_word (i_draw : Nat) : ISs := (.cons (.ret (.biC .tuple (.one [3] (GL_word_e1 i_draw) (.nm 3) (.rng (.cons (.call i_draw (.cons (.var 0) (.cons (.bin .add (.var 2) (.cst (.int 1))) .nil))) .nil)) .none))) .nil)
def Gf_L_word (i_draw : Nat) : IFn := ⟨3, 4, false, GL_word i_draw⟩
def GL_words_e1 : IE := (.bin .add (.var 6) (.tup (.cons (.var 7) .nil)))
def GL_words_b1 : ISs := (.cons (.asg (.nm 5) (.bin .add (.var 5) (.lc (.one [7] GL_words_e1 (.nm 7) (.rng (.cons (.var 0) .nil)) .none)))) .nil)
def GL_words_b2 : ISs := (.cons (.asg (.nm 5) (.lst .nil)) (.cons (.for (.nm 6) (.ex (.var 2)) GL_words_b1) (.cons (.asg (.nm 2) (.var 5)) (.cons (.asg (.nm 3) (.bin .add (.var 3) (.var 2))) .nil))))
/-- _law_words(count, most): ; 8 slots: 0 count 1 most 2 level 3 found 4 lap 5 longer 6 word 7 kind; keep True -/
def GL_words : ISs := (.cons (.asg (.tp (.cons (.nm 2) (.cons (.nm 3) .nil))) (.tup (.cons (.lst (.cons (.tup .nil) .nil)) (.cons (.lst (.cons (.tup .nil) .nil)) .nil)))) (.cons (.for (.nm 4) (.rng (.cons (.var 1) .nil)) GL_words_b2) (.cons (.ret (.var 3)) .nil)))
def Gf_L_words : IFn := ⟨2, 8, true, GL_words⟩
def GL_made_e1 : IE := (.ifx (.bi (.isinst 0) (.cons (.var 2) .nil)) (.var 2) (.idx (.var 1) (.var 2)))
/-- _law_made(recipe, texts): ; 3 slots: 0 recipe 1 texts 2 part; keep False -/
def GL_made : ISs := (.cons (.ret (.joinC (.cst (.str [])) (.one [2] GL_made_e1 (.nm 2) (.ex (.var 0)) .none))) .nil)
def Gf_L_made : IFn := ⟨2, 3, false, GL_made⟩
def GL_onward_e1 (i_made : Nat) : IE := (.call i_made (.cons (.var 4) (.cons (.idx (.var 1) (.cst (.int 1))) .nil)))
/-- _law_onward(writer, situation, kind): _law_made; 5 slots: 0 writer 1 situation 2 kind 3 entry 4 recipe; keep False -/
def GL_onward (i_made : Nat) : ISs := (.cons (.ife (.cmp .isN (.var 1) (.cst .non)) (.cons (.ret (.cst .non)) .nil) .nil) (.cons (.asg (.nm 3) (.idx (.idx (.idx (.var 0) (.cst (.int 1))) (.idx (.var 1) (.cst (.int 0)))) (.var 2))) (.cons (.ife (.cmp .isN (.var 3) (.cst .non)) (.cons (.ret (.cst .non)) .nil) .nil) (.cons (.ret (.tup (.cons (.idx (.var 3) (.cst (.int 0))) (.cons (.biC .tuple (.one [4] (GL_onward_e1 i_made) (.nm 4) (.ex (.idx (.var 3) (.cst (.int 1)))) .none)) .nil)))) .nil))))
def Gf_L_onward (i_made : Nat) : IFn := ⟨3, 5, false, GL_onward i_made⟩
def GL_behind_b1 (i_onward : Nat) : ISs := (.cons (.asg (.nm 2) (.call i_onward (.cons (.var 0) (.cons (.var 2) (.cons (.var 3) .nil))))) .nil)
/-- _law_behind(writer, word): _law_onward; 4 slots: 0 writer 1 word 2 situation 3 kind; keep False -/
def GL_behind (i_onward : Nat) : ISs := (.cons (.asg (.nm 2) (.tup (.cons (.cst (.int 0)) (.cons (.idx (.var 0) (.cst (.int 0))) .nil)))) (.cons (.for (.nm 3) (.ex (.var 1)) (GL_behind_b1 i_onward)) (.cons (.ret (.var 2)) .nil)))
def Gf_L_behind (i_onward : Nat) : IFn := ⟨2, 4, false, GL_behind i_onward⟩
/-- _law_told(writer, word): _law_behind, _law_made; 3 slots: 0 writer 1 word 2 situation; keep False -/
def GL_told (i_behind i_made : Nat) : ISs := (.cons (.asg (.nm 2) (.call i_behind (.cons (.var 0) (.cons (.var 1) .nil)))) (.cons (.ife (.or (.cmp .isN (.var 2) (.cst .non)) (.cmp .isN (.idx (.idx (.var 0) (.cst (.int 2))) (.idx (.var 2) (.cst (.int 0)))) (.cst .non))) (.cons (.ret (.cst .non)) .nil) .nil) (.cons (.ret (.call i_made (.cons (.idx (.idx (.var 0) (.cst (.int 2))) (.idx (.var 2) (.cst (.int 0)))) (.cons (.idx (.var 2) (.cst (.int 1))) .nil)))) .nil)))
def Gf_L_told (i_behind i_made : Nat) : IFn := ⟨2, 3, false, GL_told i_behind i_made⟩
end Dp


set_option Elab.async false
set_option linter.all false
set_option maxRecDepth 100000
set_option maxHeartbeats 4000000
set_option autoImplicit false
/-! Wr: recipes, entries, writers as data; the drawn texts and recipes. -/
namespace Dp

/-! ### recipes -/
inductive Pt where | pc (t : List Nat) | bf (i : Nat)
abbrev Rc := List Pt
def Pt.pv : Pt → PV
  | .pc t => .str t
  | .bf i => .int i
def rcPV (r : Rc) : PV := .tup (r.map Pt.pv)
def buf1 : Pt → List Nat
  | .pc _ => []
  | .bf i => [i]
def let1 : Pt → Nat
  | .pc t => t.length
  | .bf _ => 0
def bufs (r : Rc) : List Nat := r.flatMap buf1
def lets (r : Rc) : Nat := (r.map let1).sum
def lett (t : List Nat) : Prop := ∀ c ∈ t, 97 ≤ c ∧ c ≤ 122
def PcOk : Pt → Prop
  | .pc t => t ≠ [] ∧ lett t
  | .bf _ => True
def nrm1 (acc : Rc) : Pt → Rc
  | .bf i => acc ++ [.bf i]
  | .pc t => (match acc.getLast? with
    | some (.pc u) => acc.dropLast ++ [.pc (u ++ t)]
    | _ => acc ++ [.pc t])
def norm (r : Rc) : Rc := r.foldl nrm1 []
theorem bufs_app (a b : Rc) : bufs (a ++ b) = bufs a ++ bufs b := List.flatMap_append
theorem lets_app (a b : Rc) : lets (a ++ b) = lets a + lets b := by unfold lets; rw [List.map_append, List.sum_append]
theorem nrm1_cases (acc : Rc) (x : Pt) : (nrm1 acc x = acc ++ [x] ∧ (∀ t, x = .pc t → ∀ u, acc.getLast? ≠ some (.pc u))) ∨ ∃ a u t, acc = a ++ [.pc u] ∧ x = .pc t ∧ nrm1 acc x = a ++ [.pc (u ++ t)] := by
  cases x with
  | bf i => exact .inl ⟨rfl, fun t h => by cases h⟩
  | pc t =>
    cases e : acc.getLast? with
    | none =>
      refine .inl ⟨?_, fun t _ u h => by cases h⟩
      unfold nrm1; rw [e]
    | some y =>
      cases y with
      | bf i =>
        refine .inl ⟨?_, fun t _ u h => by cases h⟩
        unfold nrm1; rw [e]
      | pc u =>
        obtain ⟨a, ha⟩ := List.getLast?_eq_some_iff.mp e
        subst ha
        refine .inr ⟨a, u, t, rfl, rfl, ?_⟩
        unfold nrm1
        rw [e, List.dropLast_concat]
theorem nrm1_bufs (acc : Rc) (x : Pt) : bufs (nrm1 acc x) = bufs acc ++ buf1 x := by
  rcases nrm1_cases acc x with ⟨e, _⟩ | ⟨a, u, t, rfl, rfl, e⟩
  · rw [e, bufs_app]; simp [bufs]
  · rw [e, bufs_app, bufs_app]; simp [bufs, buf1]
theorem nrm1_lets (acc : Rc) (x : Pt) : lets (nrm1 acc x) = lets acc + let1 x := by
  rcases nrm1_cases acc x with ⟨e, _⟩ | ⟨a, u, t, rfl, rfl, e⟩
  · rw [e, lets_app]; simp [lets]
  · rw [e, lets_app, lets_app]; simp [lets, let1]; omega
theorem nrm1_len (acc : Rc) (x : Pt) : (nrm1 acc x).length ≤ acc.length + 1 := by
  rcases nrm1_cases acc x with ⟨e, _⟩ | ⟨a, u, t, rfl, rfl, e⟩
  · rw [e]; simp
  · rw [e]; simp
theorem lett_app {t u : List Nat} (h : lett t) (k : lett u) : lett (t ++ u) := by
  intro c hc
  rcases List.mem_append.mp hc with hc | hc
  · exact h c hc
  · exact k c hc
theorem nrm1_ok {acc : Rc} {x : Pt} (h : ∀ y ∈ acc, PcOk y) (hx : PcOk x) : ∀ y ∈ nrm1 acc x, PcOk y := by
  rcases nrm1_cases acc x with ⟨e, _⟩ | ⟨a, u, t, rfl, rfl, e⟩
  · rw [e]
    intro y hy
    rcases List.mem_append.mp hy with hy | hy
    · exact h y hy
    · rw [List.mem_singleton.mp hy]; exact hx
  · rw [e]
    intro y hy
    rcases List.mem_append.mp hy with hy | hy
    · exact h y (List.mem_append_left _ hy)
    · rw [List.mem_singleton.mp hy]
      have hu := h (.pc u) (by simp)
      exact ⟨fun z => hx.1 (List.append_eq_nil_iff.mp z).2, lett_app hu.2 hx.2⟩
theorem norm_bufs (r : Rc) : bufs (norm r) = bufs r := by
  have : ∀ (r acc : Rc), bufs (r.foldl nrm1 acc) = bufs acc ++ bufs r := by
    intro r
    induction r with
    | nil => intro acc; simp [bufs]
    | cons x r ih => intro acc; rw [List.foldl_cons, ih, nrm1_bufs]; simp [bufs]
  unfold norm; rw [this]; rfl
theorem norm_lets (r : Rc) : lets (norm r) = lets r := by
  have : ∀ (r acc : Rc), lets (r.foldl nrm1 acc) = lets acc + lets r := by
    intro r
    induction r with
    | nil => intro acc; simp [lets]
    | cons x r ih => intro acc; rw [List.foldl_cons, ih, nrm1_lets]; simp [lets]; omega
  unfold norm; rw [this]; simp [lets]
theorem norm_ok {r : Rc} (h : ∀ y ∈ r, PcOk y) : ∀ y ∈ norm r, PcOk y := by
  have : ∀ (r acc : Rc), (∀ y ∈ r, PcOk y) → (∀ y ∈ acc, PcOk y) → ∀ y ∈ r.foldl nrm1 acc, PcOk y := by
    intro r
    induction r with
    | nil => intro acc _ h; exact h
    | cons x r ih =>
      intro acc h1 h2
      exact ih _ (fun y hy => h1 y (List.mem_cons_of_mem _ hy)) (nrm1_ok h2 (h1 x List.mem_cons_self))
  exact this r [] h (by simp)
theorem norm_len (r : Rc) : (norm r).length ≤ r.length := by
  have : ∀ (r acc : Rc), (r.foldl nrm1 acc).length ≤ acc.length + r.length := by
    intro r
    induction r with
    | nil => intro acc; simp
    | cons x r ih => intro acc; rw [List.foldl_cons, List.length_cons]; have := ih (nrm1 acc x); have := nrm1_len acc x; omega
  have := this r []
  simpa [norm] using this
theorem flat_pts : ∀ r : Rc, (r.map Pt.pv).all flat = true
  | [] => rfl
  | .pc _ :: r => by rw [List.map_cons, List.all_cons, flat_pts r]; rfl
  | .bf _ :: r => by rw [List.map_cons, List.all_cons, flat_pts r]; rfl
theorem fit_pt (x : Pt) : Fit x.pv := by cases x <;> exact ⟨rfl, Nat.zero_le _⟩
theorem fit_str (t : List Nat) : Fit (.str t) := ⟨rfl, Nat.zero_le _⟩
theorem fit_int (i : Int) : Fit (.int i) := ⟨rfl, Nat.zero_le _⟩
theorem peqs_nilP (r : List PV) : peqs r [] = r.isEmpty := by cases r <;> rfl
theorem pv_last (r : Rc) : (r.map Pt.pv).getLast? = (r.getLast?).map Pt.pv := List.getLast?_map

section
variable {P : Nat → Option IFn} {W d p c i : Nat} {s : Sto} {F : FT}
theorem nrm_body {acc : Rc} {y : Pt} {q1 : Nat} {e0 : Option PV} (ga : s.get q1 = some (.lst (acc.map Pt.pv))) (hq : q1 < s.nxt) (pk : PcOk y) (hl : acc.length ≤ 1000) (hz : lets acc + let1 y ≤ 1000000) :
    Ok (evSs F W GL_normal_b1 [e0, some (.loc q1), some y.pv] s) fun o s' => o = .nx [e0, some (.loc q1), some y.pv] ∧ Frp q1 s s' ∧ s'.get q1 = some (.lst ((nrm1 acc y).map Pt.pv)) := by
  have fin : ∀ (s2 : Sto), Fr0 s s2 → nrm1 acc y = acc ++ [y] → Frp q1 s (s2.set q1 (.lst (acc.map Pt.pv ++ [y.pv]))) ∧ (s2.set q1 (.lst (acc.map Pt.pv ++ [y.pv]))).get q1 = some (.lst ((nrm1 acc y).map Pt.pv)) := fun s2 f2 e =>
    ⟨(f2.p q1).trans (Frp.set q1 s2 _), by rw [get_set (f2.get ga hq), e, List.map_append]; rfl⟩
  have hl2 : (acc.map Pt.pv).length < 16777216 := by rw [List.length_map]; omega
  cases y with
  | bf n =>
    simp_arith only [GL_normal_b1, Pt.pv]
    rw [x_neP (fit_int _) (fit_str _), show peq (.int n) (.str []) = false from rfl, Bool.not_false, if_pos rfl, x_chkL ga, x_app ga hl2]
    exact ⟨trivial, fin s (Fr0.refl _) rfl⟩
  | pc t =>
    simp_arith only [GL_normal_b1, Pt.pv]
    rw [x_newL (by simp)]
    have f1 := Fr0.new s (.lst [])
    have g1 := f1.get ga hq
    have ht : (!(t == [])) = true := by
      cases t with
      | nil => exact absurd rfl pk.1
      | cons a b => rfl
    rw [x_neF g1 get_new' (flat_pts acc) rfl, peqs_nilP]
    rcases List.eq_nil_or_concat acc with e0 | ⟨a, z, e0⟩
    · subst e0
      rw [show (([] : Rc).map Pt.pv).isEmpty = true from rfl, Bool.not_true, if_neg (by decide), if_neg (by decide), if_pos ht, x_chkL g1, x_app g1 hl2]
      exact ⟨trivial, fin _ f1 rfl⟩
    · rw [List.concat_eq_append] at e0
      subst e0
      have hne : ((a ++ [z]).map Pt.pv).isEmpty = false := by simp
      have hlast : atIx ((a ++ [z]).map Pt.pv) (-1) = some z.pv := by
        unfold atIx
        rw [ix_neg1 (by simp)]
        simp
      rw [hne, Bool.not_false, if_pos rfl, x_idL (lst_at g1) hlast]
      cases z with
      | bf n =>
        rw [show (Pt.bf n).pv = .int n from rfl, x_is0i, x_bl, if_neg (by decide), if_pos ht, x_chkL g1, x_app g1 hl2]
        exact ⟨trivial, fin _ f1 (by
          rcases nrm1_cases (a ++ [.bf n]) (.pc t) with ⟨e, _⟩ | ⟨a', u, t', e1, _, _⟩
          · exact e
          · have := congrArg List.getLast? e1
            simp at this)⟩
      | pc u =>
        have e : nrm1 (a ++ [.pc u]) (.pc t) = a ++ [.pc (u ++ t)] := by
          rcases nrm1_cases (a ++ [.pc u]) (.pc t) with ⟨_, hn⟩ | ⟨a', u', t', e1, e2, e3⟩
          · exact absurd (by simp) (hn t rfl u)
          · cases e2
            have e4 := List.append_inj' e1 rfl
            cases e4.1
            have e5 := e4.2
            cases e5
            exact e3
        have hul : u.length ≤ 1000000 := by
          rw [lets_app] at hz
          simp [lets, let1] at hz
          omega
        have htl : t.length ≤ 1000000 := by simp [let1] at hz; omega
        rw [show (Pt.pc u).pv = .str u from rfl, x_is0s, x_bl, if_pos rfl, x_idL (lst_at g1) hlast, show (Pt.pc u).pv = .str u from rfl, x_addS, if_pos (by rw [List.length_append]; omega), x_setix (n := a.length) g1 (by rw [ix_neg1 (by simp)]; simp)]
        refine ⟨trivial, (f1.p q1).trans (Frp.set q1 _ _), ?_⟩
        rw [get_set g1, e]
        simp [Pt.pv]
/-- the normal form of parts -/
theorem normal_ok {r : Rc} {q : Nat} (hP : P i = some Gf_L_normal) (hg : s.get q = some (.lst (r.map Pt.pv))) (hq : q < s.nxt) (hr : ∀ y ∈ r, PcOk y) (hl : r.length ≤ 1000) (hz : lets r ≤ 1000000) :
    Ok (run P W (d + 1) i [.loc q] s) fun v s' => v = rcPV (norm r) ∧ Fr0 s s' := by
  refine run_s hP (ok_runFn rfl ?_)
  simp_arith only [Gf_L_normal, GL_normal]
  rw [x_newL (by simp)]
  have g0 : (s.new (.lst [])).lstAt q = some (r.map Pt.pv) := lst_at ((Fr0.new s _).get hg hq)
  rw [x_itL g0]
  refine ok_forJ (xs := r.map Pt.pv) (I := fun k env s' => Fr0 s s' ∧ s.nxt < s'.nxt ∧ s'.get s.nxt = some (.lst ((norm (r.take k)).map Pt.pv)) ∧ ∃ x2, env = [some (.loc q), some (.loc s.nxt), x2]) ?_ ?_ ?_ _ 0 _ _ (Nat.zero_le _) ?_ ⟨Fr0.new s _, Nat.lt_succ_self _, get_new', none, rfl⟩
  · rintro k env s' ⟨f, _, _, _⟩
    exact at_liv (lst_at (f.get hg hq))
  · rintro k x env s' hx ⟨f, hn, ga, x2, rfl⟩
    rw [List.getElem?_map] at hx
    cases ek : r[k]? with
    | none => rw [ek] at hx; cases hx
    | some y =>
      rw [ek] at hx
      cases hx
      have hk : k < r.length := (List.getElem?_eq_some_iff.mp ek).1
      have tk : norm (r.take (k + 1)) = nrm1 (norm (r.take k)) y := by
        rw [List.take_add_one, ek]; unfold norm; rw [List.foldl_append]; rfl
      have lz : lets (norm (r.take (k + 1))) ≤ 1000000 := by
        rw [norm_lets]
        have : lets r = lets (r.take (k + 1)) + lets (r.drop (k + 1)) := by rw [← lets_app, List.take_append_drop]
        omega
      rw [tk, nrm1_lets] at lz
      refine ⟨_, setT_nm, ?_⟩
      have ln : (norm (r.take k)).length ≤ 1000 := by
        have := norm_len (r.take k); rw [List.length_take] at this; omega
      refine (nrm_body ga hn (hr y (List.mem_of_getElem? ek)) ln lz).mono ?_
      rintro o s3 ⟨rfl, f3, g3⟩
      refine ⟨⟨Nat.le_trans f.1 f3.1, fun l hl => (f3.2 l (Nat.lt_of_lt_of_le hl f.1) (Nat.ne_of_lt hl)).trans (f.2 l hl)⟩, Nat.lt_of_lt_of_le hn f3.1, ?_, _, rfl⟩
      rw [tk]; exact g3
  · rintro env s' ⟨f, _, ga, x2, rfl⟩
    simp_arith only [ok_ok]
    rw [List.length_map, List.take_length] at ga
    have := norm_len r
    rw [x_tuL (lst_at ga) (by rw [List.length_map]; omega)]
    exact ⟨rfl, f.drop⟩
  · rw [List.length_map]
    show r.length < 0 + (Itr.bnd _ (.liv q) + 1)
    have : Itr.bnd (s.new (.lst [])) (.liv q) = r.length := by
      show (match (s.new (.lst [])).lstAt q with | some xs => xs.length | none => 0) = _
      rw [g0]
      exact List.length_map ..
    rw [this]; omega
/-- the normal form of parts told as a tuple -/
theorem normalT_ok {r : Rc} (hP : P i = some Gf_L_normal) (hr : ∀ y ∈ r, PcOk y) (hl : r.length ≤ 1000) (hz : lets r ≤ 1000000) :
    Ok (run P W (d + 1) i [rcPV r] s) fun v s' => v = rcPV (norm r) ∧ Fr0 s s' := by
  refine run_s hP (ok_runFn rfl ?_)
  simp_arith only [Gf_L_normal, GL_normal, rcPV]
  rw [x_newL (by simp)]
  refine ok_for (I := fun k env s' => Fr0 s s' ∧ s.nxt < s'.nxt ∧ s'.get s.nxt = some (.lst ((norm (r.take k)).map Pt.pv)) ∧ ∃ x2, env = [some (.tup (r.map Pt.pv)), some (.loc s.nxt), x2]) ?_ ?_ _ 0 _ _ (Nat.zero_le _) (by show _ < 0 + ((r.map Pt.pv).length + 1); omega) ⟨Fr0.new s _, Nat.lt_succ_self _, get_new', none, rfl⟩
  · rintro k x env s' hx ⟨f, hn, ga, x2, rfl⟩
    rw [List.getElem?_map] at hx
    cases ek : r[k]? with
    | none => rw [ek] at hx; cases hx
    | some y =>
      rw [ek] at hx
      cases hx
      have hk : k < r.length := (List.getElem?_eq_some_iff.mp ek).1
      have tk : norm (r.take (k + 1)) = nrm1 (norm (r.take k)) y := by
        rw [List.take_add_one, ek]; unfold norm; rw [List.foldl_append]; rfl
      have lz : lets (norm (r.take (k + 1))) ≤ 1000000 := by
        rw [norm_lets]
        have : lets r = lets (r.take (k + 1)) + lets (r.drop (k + 1)) := by rw [← lets_app, List.take_append_drop]
        omega
      rw [tk, nrm1_lets] at lz
      refine ⟨_, setT_nm, ?_⟩
      have ln : (norm (r.take k)).length ≤ 1000 := by
        have := norm_len (r.take k); rw [List.length_take] at this; omega
      refine (nrm_body ga hn (hr y (List.mem_of_getElem? ek)) ln lz).mono ?_
      rintro o s3 ⟨rfl, f3, g3⟩
      refine ⟨⟨Nat.le_trans f.1 f3.1, fun l hl => (f3.2 l (Nat.lt_of_lt_of_le hl f.1) (Nat.ne_of_lt hl)).trans (f.2 l hl)⟩, Nat.lt_of_lt_of_le hn f3.1, ?_, _, rfl⟩
      rw [tk]; exact g3
  · rintro env s' ⟨f, _, ga, x2, rfl⟩
    simp_arith only [ok_ok]
    rw [List.length_map, List.take_length] at ga
    have := norm_len r
    rw [x_tuL (lst_at ga) (by rw [List.length_map]; omega)]
    exact ⟨rfl, f.drop⟩
end
end Dp


set_option Elab.async false
set_option linter.all false
set_option maxRecDepth 100000
set_option maxHeartbeats 4000000
set_option autoImplicit false
/-! Wr2: drawn pieces, drawn recipes. -/
namespace Dp
structure Ix where
  fresh : Nat
  draw : Nat
  one : Nat
  piece : Nat
  normal : Nat
  fill : Nat
  fills : Nat
  en : Nat
  writer : Nat
  word : Nat
structure HasP (P : Nat → Option IFn) (x : Ix) : Prop where
  hF : P x.fresh = some ⟨1, 8, false, bFresh⟩
  hD : P x.draw = some ⟨2, 3, false, bDraw x.fresh⟩
  hO : P x.one = some ⟨2, 2, false, bOne x.draw⟩
structure HasF (P : Nat → Option IFn) (x : Ix) : Prop extends HasP P x where
  hPi : P x.piece = some (Gf_L_piece x.one x.draw)
  hN : P x.normal = some Gf_L_normal
  hFi : P x.fill = some (Gf_L_fill x.normal x.one x.draw x.piece)
  hFs : P x.fills = some (Gf_L_fills x.fill x.draw)
structure HasW (P : Nat → Option IFn) (x : Ix) : Prop extends HasF P x where
  hE : P x.en = some (Gf_L_end x.fill x.draw)
  hW : P x.writer = some (Gf_L_writer x.en x.draw x.piece x.fills)
  hWd : P x.word = some (Gf_L_word x.draw)
/-- without words -/
structure HasE (P : Nat → Option IFn) (x : Ix) : Prop extends HasF P x where
  hE : P x.en = some (Gf_L_end x.fill x.draw)
  hW : P x.writer = some (Gf_L_writer x.en x.draw x.piece x.fills)
theorem HasW.toE {P : Nat → Option IFn} {x : Ix} (h : HasW P x) : HasE P x := ⟨h.toHasF, h.hE, h.hW⟩
def natI (is : List Nat) : List Int := List.map (fun n : Nat => (n : Int)) is
theorem natI_len (is : List Nat) : (natI is).length = is.length := List.length_map ..
theorem natI_get {is : List Nat} {j n : Nat} (h : is[j]? = some n) : ((natI is).map PV.int)[j]? = some (.int n) := by
  unfold natI
  rw [List.getElem?_map, List.getElem?_map, h]; rfl
theorem natI_erase : ∀ (is : List Nat) (j : Nat), ((natI is).map PV.int).eraseIdx j = (natI (is.eraseIdx j)).map PV.int
  | [], _ => rfl
  | n :: is, 0 => rfl
  | n :: is, j + 1 => by
    show PV.int n :: ((natI is).map PV.int).eraseIdx j = PV.int n :: (natI (is.eraseIdx j)).map PV.int
    rw [natI_erase is j]
theorem perm_erase : ∀ (is : List Nat) {j n : Nat}, is[j]? = some n → (n :: is.eraseIdx j).Perm is
  | [], _, _, h => by simp at h
  | a :: is, 0, n, h => by cases h; exact List.Perm.refl _
  | a :: is, j + 1, n, h => by
    have := perm_erase is (j := j) (n := n) (by simpa using h)
    exact (List.Perm.swap a n _).trans (this.cons a)
section
variable {P : Nat → Option IFn} {x : Ix} {W d p c : Nat} {s : Sto}
theorem drawW {b : Int} (hx : HasP P x) (h : PenS s p c) (hb : 0 < b) (hb2 : b < 9000) : Ok (run P W (d + 2) x.draw [.loc p, .int b] s) fun v s' => (∃ k : Nat, v = .int k ∧ (k : Int) < b) ∧ PenS s' p c ∧ Frp p s s' := by
  refine (draw_ok hx.hD hx.hF h hb hb2).mono ?_
  rintro v s' ⟨⟨k, rfl, h0, h1⟩, h2, h3⟩
  obtain ⟨n, rfl⟩ := Int.eq_ofNat_of_zero_le h0
  exact ⟨⟨n, rfl, h1⟩, h2, h3⟩
theorem oneW {xs : List PV} {l : Nat} (hx : HasP P x) (h : PenS s p c) (hg : s.get l = some (.lst xs)) (hl : l < s.nxt) (hlp : l ≠ p) (h0 : xs ≠ []) (h9 : xs.length < 9000) : Ok (run P W (d + 3) x.one [.loc p, .loc l] s) fun v s' => v ∈ xs ∧ PenS s' p c ∧ Frp p s s' :=
  one_list hx.hO hx.hD hx.hF h hg hl hlp h0 h9
theorem piece_okP {m : Int} (hx : HasP P x) (hPi : P x.piece = some (Gf_L_piece x.one x.draw)) (h : PenS s p c) (hm0 : 0 < m) (hm1 : m < 100) : Ok (run P W (d + 4) x.piece [.loc p, .int m] s) fun v s' => (∃ t, v = .str t ∧ t ≠ [] ∧ (t.length : Int) ≤ m ∧ lett t) ∧ PenS s' p c ∧ Frp p s s' := by
  refine run_s hPi (ok_runFn rfl ?_)
  simp_arith only [Gf_L_piece, GL_piece]
  rw [x_newL (by simp)]
  refine (oneW hx (h.fr0 (Fr0.new s _)) get_new' (by rw [nxt_new]; omega) (Nat.ne_of_gt h.lt) (by simp) (by simp)).mono ?_
  rintro v s1 ⟨hv, hp1, hf1⟩
  have hv2 : ∃ t, v = .str t ∧ t ≠ [] ∧ t.length < 9000 ∧ lett t := by
    simp only [List.mem_cons, List.not_mem_nil, or_false] at hv
    rcases hv with rfl | rfl | rfl | rfl | rfl <;> refine ⟨_, rfl, by simp, by simp, by unfold lett; decide⟩
  obtain ⟨al, rfl, hal0, hal1, hal2⟩ := hv2
  have hfs : Frp p s s1 := ((Fr0.new s _).p p).trans hf1
  try simp_arith only [ok_ok]
  rw [x_chkS]
  clear hv
  generalize s.new _ = sq at hp1 hf1
  refine (drawW hx hp1 (by omega) (by omega)).mono ?_
  intro v s2 hh
  obtain ⟨⟨k, ek, hk⟩, hp2, hf2⟩ := hh
  subst ek
  rw [x_addI, x_rngN (by omega) (by omega)]
  refine ok_lc (I := fun i acc s' => PenS s' p c ∧ Frp p s s' ∧ ∃ t : List Nat, acc = (t.map fun c => [c]).map PV.str ∧ t.length = i ∧ ∀ c ∈ t, c ∈ al) ?_ ?_ _ 0 _ _ (Nat.zero_le _) (by show _ < 0 + ((upto 0 (1 + (k : Int)).toNat).length + 1); omega) ⟨hp2, hfs.trans hf2, [], rfl, rfl, by simp⟩
  · rintro i y acc s' hy ⟨hp, hf, t, rfl, ht, hta⟩
    obtain ⟨hi, rfl⟩ := uptoG _ _ _ _ hy
    refine ⟨_, setT_nm, ?_⟩
    simp_arith only [GL_piece_e1]
    refine (one_text hx.hO hx.hD hx.hF hp hal0 hal1).mono ?_
    rintro v s3 ⟨⟨e, he, rfl⟩, hp3, hf3⟩
    unfold accM
    rw [if_pos (by rw [List.length_map, List.length_map, ht]; omega)]
    refine ⟨hp3, hf.trans hf3, t ++ [e], by simp, by simp [ht], ?_⟩
    intro c hc
    rcases List.mem_append.mp hc with hc | hc
    · exact hta c hc
    · rw [List.mem_singleton.mp hc]; exact he
  · rintro acc s' ⟨hp, hf, t, rfl, ht, hta⟩
    rw [uptoL] at ht
    rw [x_joinC rfl (by rw [sum_chars]; simp; omega), joinL_chars]
    exact ⟨⟨t, rfl, by intro z; rw [z] at ht; simp at ht; omega, by omega, fun c hc => hal2 c (hta c hc)⟩, hp.drop h.lt h.ltc, hf.drop⟩
theorem piece_ok {m : Int} (hx : HasF P x) (h : PenS s p c) (hm0 : 0 < m) (hm1 : m < 100) : Ok (run P W (d + 4) x.piece [.loc p, .int m] s) fun v s' => (∃ t, v = .str t ∧ t ≠ [] ∧ (t.length : Int) ≤ m ∧ lett t) ∧ PenS s' p c ∧ Frp p s s' := piece_okP hx.toHasP hx.hPi h hm0 hm1
/-! ### a drawn recipe -/
def optS (x : Ix) (b : Int) : IS := .ife (.cmp .eq (.call x.draw (.cons (.var 0) (.cons (.cst (.int b)) .nil))) (.cst (.int 0))) (.cons (.ex (.mt .append (.var 3) (.cons (.call x.piece (.cons (.var 0) (.cons (.cst (.int 2)) .nil))) .nil))) .nil) .nil
def takS (x : Ix) : IS := .ife (.cmp .ne (.var 1) (.lst .nil)) (.cons (.asg (.nm 5) (.ifx (.and (.cmp .isin (.var 2) (.var 1)) (.cmp .gt (.call x.draw (.cons (.var 0) (.cons (.cst (.int 3)) .nil))) (.cst (.int 0)))) (.mt .index (.var 1) (.cons (.var 2) .nil)) (.call x.draw (.cons (.var 0) (.cons (.bi .len (.cons (.var 1) .nil)) .nil))))) (.cons (.ex (.mt .append (.var 3) (.cons (.mt .pop (.var 1) (.cons (.var 5) .nil)) .nil))) .nil)) .nil
theorem fill_form (x : Ix) : GL_fill_b1 x.normal x.one x.draw x.piece = .cons (optS x 3) (.cons (takS x) .nil) := rfl
theorem opt_ok {b : Int} {r : Rc} {q1 : Nat} {e1 e2 e4 e5 : Option PV} (hx : HasF P x) (h : PenS s p c) (hb : 0 < b) (hb2 : b < 9000) (hg : s.get q1 = some (.lst (r.map Pt.pv))) (hq : q1 < s.nxt) (hqp : q1 ≠ p) (hqc : q1 ≠ c) (hl : r.length ≤ 1000) (hr : ∀ y ∈ r, PcOk y) :
    Ok (evS (run P W (d + 4)) W (optS x b) [some (.loc p), e1, e2, some (.loc q1), e4, e5] s) fun o s' => o = .nx [some (.loc p), e1, e2, some (.loc q1), e4, e5] ∧ ∃ r', s'.get q1 = some (.lst (r'.map Pt.pv)) ∧ bufs r' = bufs r ∧ lets r' ≤ lets r + 2 ∧ r'.length ≤ r.length + 1 ∧ (∀ y ∈ r', PcOk y) ∧ PenS s' p c ∧ Fra [p, q1] s s' := by
  simp_arith only [optS]
  refine (drawW hx.toHasP h hb hb2).mono ?_
  rintro v s1 ⟨⟨k, rfl, hk⟩, hp1, hf1⟩
  rw [x_eqI]
  have g1 := hf1.get hg hq hqp
  by_cases ck : ((k : Int) == 0) = true
  · rw [if_pos ck, x_chkL g1]
    refine (piece_ok hx hp1 (by decide) (by decide)).mono ?_
    rintro v s2 ⟨⟨t, rfl, t0, t1, tl⟩, hp2, hf2⟩
    have g2 := hf2.get g1 (Nat.lt_of_lt_of_le hq hf1.1) hqp
    rw [x_app g2 (by rw [List.length_map]; omega)]
    refine ⟨trivial, r ++ [.pc t], by rw [get_set g2, List.map_append]; rfl, by rw [bufs_app]; simp [bufs, buf1], by rw [lets_app]; simp [lets, let1]; omega, by simp, ?_, hp2.setX hqp hqc, ?_⟩
    · intro y hy
      rcases List.mem_append.mp hy with hy | hy
      · exact hr y hy
      · rw [List.mem_singleton.mp hy]; exact ⟨t0, tl⟩
    · exact ((hf1.trans hf2).fra (by simp)).trans (Fra.set _ _ (by simp))
  · rw [if_neg ck]
    exact ⟨trivial, r, g1, rfl, by omega, by omega, hr, hp1, hf1.fra (by simp)⟩
theorem tak_ok {r : Rc} {js : List Nat} {q q1 : Nat} {own : Int} {e4 e5 : Option PV} (hx : HasF P x) (h : PenS s p c) (hg : s.get q1 = some (.lst (r.map Pt.pv))) (hq : q1 < s.nxt) (hqp : q1 ≠ p) (hqc : q1 ≠ c) (hl : r.length ≤ 1000) (hr : ∀ y ∈ r, PcOk y)
    (gj : s.get q = some (.lst ((natI js).map PV.int))) (lq : q < s.nxt) (qp : q ≠ p) (qc : q ≠ c) (qq : q ≠ q1) (lj : js.length ≤ 1000) :
    Ok (evS (run P W (d + 4)) W (takS x) [some (.loc p), some (.loc q), some (.int own), some (.loc q1), e4, e5] s) fun o s' => ∃ e r' js', o = .nx [some (.loc p), some (.loc q), some (.int own), some (.loc q1), e4, e] ∧ s'.get q1 = some (.lst (r'.map Pt.pv)) ∧ s'.get q = some (.lst ((natI js').map PV.int)) ∧ (bufs r' ++ js').Perm (bufs r ++ js) ∧ lets r' = lets r ∧ r'.length ≤ r.length + 1 ∧ (∀ y ∈ r', PcOk y) ∧ PenS s' p c ∧ Fra [p, q, q1] s s' := by
  simp_arith only [takS]
  rw [x_newL (by simp)]
  have f1 := Fr0.new s (.lst [])
  rw [x_neF (f1.get gj lq) get_new' (flat_ints _) rfl, peqs_nil]
  have hp1 := h.fr0 f1
  generalize s.new (.lst []) = s1 at f1 hp1
  have g1 := f1.get hg hq
  have j1 := f1.get gj lq
  have lq1 : q < s1.nxt := Nat.lt_of_lt_of_le lq f1.1
  have lqq1 : q1 < s1.nxt := Nat.lt_of_lt_of_le hq f1.1
  by_cases cj : js = []
  · subst cj
    rw [if_neg (by decide)]
    exact ⟨_, r, [], rfl, g1, j1, List.Perm.refl _, rfl, by omega, hr, hp1, f1.fra _⟩
  · have ej : (!(natI js).isEmpty) = true := by cases js with | nil => exact absurd rfl cj | cons a b => rfl
    rw [if_pos ej]
    have fin : ∀ (s2 : Sto) (k : Nat), PenS s2 p c → Frp p s1 s2 → k < js.length → Ok (mtChk .append (.loc q1) s2) fun _ s' => Ok (mtChk .pop (.loc q) s') fun _ s' => Ok (mtM .pop (.loc q) [.int (k : Int)] s') fun a s' => Ok (mtM .append (.loc q1) [a] s') fun _ s' => ∃ e r' js', Out.nx [some (.loc p), some (.loc q), some (.int own), some (.loc q1), e4, some (.int (k : Int))] = .nx [some (.loc p), some (.loc q), some (.int own), some (.loc q1), e4, e] ∧ s'.get q1 = some (.lst (r'.map Pt.pv)) ∧ s'.get q = some (.lst ((natI js').map PV.int)) ∧ (bufs r' ++ js').Perm (bufs r ++ js) ∧ lets r' = lets r ∧ r'.length ≤ r.length + 1 ∧ (∀ y ∈ r', PcOk y) ∧ PenS s' p c ∧ Fra [p, q, q1] s s' := by
      intro s2 k hp2 hf2 hk
      have g2 := hf2.get g1 lqq1 hqp
      have j2 := hf2.get j1 lq1 qp
      have ek : js[k]? = some js[k] := List.getElem?_eq_getElem hk
      rw [x_chkL g2, x_chkM (by intro z; cases z) (lst_at j2), x_popAt (j := k) j2 (by rw [List.length_map, natI_len]; exact ix_nat hk) (natI_get ek)]
      have g3 : (s2.set q (.lst (((natI js).map PV.int).eraseIdx k))).get q1 = some (.lst (r.map Pt.pv)) := (set_get (Ne.symm qq)).trans g2
      rw [x_app g3 (by rw [List.length_map]; omega)]
      refine ⟨_, r ++ [.bf js[k]], js.eraseIdx k, rfl, by rw [get_set g3, List.map_append]; rfl, ?_, ?_, by rw [lets_app]; simp [lets, let1], by simp, ?_, (hp2.setX qp qc).setX hqp hqc, ?_⟩
      · rw [set_get qq, get_set j2, natI_erase]
      · rw [bufs_app]
        show ((bufs r ++ [js[k]]) ++ js.eraseIdx k).Perm _
        rw [List.append_assoc]
        exact (perm_erase js ek).append_left _
      · intro y hy
        rcases List.mem_append.mp hy with hy | hy
        · exact hr y hy
        · rw [List.mem_singleton.mp hy]; trivial
      · exact (((f1.fra _).trans (hf2.fra (by simp))).trans (Fra.set _ _ (by simp))).trans (Fra.set _ _ (by simp))
    have len : 0 < js.length := List.length_pos_iff.mpr cj
    have drw : ∀ (s2 : Sto), PenS s2 p c → Frp p s1 s2 → Ok (biM .len [.loc q] s2) fun a s' => Ok (run P W (d + 4) x.draw [.loc p, a] s') fun a s' => Ok (mtChk .append (.loc q1) s') fun _ s' => Ok (mtChk .pop (.loc q) s') fun _ s' => Ok (mtM .pop (.loc q) [a] s') fun a2 s' => Ok (mtM .append (.loc q1) [a2] s') fun _ s' => ∃ e r' js', Out.nx [some (.loc p), some (.loc q), some (.int own), some (.loc q1), e4, some a] = .nx [some (.loc p), some (.loc q), some (.int own), some (.loc q1), e4, e] ∧ s'.get q1 = some (.lst (r'.map Pt.pv)) ∧ s'.get q = some (.lst ((natI js').map PV.int)) ∧ (bufs r' ++ js').Perm (bufs r ++ js) ∧ lets r' = lets r ∧ r'.length ≤ r.length + 1 ∧ (∀ y ∈ r', PcOk y) ∧ PenS s' p c ∧ Fra [p, q, q1] s s' := by
      intro s2 hp2 hf2
      rw [x_lenL (hf2.get j1 lq1 qp), List.length_map, natI_len]
      refine (drawW hx.toHasP hp2 (by omega) (by omega)).mono ?_
      rintro v s3 ⟨⟨k, rfl, hk⟩, hp3, hf3⟩
      exact fin s3 k hp3 (hf2.trans hf3) (by omega)
    rw [x_inL (lst_at j1)]
    cases hin : (natI js).any fun j => j == own with
    | false =>
      rw [if_neg (by decide)]
      exact drw s1 hp1 (Frp.refl p s1)
    | true =>
      rw [if_pos rfl]
      refine (drawW hx.toHasP hp1 (by decide) (by decide)).mono ?_
      rintro v s2 ⟨⟨k, rfl, hk⟩, hp2, hf2⟩
      rw [x_gtI]
      by_cases c0 : (decide ((0 : Int) < k)) = true
      · rw [if_pos c0]
        have : ∃ n, (natI js).findIdx? (fun j => j == own) = some n ∧ n < js.length := by
          cases e : (natI js).findIdx? (fun j => j == own) with
          | none =>
            rw [List.findIdx?_eq_none_iff] at e
            obtain ⟨z, hz, hz2⟩ := List.any_eq_true.mp hin
            have := e z hz
            rw [hz2] at this
            cases this
          | some n =>
            have := (List.findIdx?_eq_some_iff_getElem.mp e).1
            exact ⟨n, rfl, by rwa [natI_len] at this⟩
        obtain ⟨n, en, hn⟩ := this
        have j2 := hf2.get j1 lq1 qp
        rw [x_chkM (by intro z; cases z) (lst_at j2), x_ixL (lst_at j2) en]
        exact fin s2 n hp2 hf2 hn
      · rw [if_neg c0]
        exact drw s2 hp2 hf2
end
end Dp


set_option Elab.async false
set_option linter.all false
set_option maxRecDepth 100000
set_option maxHeartbeats 4000000
set_option autoImplicit false
/-! Wr3: drawn recipes, fills, ends. -/
namespace Dp
theorem Fra.transN {A B : List Nat} {s s1 s2 : Sto} (a : Fra A s s1) (b : Fra B s1 s2) (h : ∀ l ∈ B, l ∈ A ∨ s.nxt ≤ l) : Fra A s s2 :=
  ⟨Nat.le_trans a.1 b.1, fun l hl n => (b.2 l (Nat.lt_of_lt_of_le hl a.1) fun q => by
    rcases h l q with z | z
    · exact n z
    · omega).trans (a.2 l hl n)⟩
theorem dropG {s s' : Sto} {l : Nat} {o : PO} (h : s'.get l = some o) (hl : l < s.nxt) : (s'.drop s.nxt).get l = some o := (getL_keep hl s'.obs).trans h
theorem upto_nat : ∀ (n lo : Nat), upto (lo : Int) n = (natI (List.range' lo n)).map PV.int
  | 0, _ => rfl
  | n + 1, lo => by
    have := upto_nat n (lo + 1)
    rw [upto, show ((lo : Int) + 1) = ((lo + 1 : Nat) : Int) by omega, this]
    rfl
theorem upto0 (n : Nat) : upto 0 n = (natI (List.range n)).map PV.int := by
  rw [List.range_eq_range', show (0 : Int) = ((0 : Nat) : Int) from rfl, upto_nat]
structure RcOk (B : Nat) (r : Rc) : Prop where
  le : lets r ≤ 8
  ln : r.length ≤ 8
  pc : ∀ y ∈ r, PcOk y
  nd : (bufs r).Nodup
  lt : ∀ b ∈ bufs r, b < B
structure FillsOk (B : Nat) (fs : List Rc) : Prop where
  len : fs.length = B
  nd : (fs.flatMap bufs).Nodup
  ok : ∀ r ∈ fs, RcOk B r
section
variable {P : Nat → Option IFn} {x : Ix} {W d p c : Nat} {s : Sto}
theorem fill_form2 (x : Ix) : GL_fill x.normal x.one x.draw x.piece = .cons (.asg (.nm 3) (.lst .nil)) (.cons (.for (.nm 4) (.rng (.cons (.call x.one (.cons (.var 0) (.cons (.lst (.cons (.cst (.int 0)) (.cons (.cst (.int 1)) (.cons (.cst (.int 1)) (.cons (.cst (.int 1)) (.cons (.cst (.int 1)) (.cons (.cst (.int 2)) .nil))))))) .nil))) .nil)) (GL_fill_b1 x.normal x.one x.draw x.piece)) (.cons (optS x 2) (.cons (.ret (.call x.normal (.cons (.var 3) .nil))) .nil))) := rfl
theorem fill_ok {is : List Nat} {own : Int} {q : Nat} (hx : HasF P x) (h : PenS s p c) (gq : s.get q = some (.lst ((natI is).map PV.int))) (lq : q < s.nxt) (qp : q ≠ p) (qc : q ≠ c) (li : is.length ≤ 100) :
    Ok (run P W (d + 5) x.fill [.loc p, .loc q, .int own] s) fun v s' => ∃ r js, v = rcPV r ∧ s'.get q = some (.lst ((natI js).map PV.int)) ∧ (bufs r ++ js).Perm is ∧ lets r ≤ 6 ∧ r.length ≤ 5 ∧ (∀ y ∈ r, PcOk y) ∧ PenS s' p c ∧ Fra [p, q] s s' := by
  refine run_s hx.hFi (ok_runFn rfl ?_)
  simp_arith only [Gf_L_fill, fill_form2]
  rw [x_newL (by simp)]
  have f0 := Fr0.new s (.lst [])
  have hp0 := h.fr0 f0
  have gn : (s.new (.lst [])).get s.nxt = some (.lst (([] : Rc).map Pt.pv)) := get_new'
  have gj := f0.get gq lq
  have nn : s.nxt < (s.new (.lst [])).nxt := Nat.lt_succ_self _
  generalize s.new (.lst []) = s0 at f0 hp0 gn gj nn
  rw [x_newL (by simp)]
  have f1 := Fr0.new s0 (.lst [.int 0, .int 1, .int 1, .int 1, .int 1, .int 2])
  refine (oneW hx.toHasP (hp0.fr0 f1) get_new' (by rw [nxt_new]; omega) (Nat.ne_of_gt hp0.lt) (by simp) (by simp)).mono ?_
  rintro v s2 ⟨hv, hp2, f2⟩
  have hv2 : ∃ n : Nat, v = .int n ∧ n ≤ 2 := by
    simp only [List.mem_cons, List.not_mem_nil, or_false] at hv
    rcases hv with rfl | rfl | rfl | rfl | rfl | rfl
    · exact ⟨0, rfl, by omega⟩
    · exact ⟨1, rfl, by omega⟩
    · exact ⟨1, rfl, by omega⟩
    · exact ⟨1, rfl, by omega⟩
    · exact ⟨1, rfl, by omega⟩
    · exact ⟨2, rfl, by omega⟩
  obtain ⟨n, rfl, hn⟩ := hv2
  have np : s.nxt ≠ p := Nat.ne_of_gt h.lt
  have nc : s.nxt ≠ c := Nat.ne_of_gt h.ltc
  have g2 := f2.get (f1.get gn nn) (Nat.lt_succ_of_lt nn) np
  have j2 := f2.get (f1.get gj (Nat.lt_of_lt_of_le lq f0.1)) (Nat.lt_succ_of_lt (Nat.lt_of_lt_of_le lq f0.1)) qp
  have fr2 : Fra [p, q] s s2 := ((f0.trans f1).fra _).trans (f2.fra (by simp))
  have n2 : s.nxt < s2.nxt := Nat.lt_of_lt_of_le (Nat.lt_succ_of_lt nn) f2.1
  rw [x_rngN (by omega) (by omega)]
  refine ok_for (I := fun k env s' => ∃ e4 e5 r js, env = [some (.loc p), some (.loc q), some (.int own), some (.loc s.nxt), e4, e5] ∧ s'.get s.nxt = some (.lst (r.map Pt.pv)) ∧ s'.get q = some (.lst ((natI js).map PV.int)) ∧ (bufs r ++ js).Perm is ∧ lets r ≤ 2 * k ∧ r.length ≤ 2 * k ∧ (∀ y ∈ r, PcOk y) ∧ PenS s' p c ∧ Fra [p, q] s s' ∧ s.nxt < s'.nxt) ?_ ?_ _ 0 _ _ (Nat.zero_le _) (by show _ < 0 + ((upto 0 (n : Int).toNat).length + 1); omega) ⟨_, _, [], is, rfl, g2, j2, List.Perm.refl _, by simp [lets], by simp, by simp, hp2, fr2, n2⟩
  · rintro k y env s' hy ⟨e4, e5, r, js, rfl, gr, gs, pm, lr, rl, ok, hp, fr, nx⟩
    obtain ⟨hk, rfl⟩ := uptoG _ _ _ _ hy
    refine ⟨_, setT_nm, ?_⟩
    rw [fill_form]
    simp_arith only [ok_ok]
    refine (opt_ok hx hp (by decide) (by decide) gr nx np nc (by omega) ok).mono ?_
    rintro o s3 ⟨rfl, r3, g3, b3, l3, n3, ok3, hp3, fr3⟩
    have gs3 := fr3.get gs (Nat.lt_of_lt_of_le lq fr.1) (by simp; exact ⟨qp, Nat.ne_of_lt lq⟩)
    have nx3 : s.nxt < s3.nxt := Nat.lt_of_lt_of_le nx fr3.1
    simp_arith only [ok_ok]
    have lj : js.length ≤ is.length := by have := pm.length_eq; rw [List.length_append] at this; omega
    refine (tak_ok hx hp3 g3 nx3 np nc (by omega) ok3 gs3 (Nat.lt_of_lt_of_le lq (Nat.le_trans fr.1 fr3.1)) qp qc (Nat.ne_of_lt lq) (by omega)).mono ?_
    rintro o s4 ⟨e, r4, js4, rfl, g4, gs4, pm4, l4, n4, ok4, hp4, fr4⟩
    refine ⟨_, _, r4, js4, rfl, g4, gs4, ?_, by omega, by omega, ok4, hp4, ?_, Nat.lt_of_lt_of_le nx3 fr4.1⟩
    · refine pm4.trans ?_
      rw [b3]; exact pm
    · refine (fr.transN fr3 (by simp)).transN fr4 (by simp)
  · rintro env s' ⟨e4, e5, r, js, rfl, gr, gs, pm, lr, rl, ok, hp, fr, nx⟩
    rw [uptoL] at lr rl
    simp_arith only [ok_ok]
    refine (opt_ok hx hp (by decide) (by decide) gr nx np nc (by omega) ok).mono ?_
    rintro o s3 ⟨rfl, r3, g3, b3, l3, n3, ok3, hp3, fr3⟩
    have gs3 := fr3.get gs (Nat.lt_of_lt_of_le lq fr.1) (by simp; exact ⟨qp, Nat.ne_of_lt lq⟩)
    have nx3 : s.nxt < s3.nxt := Nat.lt_of_lt_of_le nx fr3.1
    simp_arith only [ok_ok]
    refine (normal_ok hx.hN g3 nx3 ok3 (by omega) (by omega)).mono ?_
    rintro v s4 ⟨rfl, f4⟩
    have gs4 := f4.get gs3 (Nat.lt_of_lt_of_le lq (Nat.le_trans fr.1 fr3.1))
    refine ⟨norm r3, js, rfl, dropG gs4 lq, by rw [norm_bufs, b3]; exact pm, by rw [norm_lets]; omega, by have := norm_len r3; omega, norm_ok ok3, (hp3.fr0 f4).drop h.lt h.ltc, ?_⟩
    exact ((fr.transN fr3 (by simp)).transN (f4.fra [p]) (by simp)).drop
theorem rc_of {r : Rc} {js is : List Nat} {B : Nat} (pm : (bufs r ++ js).Perm is) (nd : is.Nodup) (lt : ∀ b ∈ is, b < B) (h1 : lets r ≤ 6) (h2 : r.length ≤ 5) (h3 : ∀ y ∈ r, PcOk y) : RcOk B r :=
  ⟨by omega, by omega, h3, (List.nodup_append.mp ((pm.nodup_iff).mpr nd)).1, fun b hb => lt b (pm.mem_iff.mp (List.mem_append_left _ hb))⟩
/-- an end -/
theorem end_okE {B : Nat} (hx : HasE P x) (h : PenS s p c) (hB : 1 ≤ B) (hB2 : B ≤ 3) :
    Ok (run P W (d + 6) x.en [.loc p, .int B] s) fun v s' => (v = .non ∨ ∃ r, v = rcPV r ∧ RcOk B r ∧ lets r ≤ 6 ∧ r.length ≤ 5) ∧ PenS s' p c ∧ Frp p s s' := by
  refine run_s hx.hE (ok_runFn rfl ?_)
  simp_arith only [Gf_L_end, GL_end]
  refine (drawW hx.toHasP h (by decide) (by decide)).mono ?_
  rintro v s1 ⟨⟨k, rfl, hk⟩, hp1, f1⟩
  rw [x_gtI]
  by_cases ck : (decide ((0 : Int) < k)) = true
  · rw [if_pos ck, x_lrng (by omega) (by omega), Int.toNat_natCast, upto0]
    generalize (B : Int) - 1 = own
    have gq : (s1.new (.lst ((natI (List.range B)).map PV.int))).get s1.nxt = some (.lst ((natI (List.range B)).map PV.int)) := get_new'
    have f2 := Fr0.new s1 (.lst ((natI (List.range B)).map PV.int))
    refine (fill_ok hx.toHasF (hp1.fr0 f2) gq (by rw [nxt_new]; omega) (Nat.ne_of_gt hp1.lt) (Nat.ne_of_gt hp1.ltc) (by rw [List.length_range]; omega)).mono ?_
    rintro v s3 ⟨r, js, rfl, _, pm, l1, l2, l3, hp3, f3⟩
    refine ⟨.inr ⟨r, rfl, rc_of pm List.nodup_range (fun b hb => List.mem_range.mp hb) l1 l2 l3, l1, l2⟩, hp3.drop h.lt h.ltc, ?_⟩
    have : Fra [p] s s3 := ((f1.trans (f2.p p)).fra (by simp)).transN f3 (by simp; exact .inr f1.1)
    exact this.frp.drop
  · rw [if_neg ck]
    exact ⟨.inl (by first | rfl | trivial), hp1.drop h.lt h.ltc, f1.drop⟩
theorem end_ok {B : Nat} (hx : HasW P x) (h : PenS s p c) (hB : 1 ≤ B) (hB2 : B ≤ 3) :
    Ok (run P W (d + 6) x.en [.loc p, .int B] s) fun v s' => (v = .non ∨ ∃ r, v = rcPV r ∧ RcOk B r ∧ lets r ≤ 6 ∧ r.length ≤ 5) ∧ PenS s' p c ∧ Frp p s s' := end_okE hx.toE h hB hB2
/-! ### the fills of an entry -/
def dz (os : List Nat) (rs : List Rc) : List (PV × PV) := List.zipWith (fun o r => (PV.int (o : Nat), rcPV r)) os rs
theorem dz_len {os : List Nat} {rs : List Rc} (h : os.length = rs.length) : (dz os rs).length = os.length := by unfold dz; rw [List.length_zipWith]; omega
theorem dz_any : ∀ {os : List Nat} {rs : List Rc} {o : Nat}, o ∉ os → ((dz os rs).any fun p => keq p.1 (.int o)) = false
  | [], _, _, _ => rfl
  | a :: os, [], _, _ => rfl
  | a :: os, r :: rs, o, h => by
    have e : keq (.int (a : Int)) (.int (o : Int)) = false := by
      show ((a : Int) == (o : Int)) = false
      have : a ≠ o := fun z => h (z ▸ List.mem_cons_self)
      simp; omega
    show (keq (.int (a : Int)) (.int (o : Int)) || (dz os rs).any fun p => keq p.1 (.int o)) = false
    rw [e, dz_any fun z => h (List.mem_cons_of_mem _ z)]
    rfl
theorem dz_store {os : List Nat} {rs : List Rc} {o : Nat} {r : Rc} (h : o ∉ os) (hl : os.length = rs.length) : dstore (.int o) (rcPV r) (dz os rs) = dz (os ++ [o]) (rs ++ [r]) := by
  unfold dstore
  rw [dz_any h, if_neg (by decide)]
  unfold dz
  rw [List.zipWith_append hl]
  rfl
theorem dz_find : ∀ {os : List Nat} {rs : List Rc} {o : Nat}, o ∈ os → os.length = rs.length → dfind (.int o) (dz os rs) = some (rcPV (rs.getD (os.idxOf o) []))
  | [], _, _, h, _ => by cases h
  | a :: os, [], _, _, h => by simp at h
  | a :: os, r :: rs, o, h, hl => by
    show (if keq (.int (a : Int)) (.int (o : Int)) = true then some (rcPV r) else dfind (.int o) (dz os rs)) = _
    by_cases e : a = o
    · subst e
      rw [if_pos (by show ((a : Int) == (a : Int)) = true; simp), List.idxOf_cons_self]
      rfl
    · have e2 : keq (.int (a : Int)) (.int (o : Int)) = false := by show ((a : Int) == (o : Int)) = false; simp; omega
      have ei : (a :: os).idxOf o = os.idxOf o + 1 := by rw [List.idxOf_cons, beq_eq_false_iff_ne.mpr e]; rfl
      rw [e2, if_neg (by decide), ei]
      rcases List.mem_cons.mp h with z | z
      · exact absurd z.symm e
      · rw [dz_find z (by simpa using hl)]
        rfl
theorem fills_lay {B : Nat} {rs : List Rc} (hB : 1 ≤ B) (hB2 : B ≤ 3) (hl : rs.length = B) {ord : List Nat} (ho : ord = List.range B ∨ ord = (List.range B).reverse) :
    ((List.range B).map fun b => rs.getD (ord.idxOf b) []) = rs ∨ ((List.range B).map fun b => rs.getD (ord.idxOf b) []) = rs.reverse := by
  have : B = 1 ∨ B = 2 ∨ B = 3 := by omega
  rcases this with rfl | rfl | rfl
  · match rs, hl with
    | [a], _ => rcases ho with rfl | rfl <;> exact .inl rfl
  · match rs, hl with
    | [a, b], _ =>
      rcases ho with rfl | rfl
      · exact .inl rfl
      · exact .inr rfl
  · match rs, hl with
    | [a, b, c], _ =>
      rcases ho with rfl | rfl
      · exact .inl rfl
      · exact .inr rfl
end
end Dp


set_option Elab.async false
set_option linter.all false
set_option maxRecDepth 100000
set_option maxHeartbeats 4000000
set_option autoImplicit false
/-! Wr4: drawn fills, writers, words. -/
namespace Dp
abbrev En := Nat × List Rc
def flPV (fs : List Rc) : PV := .tup (fs.map rcPV)
def enPV : Option En → PV
  | none => .non
  | some (n, fs) => .tup [.int n, flPV fs]
def rowPV (row : List (Option En)) : PV := .tup (row.map enPV)
def eoPV : Option Rc → PV
  | none => .non
  | some r => rcPV r
structure Wt where
  begins : List (List Nat)
  rules : List (List (Option En))
  ends : List (Option Rc)
def Wt.pv (w : Wt) : PV := .tup [.tup (w.begins.map PV.str), .tup (w.rules.map rowPV), .tup (w.ends.map eoPV)]
def EnOk (S B : Nat) (e : Option En) : Prop := ∀ n fs, e = some (n, fs) → n < S ∧ FillsOk B fs
def Tidy (w : Wt) : Prop := ∀ r, some r ∈ w.ends → lets r ≤ 6 ∧ r.length ≤ 5
/-- drawn: at most six letters, five parts -/
def TidF (fs : List Rc) : Prop := ∀ r ∈ fs, lets r ≤ 6 ∧ r.length ≤ 5
def EnA (S B : Nat) (e : Option En) : Prop := EnOk S B e ∧ ∀ n fs, e = some (n, fs) → TidF fs
def TidyA (w : Wt) : Prop := Tidy w ∧ ∀ row ∈ w.rules, ∀ n fs, some (n, fs) ∈ row → TidF fs
def EoOk (B : Nat) (e : Option Rc) : Prop := ∀ r, e = some r → RcOk B r
structure WtOk (K S B : Nat) (w : Wt) : Prop where
  s0 : 1 ≤ S
  b0 : 1 ≤ B
  b3 : B ≤ 3
  bl : w.begins.length = B
  bt : ∀ t ∈ w.begins, t.length ≤ 2 ∧ lett t
  rl : w.rules.length = S
  ro : ∀ row ∈ w.rules, row.length = K ∧ ∀ e ∈ row, EnOk S B e
  el : w.ends.length = S
  eo : ∀ e ∈ w.ends, EoOk B e
def wdPV (ks : List Nat) : PV := .tup ((natI ks).map PV.int)
section
variable {P : Nat → Option IFn} {x : Ix} {W d p c : Nat} {s : Sto}
theorem x_bndJ {J : Itr} {s : Sto} {Q : Nat → Sto → Prop} : Ok (bndM J s) Q = Q (J.bnd s + 1) s := ok_ok
theorem map_upto {α : Type} (f : PV → α) (n : Nat) : (upto 0 n).map f = (List.range n).map fun b => f (.int (b : Nat)) := by
  rw [upto0]
  unfold natI
  rw [List.map_map, List.map_map]
  rfl
def fillsT (x : Ix) : ISs := .cons (.asg (.nm 4) .dnew) (.cons (.for (.nm 5) (.ex (.var 3)) (GL_fills_b1 x.fill x.draw)) (.cons (.ret (.biC .tuple (.one [5] (GL_fills_e1 x.fill x.draw) (.nm 5) (.rng (.cons (.var 1) .nil)) .none))) .nil))
theorem fills_form (x : Ix) : GL_fills x.fill x.draw = .cons (.asg (.nm 2) (.lrng (.var 1))) (.cons (.asg (.nm 3) (.ifx (.cmp .eq (.call x.draw (.cons (.var 0) (.cons (.cst (.int 4)) .nil))) (.cst (.int 0))) (.rev (.var 2)) (.bi .list (.cons (.var 2) .nil)))) (fillsT x)) := rfl
theorem fillsT_ok {B q l : Nat} {ord : List Nat} {b : ISs} (hx : HasF P x) (h : PenS s p c) (hB : 1 ≤ B) (hB2 : B ≤ 3) (ho : ord = List.range B ∨ ord = (List.range B).reverse)
    (gq : s.get q = some (.lst ((natI (List.range B)).map PV.int))) (lq : q < s.nxt) (qp : q ≠ p) (qc : q ≠ c) (gl : s.get l = some (.lst ((natI ord).map PV.int))) (ll : l < s.nxt) (lp : l ≠ p) (ql : q ≠ l) (hb : b = fillsT x) :
    Ok (evSs (run P W (d + 5)) W b [some (.loc p), some (.int B), some (.loc q), some (.loc l), none, none] s) fun o s3 => (∃ fs, o = .rt (flPV fs) ∧ FillsOk B fs ∧ TidF fs) ∧ PenS s3 p c ∧ Fra [p, q] s s3 := by
  have ol : ord.length = B := by rcases ho with rfl | rfl <;> simp
  have om : ∀ b, b ∈ ord → b < B := by rcases ho with rfl | rfl <;> simp
  have on : ord.Nodup := by
    rcases ho with rfl | rfl
    · exact List.nodup_range
    · exact (List.reverse_perm _).nodup_iff.mpr List.nodup_range
  have b0 : -4611686018427387904 ≤ (B : Int) := by omega
  have b1 : (B : Int) < 4611686018427387904 := by omega
  simp_arith only [hb, fillsT]
  rw [x_dnew]
  have f3 := Fr0.new s (.dic [])
  have gl3 := f3.get gl ll
  rw [x_itL (lst_at gl3)]
  have gd : (s.new (.dic [])).get s.nxt = some (.dic (dz [] [])) := get_new'
  have gq3 := f3.get gq lq
  have bl : (Itr.liv l).bnd (s.new (.dic [])) = B := by
    show (match (s.new (.dic [])).lstAt l with | some xs => xs.length | none => 0) = _
    rw [lst_at gl3]
    show ((natI ord).map PV.int).length = B
    rw [List.length_map, natI_len, ol]
  rw [bl]
  have hp3 := h.fr0 f3
  have n3 : s.nxt < (s.new (.dic [])).nxt := Nat.lt_succ_self _
  have fr3 : Fra [p, q] s (s.new (.dic [])) := f3.fra _
  generalize s.new (.dic []) = s3 at gl3 gd gq3 hp3 fr3 n3
  have dp : s.nxt ≠ p := Nat.ne_of_gt h.lt
  have dc : s.nxt ≠ c := Nat.ne_of_gt h.ltc
  refine ok_forJ (xs := (natI ord).map PV.int) (I := fun k env s' => k ≤ B ∧ ∃ e5 rs js, env = [some (.loc p), some (.int B), some (.loc q), some (.loc l), some (.loc s.nxt), e5] ∧ rs.length = k ∧ s'.get s.nxt = some (.dic (dz (ord.take k) rs)) ∧ s'.get q = some (.lst ((natI js).map PV.int)) ∧ s'.get l = some (.lst ((natI ord).map PV.int)) ∧ (rs.flatMap bufs ++ js).Perm (List.range B) ∧ (∀ r ∈ rs, RcOk B r ∧ lets r ≤ 6 ∧ r.length ≤ 5) ∧ PenS s' p c ∧ Fra [p, q] s s' ∧ s.nxt < s'.nxt)
    ?_ ?_ ?_ _ 0 _ _ (Nat.zero_le _) (by rw [List.length_map, natI_len, ol]; omega) ⟨Nat.zero_le _, none, [], List.range B, rfl, rfl, gd, gq3, gl3, List.Perm.refl _, by simp, hp3, fr3, n3⟩
  · rintro k env s' ⟨_, e5, rs, js, _, _, _, _, gl', _⟩
    exact at_liv (lst_at gl')
  · rintro k y env s' hy ⟨hk, e5, rs, js, rfl, rl, gd', gs', gl', pm, rok, hp, fr, nx⟩
    have hkB : k < ord.length := by
      have := (List.getElem?_eq_some_iff.mp hy).1
      rwa [List.length_map, natI_len] at this
    have eo : ord[k]? = some ord[k] := List.getElem?_eq_getElem hkB
    rw [natI_get eo] at hy
    cases hy
    refine ⟨_, setT_nm, ?_⟩
    simp_arith only [GL_fills_b1]
    have lj : js.length ≤ B := by have := pm.length_eq; rw [List.length_append, List.length_range] at this; omega
    refine (fill_ok hx hp gs' (Nat.lt_trans lq nx) qp qc (by omega)).mono ?_
    rintro v s4 ⟨r, js', rfl, gs4, pm4, h1, h2, h3, hp4, f4⟩
    have gd4 := f4.get gd' nx (by simp; exact ⟨dp, Nat.ne_of_gt lq⟩)
    have gl4 := f4.get gl' (Nat.lt_trans ll nx) (by simp; exact ⟨lp, Ne.symm ql⟩)
    have tl : (ord.take k).length = rs.length := by rw [List.length_take, rl]; omega
    have notin : ord[k] ∉ ord.take k := by
      intro hm
      obtain ⟨j, hj, ej⟩ := List.mem_iff_getElem.mp hm
      rw [List.length_take] at hj
      rw [List.getElem_take] at ej
      exact (List.pairwise_iff_getElem.mp on) j k (by omega) hkB (by omega) ej
    rw [x_dput gd4 rfl (by rw [dz_len tl, List.length_take]; omega), dz_store notin tl]
    have tk : ord.take (k + 1) = ord.take k ++ [ord[k]] := by rw [List.take_add_one, eo]; rfl
    have mem : ∀ b ∈ js, b < B := fun b hb => List.mem_range.mp (pm.mem_iff.mp (List.mem_append_right _ hb))
    have ndj : js.Nodup := (List.nodup_append.mp (pm.nodup_iff.mpr List.nodup_range)).2.1
    refine ⟨by omega, _, rs ++ [r], js', rfl, by simp [rl], by rw [get_set gd4, tk], by rw [set_get (Nat.ne_of_lt lq)]; exact gs4, by rw [set_get (Nat.ne_of_lt ll)]; exact gl4, ?_, ?_, hp4.setX dp dc, ?_, ?_⟩
    · rw [List.flatMap_append, List.append_assoc]
      refine List.Perm.trans (List.Perm.append_left _ ?_) pm
      simpa using pm4
    · intro r' hr'
      rcases List.mem_append.mp hr' with z | z
      · exact rok r' z
      · rw [List.mem_singleton.mp z]; exact ⟨rc_of pm4 ndj mem h1 h2 h3, h1, h2⟩
    · exact (fr.trans f4).setN _ (Nat.le_refl _)
    · rw [nxt_set]; exact Nat.lt_of_lt_of_le nx f4.1
  · intro env s' hI
    obtain ⟨_, e5, rs, js, ee, rl, gd', gs', gl', pm, rok, hp, fr, nx⟩ := hI
    rw [ee]
    rw [List.length_map, natI_len, ol] at rl gd'
    rw [List.take_of_length_le (by omega)] at gd'
    have nd := (List.nodup_append.mp (pm.nodup_iff.mpr List.nodup_range)).1
    have df : ∀ b < B, dfind (.int b) (dz ord rs) = some (rcPV (rs.getD (ord.idxOf b) [])) := fun b hb => dz_find (by rcases ho with rfl | rfl <;> simp [hb]) (by rw [ol, rl])
    have fo : FillsOk B ((List.range B).map fun b => rs.getD (ord.idxOf b) []) ∧ TidF ((List.range B).map fun b => rs.getD (ord.idxOf b) []) := by
      rcases fills_lay hB hB2 rl ho with e | e
      · rw [e]; exact ⟨⟨rl, nd, fun r hr => (rok r hr).1⟩, fun r hr => (rok r hr).2⟩
      · rw [e]
        refine ⟨⟨by rw [List.length_reverse, rl], ?_, fun r hr => (rok r (List.mem_reverse.mp hr)).1⟩, fun r hr => (rok r (List.mem_reverse.mp hr)).2⟩
        exact ((List.Perm.flatMap_right bufs (List.reverse_perm rs)).nodup_iff).mpr nd
    clear hb
    simp_arith only [ok_ok]
    rw [x_rngN b0 b1, Int.toNat_natCast]
    refine ok_lc (I := fun k acc s2 => s2 = s' ∧ acc = ((List.range B).map fun b => rcPV (rs.getD (ord.idxOf b) [])).take k) ?_ ?_ _ 0 _ _ (Nat.zero_le _) (by show _ < 0 + ((upto 0 B).length + 1); omega) ⟨rfl, rfl⟩
    · rintro k y acc s2 hy ⟨rfl, rfl⟩
      obtain ⟨hk, rfl⟩ := uptoG _ _ _ _ hy
      refine ⟨_, setT_nm, ?_⟩
      rw [show (0 + (k : Int)) = (k : Int) by omega]
      simp_arith only [GL_fills_e1]
      rw [x_dget gd' rfl (df k hk)]
      unfold accM
      rw [if_pos (by rw [List.length_take]; omega)]
      refine ⟨rfl, ?_⟩
      rw [List.take_add_one, List.getElem?_map, List.getElem?_range hk]
      rfl
    · rintro acc s2 ⟨rfl, rfl⟩
      rw [uptoL, List.take_of_length_le (by simp), x_tupC (by simp; omega)]
      refine ⟨⟨_, ?_, fo⟩, hp, fr⟩
      unfold flPV
      rw [List.map_map]
      rfl
theorem fills_okT {B : Nat} (hx : HasF P x) (h : PenS s p c) (hB : 1 ≤ B) (hB2 : B ≤ 3) :
    Ok (run P W (d + 6) x.fills [.loc p, .int B] s) fun v s' => (∃ fs, v = flPV fs ∧ FillsOk B fs ∧ TidF fs) ∧ PenS s' p c ∧ Frp p s s' := by
  have b0 : (0 : Int) ≤ (B : Int) := by omega
  have b1 : (B : Int) ≤ 16777216 := by omega
  refine ok_run hx.hFs rfl fun b hb => ?_
  obtain ⟨T, hT⟩ : ∃ T, T = fillsT x := ⟨_, rfl⟩
  simp_arith only [hb, fills_form, ← hT]
  rw [x_lrng b0 b1, Int.toNat_natCast, upto0]
  have f0 := Fr0.new s (.lst ((natI (List.range B)).map PV.int))
  have hp0 := h.fr0 f0
  have gq : (s.new (.lst ((natI (List.range B)).map PV.int))).get s.nxt = some (.lst ((natI (List.range B)).map PV.int)) := get_new'
  have nn : s.nxt < (s.new (.lst ((natI (List.range B)).map PV.int))).nxt := Nat.lt_succ_self _
  generalize s.new (.lst ((natI (List.range B)).map PV.int)) = s0 at f0 hp0 gq nn
  have np : s.nxt ≠ p := Nat.ne_of_gt h.lt
  have nc : s.nxt ≠ c := Nat.ne_of_gt h.ltc
  refine (drawW hx.toHasP hp0 (by decide) (by decide)).mono ?_
  rintro v s1 ⟨⟨k, rfl, hk⟩, hp1, f1⟩
  rw [x_eqI]
  have gq1 := f1.get gq nn np
  have n1 : s.nxt < s1.nxt := Nat.lt_of_lt_of_le nn f1.1
  have fr1 : Fra [p] s s1 := (f0.fra _).trans (f1.fra (by simp))
  have go : ∀ (ord : List Nat), (ord = List.range B ∨ ord = (List.range B).reverse) → Ok (evSs (run P W (d + 5)) W T [some (.loc p), some (.int B), some (.loc s.nxt), some (.loc s1.nxt), none, none] (s1.new (.lst ((natI ord).map PV.int)))) fun o s3 => (∃ fs, o = .rt (flPV fs) ∧ FillsOk B fs ∧ TidF fs) ∧ PenS (s3.drop s.nxt) p c ∧ Frp p s (s3.drop s.nxt) := by
    intro ord ho
    have f2 := Fr0.new s1 (.lst ((natI ord).map PV.int))
    refine (fillsT_ok hx (hp1.fr0 f2) hB hB2 ho (f2.get gq1 n1) (Nat.lt_of_lt_of_le n1 f2.1) np nc get_new' (Nat.lt_succ_self _) (Nat.ne_of_gt hp1.lt) (Nat.ne_of_lt n1) hT).mono ?_
    rintro o s3 ⟨hf, hp3, f3⟩
    exact ⟨hf, hp3.drop h.lt h.ltc, ((fr1.trans (f2.fra _)).transN f3 (by simp)).frp.drop⟩
  by_cases ck : ((k : Int) == 0) = true
  · rw [if_pos ck, x_rvL (lst_at gq1), x_newL (by rw [List.length_reverse, List.length_map, natI_len, List.length_range]; omega)]
    have er : ((natI (List.range B)).map PV.int).reverse = (natI (List.range B).reverse).map PV.int := by unfold natI; rw [List.map_reverse, List.map_reverse]
    rw [er]
    refine (go _ (.inr rfl)).mono ?_
    rintro o s3 ⟨⟨fs, rfl, hf⟩, hp3, f3⟩
    exact ⟨⟨fs, rfl, hf⟩, hp3, f3⟩
  · rw [if_neg ck, x_liL (lst_at gq1), x_newL (by rw [List.length_map, natI_len, List.length_range]; omega)]
    refine (go _ (.inl rfl)).mono ?_
    rintro o s3 ⟨⟨fs, rfl, hf⟩, hp3, f3⟩
    exact ⟨⟨fs, rfl, hf⟩, hp3, f3⟩
theorem fills_ok {B : Nat} (hx : HasF P x) (h : PenS s p c) (hB : 1 ≤ B) (hB2 : B ≤ 3) :
    Ok (run P W (d + 6) x.fills [.loc p, .int B] s) fun v s' => (∃ fs, v = flPV fs ∧ FillsOk B fs) ∧ PenS s' p c ∧ Frp p s s' := by
  refine (fills_okT hx h hB hB2).mono ?_
  rintro v s' ⟨⟨fs, e, a, _⟩, hp, f⟩
  exact ⟨⟨fs, e, a⟩, hp, f⟩
end
end Dp


set_option Elab.async false
set_option linter.all false
set_option maxRecDepth 100000
set_option maxHeartbeats 4000000
set_option autoImplicit false
/-! Wr5: drawn writers, words. -/
namespace Dp
section
variable {P : Nat → Option IFn} {x : Ix} {W d p c : Nat} {s : Sto}
theorem rngB (n : Nat) (h : n ≤ 16777216) : -4611686018427387904 ≤ (n : Int) ∧ (n : Int) < 4611686018427387904 := by omega
/-- one entry more -/
theorem wr_b1 {K S B lr : Nat} {row : List (Option En)} {e1 e4 e5 e6 e8 e9 e10 e11 e12 : Option PV} {b : ISs} (hb : b = GL_writer_b1 x.en x.draw x.piece x.fills) (hx : HasE P x) (h : PenS s p c) (hS : 1 ≤ S) (hS2 : S ≤ 12) (hB : 1 ≤ B) (hB2 : B ≤ 3) (gr : s.get lr = some (.lst (row.map enPV))) (lr1 : lr < s.nxt) (lrp : lr ≠ p) (lrc : lr ≠ c) (rl : row.length ≤ 1000) :
    Ok (evSs (run P W (d + 7)) W b [some (.loc p), e1, some (.int S), some (.int B), e4, e5, e6, some (.loc lr), e8, e9, e10, e11, e12] s) fun o s' => ∃ e9 e10 e, o = .nx [some (.loc p), e1, some (.int S), some (.int B), e4, e5, e6, some (.loc lr), e8, e9, e10, e11, e12] ∧ EnA S B e ∧ s'.get lr = some (.lst ((row ++ [e]).map enPV)) ∧ PenS s' p c ∧ Fra [p, lr] s s' := by
  simp_arith only [hb, GL_writer_b1]
  refine (drawW hx.toHasP h (by omega) (by omega)).mono ?_
  rintro v s1 ⟨⟨t, rfl, ht⟩, hp1, f1⟩
  refine (fills_okT hx.toHasF hp1 hB hB2).mono ?_
  rintro v s2 ⟨⟨fs, rfl, hf, hft⟩, hp2, f2⟩
  rw [x_tup (by simp)]
  simp_arith only [ok_ok]
  have g2 := f2.get (f1.get gr lr1 lrp) (Nat.lt_of_lt_of_le lr1 f1.1) lrp
  have l2 : lr < s2.nxt := Nat.lt_of_lt_of_le lr1 (Nat.le_trans f1.1 f2.1)
  rw [x_chkL g2]
  refine (drawW hx.toHasP hp2 (by decide) (by decide)).mono ?_
  rintro v s3 ⟨⟨k, rfl, hk⟩, hp3, f3⟩
  rw [x_gtI]
  have g3 := f3.get g2 l2 lrp
  have fr : Fra [p, lr] s s3 := ((f1.trans f2).trans f3).fra (by simp)
  by_cases ck : (decide ((0 : Int) < k)) = true
  · rw [if_pos ck, x_tup (by simp), x_app g3 (by rw [List.length_map]; omega)]
    exact ⟨_, _, some (t, fs), rfl, ⟨fun n fs' e => (by cases e; exact ⟨by omega, hf⟩), fun n fs' e => (by cases e; exact hft)⟩, by rw [get_set g3, List.map_append]; rfl, hp3.setX lrp lrc, fr.trans (Fra.set _ _ (by simp))⟩
  · rw [if_neg ck, x_app g3 (by rw [List.length_map]; omega)]
    exact ⟨_, _, none, rfl, ⟨fun n fs' e => (by cases e), fun n fs' e => (by cases e)⟩, by rw [get_set g3, List.map_append]; rfl, hp3.setX lrp lrc, fr.trans (Fra.set _ _ (by simp))⟩
/-- one row more -/
theorem wr_b2 {K S B lu : Nat} {rows : List (List (Option En))} {e4 e6 e7 e8 e9 e10 e11 e12 : Option PV} {b : ISs} (hb : b = GL_writer_b2 x.en x.draw x.piece x.fills) (hx : HasE P x) (h : PenS s p c) (hK : K ≤ 4) (hS : 1 ≤ S) (hS2 : S ≤ 12) (hB : 1 ≤ B) (hB2 : B ≤ 3) (gr : s.get lu = some (.lst (rows.map rowPV))) (lu1 : lu < s.nxt) (lup : lu ≠ p) (luc : lu ≠ c) (rl : rows.length ≤ 1000) :
    Ok (evSs (run P W (d + 7)) W b [some (.loc p), some (.int K), some (.int S), some (.int B), e4, some (.loc lu), e6, e7, e8, e9, e10, e11, e12] s) fun o s' => ∃ e7 e8 e9 e10 row, o = .nx [some (.loc p), some (.int K), some (.int S), some (.int B), e4, some (.loc lu), e6, e7, e8, e9, e10, e11, e12] ∧ (row.length = K ∧ ∀ e ∈ row, EnA S B e) ∧ s'.get lu = some (.lst ((rows ++ [row]).map rowPV)) ∧ PenS s' p c ∧ Fra [p, lu] s s' := by
  obtain ⟨T, hT⟩ : ∃ T, T = GL_writer_b1 x.en x.draw x.piece x.fills := ⟨_, rfl⟩
  simp_arith only [hb, GL_writer_b2, ← hT]
  rw [x_newL (by simp)]
  have f0 := Fr0.new s (.lst [])
  have hp0 := h.fr0 f0
  have g0 : (s.new (.lst [])).get s.nxt = some (.lst (([] : List (Option En)).map enPV)) := get_new'
  have u0 := f0.get gr lu1
  have n0 : s.nxt < (s.new (.lst [])).nxt := Nat.lt_succ_self _
  generalize s.new (.lst []) = s0 at f0 hp0 g0 u0 n0
  rw [x_rngN (rngB K (by omega)).1 (rngB K (by omega)).2, Int.toNat_natCast]
  have np : s.nxt ≠ p := Nat.ne_of_gt h.lt
  have nc : s.nxt ≠ c := Nat.ne_of_gt h.ltc
  refine ok_for (I := fun k env s' => ∃ e8 e9 e10 row, env = [some (.loc p), some (.int K), some (.int S), some (.int B), e4, some (.loc lu), e6, some (.loc s.nxt), e8, e9, e10, e11, e12] ∧ row.length = k ∧ (∀ e ∈ row, EnA S B e) ∧ s'.get s.nxt = some (.lst (row.map enPV)) ∧ s'.get lu = some (.lst (rows.map rowPV)) ∧ PenS s' p c ∧ Fra [p] s s' ∧ s.nxt < s'.nxt) ?_ ?_ _ 0 _ _ (Nat.zero_le _) (by show _ < 0 + ((upto 0 K).length + 1); omega) ⟨_, _, _, [], rfl, rfl, by simp, g0, u0, hp0, f0.fra _, n0⟩
  · rintro k y env s' hy ⟨e8, e9, e10, row, rfl, rl', ok, gr', gu', hp, fr, nx⟩
    obtain ⟨hk, rfl⟩ := uptoG _ _ _ _ hy
    refine ⟨_, setT_nm, ?_⟩
    simp_arith only [ok_ok]
    refine (wr_b1 (K := K) hT hx hp hS hS2 hB hB2 gr' nx np nc (by omega)).mono ?_
    rintro o s2 ⟨e9', e10', e, rfl, he, g2, hp2, f2⟩
    refine ⟨_, _, _, row ++ [e], rfl, by simp [rl'], ?_, g2, f2.get gu' (Nat.lt_of_lt_of_le lu1 fr.1) (by simp; exact ⟨lup, Nat.ne_of_lt lu1⟩), hp2, fr.transN f2 (by simp), Nat.lt_of_lt_of_le nx f2.1⟩
    intro e' he'
    rcases List.mem_append.mp he' with z | z
    · exact ok e' z
    · rw [List.mem_singleton.mp z]; exact he
  · rintro env s' ⟨e8, e9, e10, row, rfl, rl', ok, gr', gu', hp, fr, nx⟩
    rw [uptoL] at rl'
    simp_arith only [ok_ok]
    rw [x_chkL gu', x_tuL (lst_at gr') (by rw [List.length_map]; omega), x_app gu' (by rw [List.length_map]; omega)]
    refine ⟨_, _, _, _, row, rfl, ⟨rl', ok⟩, by rw [get_set gu', List.map_append]; rfl, hp.setX lup luc, (fr.mono (by simp)).trans (Fra.set _ _ (by simp))⟩
/-- a drawn writer -/
theorem writer_okE {K n m : Nat} (hx : HasE P x) (h : PenS s p c) (hK : K ≤ 4) (hn : 1 ≤ n) (hn2 : n ≤ 12) (hm : 1 ≤ m) (hm2 : m ≤ 3) :
    Ok (run P W (d + 8) x.writer [.loc p, .int K, .int n, .int m] s) fun v s' => (∃ w S B, v = w.pv ∧ WtOk K S B w ∧ S ≤ n ∧ B ≤ m ∧ TidyA w) ∧ PenS s' p c ∧ Frp p s s' := by
  refine ok_run hx.hW rfl fun b hb => ?_
  simp_arith only [hb, GL_writer]
  refine (drawW hx.toHasP h (by omega) (by omega)).mono ?_
  rintro v s1 ⟨⟨S0, rfl, hS0⟩, hp1, f1⟩
  rw [x_addI]
  refine (drawW hx.toHasP hp1 (by omega) (by omega)).mono ?_
  intro v s2 hh
  obtain ⟨⟨B0, ev, hB0⟩, hp2, f2⟩ := hh
  subst ev
  obtain ⟨S, hS⟩ : ∃ S : Nat, S = 1 + S0 := ⟨_, rfl⟩
  obtain ⟨B, hB⟩ : ∃ B : Nat, B = 1 + B0 := ⟨_, rfl⟩
  have eS : (1 : Int) + (S0 : Int) = (S : Int) := by omega
  have eB : (1 : Int) + (B0 : Int) = (B : Int) := by omega
  have hS1 : 1 ≤ S := by omega
  have hS2 : S ≤ n := by omega
  have hB1 : 1 ≤ B := by omega
  have hB2 : B ≤ m := by omega
  rw [x_addI, eS, eB, x_tup (by simp)]
  clear eS eB hS hB hS0 hB0
  simp_arith only [ok_ok]
  have F2 := f1.trans f2
  clear f1 f2 hp1
  rw [x_rngN (rngB B (by omega)).1 (rngB B (by omega)).2, Int.toNat_natCast]
  refine ok_lc (I := fun k acc s' => ∃ ts : List (List Nat), acc = ts.map PV.str ∧ ts.length = k ∧ (∀ t ∈ ts, t.length ≤ 2 ∧ lett t) ∧ PenS s' p c ∧ Frp p s s') ?_ ?_ _ 0 _ _ (Nat.zero_le _) (by show _ < 0 + ((upto 0 B).length + 1); omega) ⟨[], rfl, rfl, by simp, hp2, F2⟩
  · rintro k y acc s' hy ⟨ts, rfl, tl, tok, hp, fr⟩
    obtain ⟨hk, rfl⟩ := uptoG _ _ _ _ hy
    refine ⟨_, setT_nm, ?_⟩
    simp_arith only [GL_writer_e2]
    refine (drawW hx.toHasP hp (by decide) (by decide)).mono ?_
    rintro v s3 ⟨⟨q, rfl, hq⟩, hp3, f3⟩
    rw [x_eqI]
    by_cases cq : ((q : Int) == 0) = true
    · rw [if_pos cq]
      refine (piece_ok hx.toHasF hp3 (by decide) (by decide)).mono ?_
      rintro v s4 ⟨⟨t, rfl, t0, t1, tl2⟩, hp4, f4⟩
      rw [x_acc (by rw [List.length_map]; omega)]
      refine ⟨ts ++ [t], by simp, by simp [tl], ?_, hp4, (fr.trans f3).trans f4⟩
      intro t' ht'
      rcases List.mem_append.mp ht' with z | z
      · exact tok t' z
      · rw [List.mem_singleton.mp z]; exact ⟨by omega, tl2⟩
    · rw [if_neg cq, x_acc (by rw [List.length_map]; omega)]
      refine ⟨ts ++ [[]], by simp, by simp [tl], ?_, hp3, fr.trans f3⟩
      intro t' ht'
      rcases List.mem_append.mp ht' with z | z
      · exact tok t' z
      · rw [List.mem_singleton.mp z]; exact ⟨by simp, fun c hc => by cases hc⟩
  · intro acc s' hI
    obtain ⟨ts, e0, tl, tok, hp, fr⟩ := hI
    rw [uptoL] at tl
    rw [e0, x_tupC (by rw [List.length_map]; omega)]
    clear e0
    try simp_arith only [ok_ok]
    rw [x_newL (by simp)]
    have f0 := Fr0.new s' (.lst [])
    have hpn := hp.fr0 f0
    have g0 : (s'.new (.lst [])).get s'.nxt = some (.lst (([] : List (List (Option En))).map rowPV)) := get_new'
    have n0 : s'.nxt < (s'.new (.lst [])).nxt := Nat.lt_succ_self _
    have frn : Frp p s (s'.new (.lst [])) := fr.trans (f0.p p)
    generalize s'.new (.lst []) = s3 at f0 hpn g0 n0 frn
    rw [x_rngN (rngB S (by omega)).1 (rngB S (by omega)).2, Int.toNat_natCast]
    have np : s'.nxt ≠ p := Nat.ne_of_gt hp.lt
    have nc : s'.nxt ≠ c := Nat.ne_of_gt hp.ltc
    have ns : s.nxt ≤ s'.nxt := fr.1
    refine ok_for (I := fun k env s4 => ∃ e6 e7 e8 e9 e10 rows, env = [some (.loc p), some (.int K), some (.int S), some (.int B), some (.tup (ts.map PV.str)), some (.loc s'.nxt), e6, e7, e8, e9, e10, none, none] ∧ rows.length = k ∧ (∀ row ∈ rows, row.length = K ∧ ∀ e ∈ row, EnA S B e) ∧ s4.get s'.nxt = some (.lst (rows.map rowPV)) ∧ PenS s4 p c ∧ Frp p s s4 ∧ s'.nxt < s4.nxt) ?_ ?_ _ 0 _ _ (Nat.zero_le _) (by show _ < 0 + ((upto 0 S).length + 1); omega) ⟨_, _, _, _, _, [], rfl, rfl, by simp, g0, hpn, frn, n0⟩
    · rintro k y env s4 hy ⟨e6, e7, e8, e9, e10, rows, rfl, rl, rok, gr, hp4, fr4, nx⟩
      obtain ⟨hk, rfl⟩ := uptoG _ _ _ _ hy
      refine ⟨_, setT_nm, ?_⟩
      simp_arith only [ok_ok]
      refine (wr_b2 (b := GL_writer_b2 x.en x.draw x.piece x.fills) rfl hx hp4 hK hS1 (by omega) hB1 (by omega) gr nx np nc (by omega)).mono ?_
      rintro o s5 ⟨e7', e8', e9', e10', row, rfl, hrow, g5, hp5, f5⟩
      refine ⟨_, _, _, _, _, rows ++ [row], rfl, by simp [rl], ?_, g5, hp5, ?_, Nat.lt_of_lt_of_le nx f5.1⟩
      · intro row' hr'
        rcases List.mem_append.mp hr' with z | z
        · exact rok row' z
        · rw [List.mem_singleton.mp z]; exact hrow
      · exact ((fr4.fra (A := [p]) (by simp)).transN f5 (by simp; exact .inr ns)).frp
    · intro env s4 hI
      obtain ⟨e6, e7, e8, e9, e10, rows, ee, rl, rok, gr, hp4, fr4, nx⟩ := hI
      rw [uptoL] at rl
      rw [ee]
      clear ee
      simp_arith only [ok_ok]
      rw [x_rngN (rngB S (by omega)).1 (rngB S (by omega)).2, Int.toNat_natCast]
      refine ok_lc (I := fun k acc s5 => ∃ es : List (Option Rc), acc = es.map eoPV ∧ es.length = k ∧ (∀ e ∈ es, EoOk B e ∧ ∀ r, e = some r → lets r ≤ 6 ∧ r.length ≤ 5) ∧ s5.get s'.nxt = some (.lst (rows.map rowPV)) ∧ PenS s5 p c ∧ Frp p s s5 ∧ s'.nxt < s5.nxt) ?_ ?_ _ 0 _ _ (Nat.zero_le _) (by show _ < 0 + ((upto 0 S).length + 1); omega) ⟨[], rfl, rfl, by simp, gr, hp4, fr4, nx⟩
      · rintro k y acc s5 hy ⟨es, rfl, el, eok, gr5, hp5, fr5, nx5⟩
        obtain ⟨hk, rfl⟩ := uptoG _ _ _ _ hy
        refine ⟨_, setT_nm, ?_⟩
        simp_arith only [GL_writer_e1]
        refine (end_okE hx hp5 hB1 (by omega)).mono ?_
        rintro v s6 ⟨hv, hp6, f6⟩
        have hv2 : ∃ e : Option Rc, v = eoPV e ∧ EoOk B e ∧ ∀ r, e = some r → lets r ≤ 6 ∧ r.length ≤ 5 := by
          rcases hv with rfl | ⟨r, rfl, hr, hr2⟩
          · exact ⟨none, rfl, fun r e => (by cases e), fun r e => (by cases e)⟩
          · exact ⟨some r, rfl, fun r' e => (by cases e; exact hr), fun r' e => (by cases e; exact hr2)⟩
        obtain ⟨e, rfl, he⟩ := hv2
        unfold accM
        rw [if_pos (by rw [List.length_map]; omega)]
        refine ⟨es ++ [e], by simp, by simp [el], ?_, f6.get gr5 nx5 np, hp6, fr5.trans f6, Nat.lt_of_lt_of_le nx5 f6.1⟩
        intro e' he'
        rcases List.mem_append.mp he' with z | z
        · exact eok e' z
        · rw [List.mem_singleton.mp z]; exact he
      · intro acc s5 hI
        obtain ⟨es, ea, el, eok, gr5, hp5, fr5, nx5⟩ := hI
        rw [uptoL] at el
        rw [ea]
        clear ea
        rw [x_newL (by rw [List.length_map]; omega)]
        have f6 := Fr0.new s5 (.lst (es.map eoPV))
        try simp_arith only [ok_ok]
        rw [x_tuL (lst_at (f6.get gr5 nx5)) (by rw [List.length_map]; omega), x_tuL (lst_at get_new') (by rw [List.length_map]; omega), x_tup (by simp)]
        refine ⟨⟨⟨ts, rows, es⟩, S, B, rfl, ⟨hS1, hB1, by omega, tl, tok, rl, fun row hr => ⟨(rok row hr).1, fun e he => ((rok row hr).2 e he).1⟩, el, fun e he => (eok e he).1⟩, hS2, hB2, fun r hr => (eok _ hr).2 r rfl, fun row hr n fs he => ((rok row hr).2 _ he).2 n fs rfl⟩, (hp5.fr0 f6).drop h.lt h.ltc, (fr5.trans (f6.p p)).drop⟩
theorem writer_okA {K n m : Nat} (hx : HasW P x) (h : PenS s p c) (hK : K ≤ 4) (hn : 1 ≤ n) (hn2 : n ≤ 12) (hm : 1 ≤ m) (hm2 : m ≤ 3) :
    Ok (run P W (d + 8) x.writer [.loc p, .int K, .int n, .int m] s) fun v s' => (∃ w S B, v = w.pv ∧ WtOk K S B w ∧ S ≤ n ∧ B ≤ m ∧ TidyA w) ∧ PenS s' p c ∧ Frp p s s' := writer_okE hx.toE h hK hn hn2 hm hm2
theorem writer_okTE {K n m : Nat} (hx : HasE P x) (h : PenS s p c) (hK : K ≤ 4) (hn : 1 ≤ n) (hn2 : n ≤ 12) (hm : 1 ≤ m) (hm2 : m ≤ 3) :
    Ok (run P W (d + 8) x.writer [.loc p, .int K, .int n, .int m] s) fun v s' => (∃ w S B, v = w.pv ∧ WtOk K S B w ∧ S ≤ n ∧ B ≤ m ∧ Tidy w) ∧ PenS s' p c ∧ Frp p s s' := by
  refine (writer_okE hx h hK hn hn2 hm hm2).mono ?_
  rintro v s' ⟨⟨w, S, B, e, a, b, c, t⟩, hp, f⟩
  exact ⟨⟨w, S, B, e, a, b, c, t.1⟩, hp, f⟩
theorem writer_okT {K n m : Nat} (hx : HasW P x) (h : PenS s p c) (hK : K ≤ 4) (hn : 1 ≤ n) (hn2 : n ≤ 12) (hm : 1 ≤ m) (hm2 : m ≤ 3) :
    Ok (run P W (d + 8) x.writer [.loc p, .int K, .int n, .int m] s) fun v s' => (∃ w S B, v = w.pv ∧ WtOk K S B w ∧ S ≤ n ∧ B ≤ m ∧ Tidy w) ∧ PenS s' p c ∧ Frp p s s' := by
  refine (writer_okA hx h hK hn hn2 hm hm2).mono ?_
  rintro v s' ⟨⟨w, S, B, e, a, b, c, t⟩, hp, f⟩
  exact ⟨⟨w, S, B, e, a, b, c, t.1⟩, hp, f⟩
theorem writer_ok {K n m : Nat} (hx : HasW P x) (h : PenS s p c) (hK : K ≤ 4) (hn : 1 ≤ n) (hn2 : n ≤ 12) (hm : 1 ≤ m) (hm2 : m ≤ 3) :
    Ok (run P W (d + 8) x.writer [.loc p, .int K, .int n, .int m] s) fun v s' => (∃ w S B, v = w.pv ∧ WtOk K S B w ∧ S ≤ n ∧ B ≤ m) ∧ PenS s' p c ∧ Frp p s s' := by
  refine (writer_okT hx h hK hn hn2 hm hm2).mono ?_
  rintro v s' ⟨⟨w, S, B, e, a, b, c, _⟩, hp, f⟩
  exact ⟨⟨w, S, B, e, a, b, c⟩, hp, f⟩
/-- a drawn word -/
theorem word_ok {K m : Nat} (hx : HasW P x) (h : PenS s p c) (hK : 1 ≤ K) (hK2 : K ≤ 100) (hm : m ≤ 1000) :
    Ok (run P W (d + 3) x.word [.loc p, .int K, .int m] s) fun v s' => (∃ ks, v = wdPV ks ∧ ks.length ≤ m ∧ ∀ k ∈ ks, k < K) ∧ PenS s' p c ∧ Frp p s s' := by
  refine ok_run hx.hWd rfl fun b hb => ?_
  simp_arith only [hb, GL_word]
  refine (drawW hx.toHasP h (by omega) (by omega)).mono ?_
  intro v s1 hh
  obtain ⟨⟨n, ev, hn⟩, hp1, f1⟩ := hh
  subst ev
  rw [x_rngN (rngB n (by omega)).1 (rngB n (by omega)).2, Int.toNat_natCast]
  refine ok_lc (I := fun k acc s' => ∃ ks, acc = (natI ks).map PV.int ∧ ks.length = k ∧ (∀ k ∈ ks, k < K) ∧ PenS s' p c ∧ Frp p s s') ?_ ?_ _ 0 _ _ (Nat.zero_le _) (by show _ < 0 + ((upto 0 n).length + 1); omega) ⟨[], rfl, rfl, by simp, hp1, f1⟩
  · rintro k y acc s' hy ⟨ks, rfl, kl, kok, hp, fr⟩
    obtain ⟨hk, rfl⟩ := uptoG _ _ _ _ hy
    refine ⟨_, setT_nm, ?_⟩
    simp_arith only [GL_word_e1]
    refine (drawW hx.toHasP hp (by omega) (by omega)).mono ?_
    rintro v s3 ⟨⟨q, rfl, hq⟩, hp3, f3⟩
    unfold accM
    rw [if_pos (by rw [List.length_map, natI_len]; omega)]
    refine ⟨ks ++ [q], by simp [natI], by simp [kl], ?_, hp3, fr.trans f3⟩
    intro k' hk'
    rcases List.mem_append.mp hk' with z | z
    · exact kok k' z
    · rw [List.mem_singleton.mp z]; omega
  · intro acc s' hI
    obtain ⟨ks, ea, kl, kok, hp, fr⟩ := hI
    rw [uptoL] at kl
    rw [ea, x_tupC (by rw [List.length_map, natI_len]; omega)]
    exact ⟨⟨ks, rfl, by omega, kok⟩, hp.drop h.lt h.ltc, fr.drop⟩
end
end Dp


set_option Elab.async false
set_option linter.all false
set_option maxRecDepth 100000
set_option maxHeartbeats 4000000
set_option autoImplicit false
/-! Wr6: all words of a few kinds; the pen; reading a writer's parts. -/
namespace Dp
section
variable {P : Nat → Option IFn} {x : Ix} {W d p c i : Nat} {s : Sto}
theorem pow4 {k m : Nat} (h : k ≤ 3) : 4 ^ k ≤ 64 := by
  have : k = 0 ∨ k = 1 ∨ k = 2 ∨ k = 3 := by omega
  rcases this with rfl | rfl | rfl | rfl <;> decide
theorem wd_snoc (w : List Nat) (j : Nat) : PV.tup ((natI w).map PV.int ++ [.int j]) = wdPV (w ++ [j]) := by
  unfold wdPV natI
  rw [List.map_append, List.map_append]; rfl
theorem bnd_liv {l : Nat} {xs : List PV} {s : Sto} (h : s.lstAt l = some xs) : (Itr.liv l).bnd s = xs.length := by
  show (match s.lstAt l with | some xs => xs.length | none => 0) = _
  rw [h]
/-- one word's successors -/
theorem wds_b1 {K lo : Nat} {ws : List (List Nat)} {w : List Nat} {e1 e2 e3 e4 e7 : Option PV} {b : ISs} {F : FT} (hb : b = GL_words_b1) (hK : K ≤ 4) (gl : s.get lo = some (.lst (ws.map wdPV))) (ll : lo < s.nxt) (wl : w.length ≤ 100) (wsl : ws.length ≤ 100000) :
    Ok (evSs F W b [some (.int K), e1, e2, e3, e4, some (.loc lo), some (wdPV w), e7] s) fun o s' => ∃ lo' e7, o = .nx [some (.int K), e1, e2, e3, e4, some (.loc lo'), some (wdPV w), e7] ∧ s'.get lo' = some (.lst ((ws ++ (List.range K).map fun j => w ++ [j]).map wdPV)) ∧ s.nxt ≤ lo' ∧ lo' < s'.nxt ∧ Fr0 s s' := by
  simp_arith only [hb, GL_words_b1]
  rw [x_rngN (rngB K (by omega)).1 (rngB K (by omega)).2, Int.toNat_natCast]
  refine ok_lc (I := fun k acc s' => s' = s ∧ acc = (((List.range K).map fun j => w ++ [j]).map wdPV).take k) ?_ ?_ _ 0 _ _ (Nat.zero_le _) (by show _ < 0 + ((upto 0 K).length + 1); omega) ⟨rfl, rfl⟩
  · rintro k y acc s' hy ⟨rfl, rfl⟩
    obtain ⟨hk, rfl⟩ := uptoG _ _ _ _ hy
    refine ⟨_, setT_nm, ?_⟩
    rw [show (0 + (k : Int)) = (k : Int) by omega]
    simp_arith only [GL_words_e1, wdPV]
    rw [x_tup (by simp), x_addT, if_pos (by rw [List.length_append, List.length_map, natI_len]; simp; omega), wd_snoc, x_acc (by rw [List.length_take]; simp; omega)]
    refine ⟨rfl, ?_⟩
    rw [List.take_add_one, List.getElem?_map, List.getElem?_map, List.getElem?_range hk]
    rfl
  · intro acc s' hI
    obtain ⟨es, ea⟩ := hI
    rw [es, ea, uptoL, List.take_of_length_le (by simp)]
    clear es ea
    rw [x_newL (by simp; omega)]
    have f1 := Fr0.new s (.lst (((List.range K).map fun j => w ++ [j]).map wdPV))
    try simp_arith only [ok_ok]
    rw [x_addL (f1.get gl ll) get_new', x_newL (by simp; omega)]
    have f2 := Fr0.new (s.new (.lst (((List.range K).map fun j => w ++ [j]).map wdPV))) (.lst (ws.map wdPV ++ ((List.range K).map fun j => w ++ [j]).map wdPV))
    refine ⟨_, _, rfl, ?_, ?_, Nat.lt_succ_self _, f1.trans f2⟩
    · rw [List.map_append]; exact get_new'
    · rw [nxt_new]; omega
theorem wds_b2 {K k m le lf : Nat} {ws fs : List (List Nat)} {e4 e5 e6 e7 : Option PV} {b : ISs} {F : FT} (hb : b = GL_words_b2) (hK : K ≤ 4) (gl : s.get le = some (.lst (ws.map wdPV))) (ll : le < s.nxt) (gf : s.get lf = some (.lst (fs.map wdPV))) (lf1 : lf < s.nxt) (hk : k ≤ 2) (wl : ∀ w ∈ ws, w.length = k ∧ ∀ j ∈ w, j < K) (wn : ws.length ≤ 4 ^ k) (fn : fs.length ≤ 4 ^ (k + 1)) (fo : ∀ w ∈ fs, w.length ≤ k ∧ ∀ j ∈ w, j < K) :
    Ok (evSs F W b [some (.int K), some (.int m), some (.loc le), some (.loc lf), e4, e5, e6, e7] s) fun o s' => ∃ (le' lf' : Nat) (e5 e6 e7 : Option PV) (ws' fs' : List (List Nat)), o = .nx [some (.int K), some (.int m), some (.loc le'), some (.loc lf'), e4, e5, e6, e7] ∧ s'.get le' = some (.lst (ws'.map wdPV)) ∧ s'.get lf' = some (.lst (fs'.map wdPV)) ∧ s.nxt ≤ lf' ∧ lf' < s'.nxt ∧ le' < s'.nxt ∧ (∀ w ∈ ws', w.length = k + 1 ∧ ∀ j ∈ w, j < K) ∧ ws'.length ≤ 4 ^ (k + 1) ∧ fs'.length ≤ 4 ^ (k + 2) ∧ (∀ w ∈ fs', w.length ≤ k + 1 ∧ ∀ j ∈ w, j < K) ∧ Fr0 s s' := by
  have p1 := pow4 (m := m) (show k ≤ 3 by omega)
  have p2 := pow4 (m := m) (show k + 1 ≤ 3 by omega)
  have q1 : 4 ^ (k + 1) = 4 * 4 ^ k := by rw [Nat.pow_succ]; omega
  have q2 : 4 ^ (k + 2) = 4 * 4 ^ (k + 1) := by rw [Nat.pow_succ]; omega
  simp_arith only [hb, GL_words_b2]
  rw [x_newL (by simp)]
  have f0 := Fr0.new s (.lst [])
  have g0 : (s.new (.lst [])).get s.nxt = some (.lst (([] : List (List Nat)).map wdPV)) := get_new'
  have n0 : s.nxt < (s.new (.lst [])).nxt := Nat.lt_succ_self _
  have gl0 := f0.get gl ll
  have gf0 := f0.get gf lf1
  generalize s.new (.lst []) = s0 at f0 g0 n0 gl0 gf0
  rw [x_itL (lst_at gl0)]
  rw [bnd_liv (lst_at gl0)]
  refine ok_forJ (xs := ws.map wdPV) (I := fun t env s' => ∃ lo e6 e7, env = [some (.int K), some (.int m), some (.loc le), some (.loc lf), e4, some (.loc lo), e6, e7] ∧ t ≤ ws.length ∧ (∃ us : List (List Nat), s'.get lo = some (.lst (us.map wdPV)) ∧ us.length = K * t ∧ ∀ w ∈ us, w.length = k + 1 ∧ ∀ j ∈ w, j < K) ∧ s.nxt ≤ lo ∧ lo < s'.nxt ∧ Fr0 s s' ∧ s'.get le = some (.lst (ws.map wdPV))) ?_ ?_ ?_ _ 0 _ _ (Nat.zero_le _) (by omega) ⟨_, _, _, rfl, Nat.zero_le _, ⟨[], g0, by simp, by simp⟩, Nat.le_refl _, n0, f0, gl0⟩
  · rintro t env s' ⟨_, _, _, _, _, _, _, _, _, g⟩
    exact at_liv (lst_at g)
  · rintro t y env s' hy ⟨lo, e6, e7, rfl, ht, ⟨us, gu, ul, uo⟩, lo1, lo2, fr, g⟩
    rw [List.getElem?_map] at hy
    cases et : ws[t]? with
    | none => rw [et] at hy; cases hy
    | some w =>
      rw [et] at hy
      cases hy
      have hw := wl w (List.mem_of_getElem? et)
      have htl : t < ws.length := (List.getElem?_eq_some_iff.mp et).1
      refine ⟨_, setT_nm, ?_⟩
      simp_arith only [ok_ok]
      have ub : us.length ≤ 100000 := by rw [ul]; have : K * t ≤ 4 * 64 := Nat.mul_le_mul hK (by omega); omega
      refine (wds_b1 (b := GL_words_b1) rfl hK gu lo2 (by omega) ub).mono ?_
      rintro o s2 ⟨lo', e7', rfl, g2, l2, l3, f2⟩
      refine ⟨_, _, _, rfl, by omega, ⟨_, g2, by simp [ul, Nat.mul_add], ?_⟩, by have := fr.1; omega, l3, fr.trans f2, f2.get g (Nat.lt_of_lt_of_le ll fr.1)⟩
      intro w' hw'
      rcases List.mem_append.mp hw' with z | z
      · exact uo w' z
      · obtain ⟨j, hj, rfl⟩ := List.mem_map.mp z
        refine ⟨by simp [hw.1], fun j' hj' => ?_⟩
        rcases List.mem_append.mp hj' with z | z
        · exact hw.2 j' z
        · rw [List.mem_singleton.mp z]; exact List.mem_range.mp hj
  · rintro env s' ⟨lo, e6, e7, rfl, ht, ⟨us, gu, ul, uo⟩, lo1, lo2, fr, g⟩
    rw [List.length_map] at ul
    simp_arith only [ok_ok]
    have ub : us.length ≤ 4 ^ (k + 1) := by
      rw [ul, q1]
      exact Nat.mul_le_mul hK wn
    rw [x_addL (fr.get gf lf1) gu, x_newL (by rw [List.length_append, List.length_map, List.length_map]; omega)]
    have f2 := Fr0.new s' (.lst (fs.map wdPV ++ us.map wdPV))
    refine ⟨_, _, _, _, _, us, fs ++ us, rfl, f2.get gu lo2, by rw [List.map_append]; exact get_new', fr.1, Nat.lt_succ_self _, Nat.lt_succ_of_lt lo2, uo, ub, by rw [List.length_append]; omega, ?_, fr.trans f2⟩
    intro w hw
    rcases List.mem_append.mp hw with z | z
    · have := fo w z; exact ⟨by omega, this.2⟩
    · have := uo w z; exact ⟨by omega, this.2⟩
/-- all words of at most m kinds -/
theorem words_ok {K m : Nat} (hP : P i = some Gf_L_words) (hK : K ≤ 4) (hm : m ≤ 3) : Ok (run P W (d + 1) i [.int K, .int m] s) fun v s' => ∃ (l : Nat) (ws : List (List Nat)), v = .loc l ∧ s'.get l = some (.lst (ws.map wdPV)) ∧ s.nxt ≤ l ∧ l < s'.nxt ∧ ws.length ≤ 256 ∧ (∀ w ∈ ws, w.length ≤ m ∧ ∀ j ∈ w, j < K) ∧ Fr0 s s' := by
  refine ok_run hP rfl fun b hb => ?_
  simp_arith only [hb, GL_words]
  rw [x_tup (by simp), x_newL (by simp), x_tup (by simp), x_newL (by simp), x_tup (by simp)]
  simp_arith only [ok_ok]
  have f1 := Fr0.new s (.lst [.tup []])
  have f2 := Fr0.new (s.new (.lst [.tup []])) (.lst [.tup []])
  have g1 : (s.new (.lst [.tup []])).get s.nxt = some (.lst (([[]] : List (List Nat)).map wdPV)) := get_new'
  have g2 : ((s.new (.lst [.tup []])).new (.lst [.tup []])).get (s.new (.lst [.tup []])).nxt = some (.lst (([[]] : List (List Nat)).map wdPV)) := get_new'
  have n1 : s.nxt < (s.new (.lst [.tup []])).nxt := Nat.lt_succ_self _
  have n2 : (s.new (.lst [.tup []])).nxt < ((s.new (.lst [.tup []])).new (.lst [.tup []])).nxt := Nat.lt_succ_self _
  have g1' := f2.get g1 n1
  have f := f1.trans f2
  generalize (s.new (.lst [.tup []])).new (.lst [.tup []]) = s2 at f2 g2 n2 g1' f
  generalize hq : (s.new (.lst [.tup []])).nxt = q at n1 n2 g2
  rw [x_rngN (rngB m (by omega)).1 (rngB m (by omega)).2, Int.toNat_natCast]
  refine ok_for (I := fun k env s' => k ≤ m ∧ ∃ (le lf : Nat) (e4 e5 e6 e7 : Option PV) (ws fs : List (List Nat)), env = [some (.int K), some (.int m), some (.loc le), some (.loc lf), e4, e5, e6, e7] ∧ s'.get le = some (.lst (ws.map wdPV)) ∧ s'.get lf = some (.lst (fs.map wdPV)) ∧ s.nxt ≤ lf ∧ lf < s'.nxt ∧ le < s'.nxt ∧ (∀ w ∈ ws, w.length = k ∧ ∀ j ∈ w, j < K) ∧ ws.length ≤ 4 ^ k ∧ fs.length ≤ 4 ^ (k + 1) ∧ (∀ w ∈ fs, w.length ≤ k ∧ ∀ j ∈ w, j < K) ∧ Fr0 s s') ?_ ?_ _ 0 _ _ (Nat.zero_le _) (by show _ < 0 + ((upto 0 m).length + 1); omega) ⟨Nat.zero_le _, s.nxt, q, none, none, none, none, [[]], [[]], rfl, g1', g2, by omega, n2, by omega, by simp, by simp, by simp, by simp, f⟩
  · rintro k y env s' hy ⟨hk, le, lf, e4, e5, e6, e7, ws, fs, rfl, gl, gf, l1, l2, l3, wl, wn, fn, fo, fr⟩
    obtain ⟨hk2, rfl⟩ := uptoG _ _ _ _ hy
    refine ⟨_, setT_nm, ?_⟩
    simp_arith only [ok_ok]
    refine (wds_b2 (b := GL_words_b2) rfl hK gl l3 gf l2 (by omega) wl wn fn fo).mono ?_
    rintro o s2 ⟨le', lf', e5', e6', e7', ws', fs', rfl, a1, a2, a3, a4, a5, a6, a7, a8, a9, a10⟩
    exact ⟨by omega, le', lf', _, _, _, _, ws', fs', rfl, a1, a2, by have := fr.1; omega, a4, a5, a6, a7, a8, a9, fr.trans a10⟩
  · rintro env s' ⟨hk, le, lf, e4, e5, e6, e7, ws, fs, rfl, gl, gf, l1, l2, l3, wl, wn, fn, fo, fr⟩
    rw [uptoL] at fo fn
    simp_arith only [ok_ok]
    refine ⟨lf, fs, rfl, gf, l1, l2, ?_, fo, fr⟩
    have := pow4 (m := m) hm
    rw [Nat.pow_succ] at fn
    omega
/-- the pen made of a script -/
theorem pen_ok {ns : List Int} {q : Nat} (hP : P i = some Gf_L_pen) (hq : s.lstAt q = some (ns.map PV.int)) (hs : q < s.nxt) (hl : ns.length ≤ 63) : Ok (run P W (d + 1) i [.loc q] s) fun v s' => ∃ p c, v = .loc p ∧ PenS s' p c ∧ Fr0 s s' := by
  refine ok_run hP rfl fun b hb => ?_
  simp_arith only [hb, GL_pen]
  have hc : cut (ns.map PV.int) none (some 63) = (cut ns none (some 63)).map PV.int := by unfold cut; simp [List.map_take, List.map_drop]
  have hk : (cut ns none (some 63)).length ≤ ns.length := by
    unfold cut
    simp only [List.length_take, List.length_drop]
    omega
  rw [x_slL hq, hc]
  generalize cut ns none (some 63) = cs at hk
  rw [x_newL (by rw [List.length_map]; omega), x_liL (lst_at get_new'), x_newL (by rw [List.length_map]; omega), x_newL (by simp)]
  have f1 := Fr0.new s (.lst (cs.map PV.int))
  generalize s.new (.lst (cs.map PV.int)) = s1 at f1
  have f2 := Fr0.new s1 (.lst (cs.map PV.int))
  have g2 : (s1.new (.lst (cs.map PV.int))).get s1.nxt = some (.lst (cs.map PV.int)) := get_new'
  have n2 : s1.nxt < (s1.new (.lst (cs.map PV.int))).nxt := Nat.lt_succ_self _
  generalize hs2 : s1.new (.lst (cs.map PV.int)) = s2 at f2 g2 n2
  have f3 := Fr0.new s2 (.lst [.loc s1.nxt, .int 0, .int 0])
  refine ⟨_, _, rfl, ⟨cs, 0, 0, ⟨get_new', f3.get g2 n2, Nat.ne_of_gt n2, Nat.lt_succ_self _, Nat.lt_succ_of_lt n2⟩⟩, (f1.trans f2).trans f3⟩
end
end Dp


set_option Elab.async false
set_option linter.all false
set_option maxRecDepth 100000
set_option maxHeartbeats 4000000
set_option autoImplicit false
/-! Wr7: sizes of what is told; parts of recipes and writers read. -/
namespace Dp
/-- a plain value of so much depth and width -/
structure Sm (v : PV) (D M : Nat) : Prop where
  pl : pln v = true
  dp : dep v ≤ D
  sk : shK v = true
  sw : shW v ≤ M
theorem Sm.tell {v : PV} {D M : Nat} (h : Sm v D M) (h1 : D ≤ 60) (h2 : M ≤ 16777216) : Tell v := ⟨h.pl, Nat.le_trans h.dp h1, h.sk, Nat.le_trans h.sw h2⟩
theorem Sm.fit {v : PV} {D M : Nat} (h : Sm v D M) (h1 : D ≤ 60) : Fit v := ⟨h.pl, Nat.le_trans h.dp h1⟩
theorem Sm.mono {v : PV} {D M D' M' : Nat} (h : Sm v D M) (h1 : D ≤ D') (h2 : M ≤ M') : Sm v D' M' := ⟨h.pl, Nat.le_trans h.dp h1, h.sk, Nat.le_trans h.sw h2⟩
theorem Sm.non {D M : Nat} (h : 4 ≤ M) : Sm .non D M := ⟨rfl, Nat.zero_le _, rfl, h⟩
theorem log_lt {n k : Nat} (h : n < 2 ^ k) (hk : 0 < k) : n.log2 < k := by
  by_cases z : n = 0
  · subst z; simpa using hk
  · exact (Nat.log2_lt z).mpr h
theorem Sm.int {k D M : Nat} (h : k < 16) (h2 : 6 ≤ M) : Sm (.int k) D M := by
  have hl : (k : Int).natAbs.log2 < 4 := log_lt (by show k < 16; exact h) (by decide)
  refine ⟨rfl, Nat.zero_le _, ?_, ?_⟩
  · show decide (_ < 1920) = true
    exact decide_eq_true (by omega)
  · show (k : Int).natAbs.log2 + 3 ≤ M
    omega
theorem Sm.str {t : List Nat} {D M : Nat} (h : 10 * t.length + 2 ≤ M) : Sm (.str t) D M := ⟨rfl, Nat.zero_le _, rfl, h⟩
theorem sm_list {D M : Nat} : ∀ {xs : List PV}, (∀ x ∈ xs, Sm x D M) → plns xs = true ∧ deps xs ≤ D ∧ shKs xs = true ∧ shWs xs ≤ xs.length * (M + 2)
  | [], _ => ⟨rfl, Nat.zero_le _, rfl, Nat.zero_le _⟩
  | x :: xs, h => by
    obtain ⟨a, b, c, d⟩ := sm_list (xs := xs) fun y hy => h y (List.mem_cons_of_mem _ hy)
    have hx := h x List.mem_cons_self
    refine ⟨by rw [plns, hx.pl, a]; rfl, by rw [deps]; exact Nat.max_le.mpr ⟨hx.dp, b⟩, by rw [shKs, hx.sk, c]; rfl, ?_⟩
    rw [shWs, List.length_cons, Nat.succ_mul]
    have := hx.sw
    omega
theorem Sm.tup {xs : List PV} {D M n M' : Nat} (h : ∀ x ∈ xs, Sm x D M) (hl : xs.length ≤ n) (hm : n * (M + 2) + 3 ≤ M') : Sm (.tup xs) (D + 1) M' := by
  obtain ⟨a, b, c, d⟩ := sm_list h
  refine ⟨by rw [pln]; exact a, by rw [dep]; omega, by rw [shK]; exact c, ?_⟩
  rw [shW]
  have : xs.length * (M + 2) ≤ n * (M + 2) := Nat.mul_le_mul_right _ hl
  omega
theorem Sm.map {α : Type} {xs : List α} {g : α → PV} {D M n M' : Nat} (h : ∀ x ∈ xs, Sm (g x) D M) (hl : xs.length ≤ n) (hm : n * (M + 2) + 3 ≤ M') : Sm (.tup (xs.map g)) (D + 1) M' :=
  Sm.tup (fun y hy => by obtain ⟨x, hx, rfl⟩ := List.mem_map.mp hy; exact h x hx) (by rw [List.length_map]; exact hl) hm
theorem sm_wd {ks : List Nat} {n M : Nat} (h : ∀ k ∈ ks, k < 16) (hl : ks.length ≤ n) (hm : n * 8 + 3 ≤ M) : Sm (wdPV ks) 1 M := by
  unfold wdPV natI
  rw [List.map_map]
  exact Sm.map (M := 6) (fun k hk => Sm.int (h k hk) (Nat.le_refl _)) hl hm
theorem let1_le {r : Rc} : ∀ {y : Pt}, y ∈ r → let1 y ≤ lets r := by
  intro y hy
  obtain ⟨a, b, rfl⟩ := List.append_of_mem hy
  rw [lets_app]
  simp [lets]
  omega
theorem buf_mem {r : Rc} {b : Nat} (h : .bf b ∈ r) : b ∈ bufs r := List.mem_flatMap.mpr ⟨_, h, by simp [buf1]⟩
theorem sm_rc {B : Nat} {r : Rc} (h : RcOk B r) (hB : B ≤ 3) : Sm (rcPV r) 1 835 := by
  refine Sm.map (M := 102) (fun y hy => ?_) h.ln (by omega)
  cases y with
  | pc t =>
    have := let1_le hy
    have := h.le
    exact Sm.str (by simp only [let1] at *; omega)
  | bf b => exact Sm.int (by have := h.lt b (buf_mem hy); omega) (by omega)
theorem sm_fl {B : Nat} {fs : List Rc} (h : FillsOk B fs) (hB : B ≤ 3) : Sm (flPV fs) 2 2514 :=
  Sm.map (M := 835) (fun r hr => sm_rc (h.ok r hr) hB) (n := 3) (by rw [h.len]; exact hB) (by omega)
theorem sm_en {S B : Nat} {e : Option En} (h : EnOk S B e) (hS : S ≤ 12) (hB : B ≤ 3) : Sm (enPV e) 3 5100 := by
  cases e with
  | none => exact Sm.non (by omega)
  | some q =>
    obtain ⟨n, fs⟩ := q
    obtain ⟨h1, h2⟩ := h n fs rfl
    refine Sm.tup (D := 2) (M := 2514) (n := 2) (fun y hy => ?_) (by simp) (by omega)
    simp only [List.mem_cons, List.not_mem_nil, or_false] at hy
    rcases hy with rfl | rfl
    · exact Sm.int (by omega) (by omega)
    · exact sm_fl h2 hB
theorem sm_eo {B : Nat} {e : Option Rc} (h : EoOk B e) (hB : B ≤ 3) : Sm (eoPV e) 1 835 := by
  cases e with
  | none => exact Sm.non (by omega)
  | some r => exact sm_rc (h r rfl) hB
theorem sm_wt {K S B : Nat} {w : Wt} (h : WtOk K S B w) (hK : K ≤ 4) (hS : S ≤ 12) : Sm w.pv 6 740000 := by
  refine Sm.tup (D := 5) (M := 245000) (n := 3) (fun y hy => ?_) (by simp) (by omega)
  simp only [List.mem_cons, List.not_mem_nil, or_false] at hy
  rcases hy with rfl | rfl | rfl
  · exact (Sm.map (M := 22) (D := 0) (n := 3) (M' := 245000) (fun t ht => Sm.str (by have := (h.bt t ht).1; omega)) (by rw [h.bl]; exact h.b3) (by omega)).mono (by omega) (by omega)
  · refine Sm.map (M := 20411) (D := 4) (n := 12) (fun row hr => ?_) (by rw [h.rl]; exact hS) (by omega)
    obtain ⟨h1, h2⟩ := h.ro row hr
    exact Sm.map (M := 5100) (D := 3) (n := 4) (fun e he => sm_en (h2 e he) hS h.b3) (by rw [h1]; exact hK) (by omega)
  · exact (Sm.map (M := 835) (D := 1) (n := 12) (M' := 245000) (fun e he => sm_eo (h.eo e he) h.b3) (by rw [h.el]; exact hS) (by omega)).mono (by omega) (by omega)
/-! ### reading -/
theorem at_map {α : Type} {xs : List α} {g : α → PV} {k : Nat} {v : α} (h : xs[k]? = some v) : atIx (xs.map g) (k : Int) = some (g v) := at_nat (by rw [List.getElem?_map, h]; rfl)
theorem any_rc (b : Nat) : ∀ r : Rc, ((r.map Pt.pv).any fun z => peq z (.int b)) = decide (b ∈ bufs r)
  | [] => by simp [bufs]
  | .pc t :: r => by
    rw [List.map_cons, List.any_cons, any_rc b r]
    show (false || _) = _
    rw [Bool.false_or]
    simp [bufs, buf1]
  | .bf i :: r => by
    rw [List.map_cons, List.any_cons, any_rc b r]
    show ((i : Int) == (b : Int) || _) = _
    have : ((i : Int) == (b : Int)) = decide (b = i) := by
      by_cases e : b = i
      · subst e; simp
      · rw [decide_eq_false e]; simp; omega
    rw [this]
    simp [bufs, buf1]
section
variable {s : Sto} {B : Bool → Sto → Prop} {P : PV → Sto → Prop}
theorem x_inRc {r : Rc} {b : Nat} : Ok (cmpM .isin (.int b) (rcPV r) s) B = B (decide (b ∈ bufs r)) s := by
  show Ok (seekM anyEq (.int b) (r.map Pt.pv) s) B = _
  unfold seekM
  have e1 : snap s (.int b) = some (.int b) := rfl
  have e2 : snaps s (r.map Pt.pv) = some (r.map Pt.pv) := snaps_flat (flat_pts r)
  rw [e1, e2]
  simp only [deps_flat (flat_pts r), show dep (.int b) = 0 from rfl, Nat.zero_le, and_self, if_true, anyEq, any_rc]
  exact ok_ok
theorem natI_rep (n k : Nat) : rep n [PV.int k] = (natI (List.replicate n k)).map PV.int := by
  induction n with
  | zero => rfl
  | succ n ih => rw [rep, ih]; rfl
theorem x_mulL0 {l n k : Nat} (h : s.get l = some (.lst [.int k])) (hn : n ≤ 100000) : Ok (binM .mul (.loc l) (.int n) s) P = P (.loc s.nxt) (s.new (.lst ((natI (List.replicate n k)).map PV.int))) := by
  show Ok (match s.get l with
    | some (.lst x) => if 0 ≤ (n : Int) ∧ (n : Int) ≤ 16777216 ∧ x.length * (n : Int).toNat ≤ 16777216 then newLst (rep (n : Int).toNat x) s else .err
    | _ => .err) P = _
  rw [h]
  simp only [Int.toNat_natCast]
  rw [if_pos ⟨by omega, by omega, by simp; omega⟩, natI_rep, x_newL (by rw [List.length_map, natI_len, List.length_replicate]; omega)]
theorem natI_set (is : List Nat) (j n : Nat) : ((natI is).map PV.int).set j (.int n) = (natI (is.set j n)).map PV.int := by
  unfold natI
  rw [List.map_set, List.map_set]
theorem x_w0 {w : Wt} {Q : PV → Sto → Prop} : Ok (idxM w.pv (.int 0) s) Q = Q (.tup (w.begins.map PV.str)) s := x_idT rfl
theorem x_w1 {w : Wt} {Q : PV → Sto → Prop} : Ok (idxM w.pv (.int 1) s) Q = Q (.tup (w.rules.map rowPV)) s := x_idT rfl
theorem x_w2 {w : Wt} {Q : PV → Sto → Prop} : Ok (idxM w.pv (.int 2) s) Q = Q (.tup (w.ends.map eoPV)) s := x_idT rfl
/-- what an entry is -/
def Wt.en (w : Wt) (n k : Nat) : Option (Option En) := (w.rules[n]?).bind fun row => row[k]?
theorem Wt.en_ok {K S B0 : Nat} {w : Wt} (h : WtOk K S B0 w) {n k : Nat} (hn : n < S) (hk : k < K) : ∃ row e, w.rules[n]? = some row ∧ row[k]? = some e ∧ w.en n k = some e ∧ EnOk S B0 e := by
  have h1 : n < w.rules.length := by rw [h.rl]; exact hn
  have e1 := List.getElem?_eq_getElem h1
  obtain ⟨h2, h3⟩ := h.ro _ (List.mem_of_getElem? e1)
  have h4 : k < (w.rules[n]).length := by rw [h2]; exact hk
  have e2 := List.getElem?_eq_getElem h4
  exact ⟨_, _, e1, e2, by unfold Wt.en; rw [e1]; exact e2, h3 _ (List.mem_of_getElem? e2)⟩
theorem Wt.end_ok {K S B0 : Nat} {w : Wt} (h : WtOk K S B0 w) {n : Nat} (hn : n < S) : ∃ e, w.ends[n]? = some e ∧ EoOk B0 e := by
  have h1 : n < w.ends.length := by rw [h.el]; exact hn
  have e1 := List.getElem?_eq_getElem h1
  exact ⟨_, e1, h.eo _ (List.mem_of_getElem? e1)⟩
end
end Dp


set_option Elab.async false
set_option linter.all false
set_option maxRecDepth 100000
set_option autoImplicit false
/-! Gn02: the bodies of the defs of small writers and joined recipes (printed by mkgen.py). -/
namespace Dp
def Gpieces_of_e1 : IE := (.var 1)
def Gpieces_of_t1 : IE := (.bi (.isinst 0) (.cons (.var 1) .nil))
/-- pieces_of(recipe): ; 2 slots: 0 recipe 1 part; keep True -/
def Gpieces_of : ISs := (.cons (.ret (.lc (.one [1] Gpieces_of_e1 (.nm 1) (.ex (.var 0)) (.some Gpieces_of_t1)))) .nil)
def Gf_pieces_of : IFn := ⟨1, 2, true, Gpieces_of⟩
def Gletters_in_e1 (i_pieces_of : Nat) : IE := (.bi .len (.cons (.var 2) .nil))
/-- letters_in(recipes): pieces_of; 3 slots: 0 recipes 1 recipe 2 piece; keep False -/
def Gletters_in (i_pieces_of : Nat) : ISs := (.cons (.ret (.biC .sum (.two [1, 2] [2] (Gletters_in_e1 i_pieces_of) (.nm 1) (.ex (.var 0)) .none (.nm 2) (.ex (.call i_pieces_of (.cons (.var 1) .nil))) .none))) .nil)
def Gf_letters_in (i_pieces_of : Nat) : IFn := ⟨1, 3, false, Gletters_in i_pieces_of⟩
def Gjoined_b1 : ISs := (.cons (.ife (.and (.bi (.isinst 0) (.cons (.var 3) .nil)) (.and (.cmp .ne (.var 1) (.tup .nil)) (.bi (.isinst 0) (.cons (.idx (.var 1) (.neg (.cst (.int 1)))) .nil)))) (.cons (.asg (.nm 1) (.bin .add (.sl (.var 1) .none (.some (.neg (.cst (.int 1))))) (.tup (.cons (.bin .add (.idx (.var 1) (.neg (.cst (.int 1)))) (.var 3)) .nil)))) .nil) (.cons (.asg (.nm 1) (.bin .add (.var 1) (.tup (.cons (.var 3) .nil)))) .nil)) .nil)
def Gjoined_b2 : ISs := (.cons (.for (.nm 3) (.ex (.var 2)) Gjoined_b1) .nil)
/-- joined(recipes): ; 4 slots: 0 recipes 1 found 2 recipe 3 part; keep False -/
def Gjoined : ISs := (.cons (.asg (.nm 1) (.tup .nil)) (.cons (.for (.nm 2) (.ex (.var 0)) Gjoined_b2) (.cons (.ret (.var 1)) .nil)))
def Gf_joined : IFn := ⟨1, 4, false, Gjoined⟩
/-- _law_at(rows, place, thing): ; 3 slots: 0 rows 1 place 2 thing; keep False -/
def GL_at : ISs := (.cons (.ret (.bin .add (.bin .add (.sl (.var 0) .none (.some (.var 1))) (.tup (.cons (.var 2) .nil))) (.sl (.var 0) (.some (.bin .add (.var 1) (.cst (.int 1)))) .none))) .nil)
def Gf_L_at : IFn := ⟨3, 3, false, GL_at⟩
def GL_letters_e1 : IE := (.bi .len (.cons (.var 3) .nil))
def GL_letters_t1 : IE := (.bi (.isinst 0) (.cons (.var 3) .nil))
def GL_letters_b1 : ISs := (.cons (.asg (.nm 1) (.bin .add (.var 1) (.biC .sum (.one [3] GL_letters_e1 (.nm 3) (.ex (.var 2)) (.some GL_letters_t1))))) .nil)
/-- _law_letters(rows): ; 4 slots: 0 rows 1 found 2 recipe 3 part; keep False -/
def GL_letters : ISs := (.cons (.asg (.nm 1) (.cst (.int 0))) (.cons (.for (.nm 2) (.ex (.var 0)) GL_letters_b1) (.cons (.ret (.var 1)) .nil)))
def Gf_L_letters : IFn := ⟨1, 4, false, GL_letters⟩
def GL_small_e1 (i_letters : Nat) : IE := (.var 7)
def GL_small_t1 (i_letters : Nat) : IE := (.and (.cmp .notN (.var 7) (.cst .non)) (.cmp .gt (.call i_letters (.cons (.lst (.cons (.var 7) .nil)) .nil)) (.cst (.int 24))))
def GL_small_e2 (i_letters : Nat) : IE := (.var 6)
def GL_small_t2 (i_letters : Nat) : IE := (.and (.cmp .notN (.var 6) (.cst .non)) (.cmp .gt (.call i_letters (.cons (.idx (.var 6) (.cst (.int 1))) .nil)) (.cst (.int 24))))
def GL_small_b1 (i_letters : Nat) : ISs := (.cons (.ife (.cmp .ne (.lc (.one [6] (GL_small_e2 i_letters) (.nm 6) (.ex (.var 4)) (.some (GL_small_t2 i_letters)))) (.lst .nil)) (.cons (.ret (.cst (.bl false))) .nil) .nil) .nil)
def GL_small_e3 (i_letters : Nat) : IE := (.bi .len (.cons (.var 5) .nil))
/-- _law_small(writer): _law_letters; 8 slots: 0 writer 1 begins 2 rules 3 ends 4 row 5 text 6 entry 7 end; keep False -/
def GL_small (i_letters : Nat) : ISs := (.cons (.asg (.tp (.cons (.nm 1) (.cons (.nm 2) (.cons (.nm 3) .nil)))) (.var 0)) (.cons (.ife (.or (.cmp .gt (.bi .len (.cons (.var 2) .nil)) (.cst (.int 4))) (.or (.cmp .gt (.bi .len (.cons (.idx (.var 2) (.cst (.int 0))) .nil)) (.cst (.int 3))) (.or (.cmp .gt (.bi .len (.cons (.var 1) .nil)) (.cst (.int 2))) (.cmp .gt (.biC .maxL (.one [5] (GL_small_e3 i_letters) (.nm 5) (.ex (.var 1)) .none)) (.cst (.int 24)))))) (.cons (.ret (.cst (.bl false))) .nil) .nil) (.cons (.for (.nm 4) (.ex (.var 2)) (GL_small_b1 i_letters)) (.cons (.ret (.cmp .eq (.lc (.one [7] (GL_small_e1 i_letters) (.nm 7) (.ex (.var 3)) (.some (GL_small_t1 i_letters)))) (.lst .nil))) .nil))))
def Gf_L_small (i_letters : Nat) : IFn := ⟨1, 8, false, GL_small i_letters⟩
def g_SMALL_STATES : PV := .int 4
def g_SMALL_KINDS : PV := .int 3
def g_SMALL_BUFFERS : PV := .int 2
def g_SMALL_LETTERS : PV := .int 24
/-- kinds_of(writer): ; 1 slots: 0 writer; keep False -/
def Jkinds_of : ISs := (.cons (.ret (.bi .len (.cons (.idx (.idx (.var 0) (.cst (.int 1))) (.cst (.int 0))) .nil))) .nil)
def Jf_kinds_of : IFn := ⟨1, 1, false, Jkinds_of⟩
def Jis_small_e1 (i_kinds_of i_letters_in : Nat) : IE := (.cmp .gt (.call i_letters_in (.cons (.tup (.cons (.var 10) .nil)) .nil)) (.glob 0 g_SMALL_LETTERS))
def Jis_small_t1 (i_kinds_of i_letters_in : Nat) : IE := (.cmp .notN (.var 10) (.cst .non))
def Jis_small_e2 (i_kinds_of i_letters_in : Nat) : IE := (.cmp .gt (.call i_letters_in (.cons (.var 9) .nil)) (.glob 0 g_SMALL_LETTERS))
def Jis_small_e3 (i_kinds_of i_letters_in : Nat) : IE := (.var 7)
def Jis_small_t2 (i_kinds_of i_letters_in : Nat) : IE := (.cmp .notN (.var 7) (.cst .non))
def Jis_small_e4 (i_kinds_of i_letters_in : Nat) : IE := (.cmp .gt (.bi .len (.cons (.var 5) .nil)) (.glob 0 g_SMALL_LETTERS))
/-- is_small(writer): kinds_of, letters_in; 11 slots: 0 writer 1 begins 2 rules 3 ends 4 entries 5 text 6 row 7 entry 8 state 9 fills 10 end; keep False -/
def Jis_small (i_kinds_of i_letters_in : Nat) : ISs := (.cons (.asg (.tp (.cons (.nm 1) (.cons (.nm 2) (.cons (.nm 3) .nil)))) (.var 0)) (.cons (.ife (.or (.cmp .gt (.bi .len (.cons (.var 2) .nil)) (.glob 0 g_SMALL_STATES)) (.or (.cmp .gt (.call i_kinds_of (.cons (.var 0) .nil)) (.glob 0 g_SMALL_KINDS)) (.cmp .gt (.bi .len (.cons (.var 1) .nil)) (.glob 0 g_SMALL_BUFFERS)))) (.cons (.ret (.cst (.bl false))) .nil) .nil) (.cons (.ife (.biC .any (.one [5] (Jis_small_e4 i_kinds_of i_letters_in) (.nm 5) (.ex (.var 1)) .none)) (.cons (.ret (.cst (.bl false))) .nil) .nil) (.cons (.asg (.nm 4) (.lc (.two [6, 7] [7] (Jis_small_e3 i_kinds_of i_letters_in) (.nm 6) (.ex (.var 2)) .none (.nm 7) (.ex (.var 6)) (.some (Jis_small_t2 i_kinds_of i_letters_in))))) (.cons (.ife (.biC .any (.one [8, 9] (Jis_small_e2 i_kinds_of i_letters_in) (.tp (.cons (.nm 8) (.cons (.nm 9) .nil))) (.ex (.var 4)) .none)) (.cons (.ret (.cst (.bl false))) .nil) .nil) (.cons (.ret (.not (.biC .any (.one [10] (Jis_small_e1 i_kinds_of i_letters_in) (.nm 10) (.ex (.var 3)) (.some (Jis_small_t1 i_kinds_of i_letters_in)))))) .nil))))))
def Jf_is_small (i_kinds_of i_letters_in : Nat) : IFn := ⟨1, 11, false, Jis_small i_kinds_of i_letters_in⟩
end Dp


set_option Elab.async false
set_option linter.all false
set_option maxRecDepth 100000
set_option maxHeartbeats 4000000
set_option autoImplicit false
/-! DpWp4: dicts with tuples as keys, as steps; lists against the empty one. -/
namespace Dp
section
variable {P : PV → Sto → Prop} {B : Bool → Sto → Prop} {U : Unit → Sto → Prop} {s : Sto} {l : Nat} {kvs : List (List Kf × PV)} {k x v : PV} {q : List Kf}
theorem x_tnew : Ok (tnew s) P = P (.loc s.nxt) (s.new (.dit [])) := ok_ok
theorem tkvs_eq (h : s.get l = some (.dit kvs)) : tkvs (.loc l) s = .ok kvs s := by
  show (match s.get l with | some (.dit kvs) => R.ok kvs s | _ => .err) = _
  rw [h]
theorem x_tkvs {Q : List (List Kf × PV) → Sto → Prop} (h : s.get l = some (.dit kvs)) : Ok (tkvs (.loc l) s) Q = Q kvs s := by rw [tkvs_eq h]; exact ok_ok
theorem x_tchk (h : s.get l = some (.dit kvs)) : Ok (tchk (.loc l) s) U = U () s := by
  unfold tchk
  rw [ok_bind, x_tkvs h]
  exact ok_ok
theorem x_tgetd (h : s.get l = some (.dit kvs)) (hk : keyT k = some q) : Ok (tgetdM (.loc l) k x s) P = P ((tfind q kvs).getD x) s := by
  unfold tgetdM
  rw [ok_bind, x_tkvs h, hk]
  exact ok_ok
theorem x_tok (h : hokT kvs = true) (hl : kvs.length ≤ 100000) : Ok (tokM kvs s) U = U () s := by
  unfold tokM
  rw [if_pos ⟨h, hl⟩]
  exact ok_ok
theorem x_tmk (hk : keyT k = some q) : Ok (tmk kvs k v s) P = P (.loc s.nxt) (s.new (.dit (tstore q v kvs))) := by
  unfold tmk
  rw [hk]
  exact ok_ok
theorem x_tput (h : s.get l = some (.dit kvs)) (hk : keyT k = some q) (hl : kvs.length ≤ 100000) : Ok (tputM (.loc l) k v s) U = U () (s.set l (.dit (tstore q v kvs))) := by
  unfold tputM
  rw [ok_bind, x_tkvs h, hk]
  show Ok (if kvs.length ≤ 100000 then R.ok () (s.set l (.dit (tstore q v kvs))) else .err) U = _
  rw [if_pos hl]
  exact ok_ok
/-! what stands at a key -/
theorem tfind_any (k : List Kf) : ∀ kvs : List (List Kf × PV), (kvs.any fun p => decide (p.1 = k)) = (tfind k kvs).isSome
  | [] => rfl
  | (j, v) :: r => by
    rw [List.any_cons, tfind, tfind_any k r]
    by_cases h : j = k
    · rw [if_pos h, decide_eq_true h]; rfl
    · rw [if_neg h, decide_eq_false h]; rfl
theorem tfind_map (k q : List Kf) (v : PV) : ∀ kvs : List (List Kf × PV), tfind q (kvs.map fun p => if p.1 = k then (p.1, v) else p) = if q = k ∧ (tfind k kvs).isSome = true then some v else tfind q kvs
  | [] => by simp [tfind]
  | (j, w) :: r => by
    rw [List.map_cons]
    by_cases hj : j = k
    · rw [if_pos (show (j, w).1 = k from hj), tfind, tfind, tfind, if_pos hj]
      by_cases hq : j = q
      · rw [if_pos hq, if_pos ⟨by rw [← hq, hj], rfl⟩]
      · rw [if_neg hq, if_neg hq, if_neg (fun z => hq (by rw [hj, z.1])), tfind_map k q v r, if_neg (fun z => hq (by rw [hj, z.1]))]
    · rw [if_neg (show ¬ (j, w).1 = k from hj), tfind, tfind, tfind, if_neg hj]
      by_cases hq : j = q
      · rw [if_pos hq, if_pos hq, if_neg (fun z => hj (by rw [hq, z.1]))]
      · rw [if_neg hq, if_neg hq, tfind_map k q v r]
theorem tfind_app (q : List Kf) (k : List Kf) (v : PV) : ∀ kvs : List (List Kf × PV), tfind q (kvs ++ [(k, v)]) = (match tfind q kvs with | some w => some w | none => if k = q then some v else none)
  | [] => by
    show (if k = q then some v else none) = _
    rfl
  | (j, w) :: r => by
    rw [List.cons_append, tfind, tfind]
    by_cases h : j = q
    · rw [if_pos h, if_pos h]
    · rw [if_neg h, if_neg h, tfind_app q k v r]
theorem tfind_store (q k : List Kf) (v : PV) (kvs : List (List Kf × PV)) : tfind q (tstore k v kvs) = if k = q then some v else tfind q kvs := by
  unfold tstore
  rw [tfind_any]
  by_cases h : (tfind k kvs).isSome = true
  · rw [if_pos h, tfind_map]
    by_cases e : k = q
    · rw [if_pos e, if_pos ⟨e.symm, h⟩]
    · rw [if_neg e, if_neg fun z => e z.1.symm]
  · rw [if_neg h, tfind_app]
    by_cases e : k = q
    · subst e
      rw [if_pos rfl]
      cases h2 : tfind k kvs with
      | none => simp
      | some w => rw [h2] at h; exact absurd rfl h
    · rw [if_neg e]
      cases tfind q kvs <;> simp [e]
theorem tstore_keys (k : List Kf) (v : PV) (kvs : List (List Kf × PV)) : (tstore k v kvs).map (·.1) = if (tfind k kvs).isSome = true then kvs.map (·.1) else kvs.map (·.1) ++ [k] := by
  unfold tstore
  rw [tfind_any]
  by_cases h : (tfind k kvs).isSome = true
  · rw [if_pos h, if_pos h, List.map_map]
    refine List.map_congr_left fun p _ => ?_
    show (if p.1 = k then (p.1, v) else p).1 = p.1
    split <;> rfl
  · rw [if_neg h, if_neg h, List.map_append]
    rfl
theorem tfind_mem {k : List Kf} : ∀ {kvs : List (List Kf × PV)}, k ∈ kvs.map (·.1) → (tfind k kvs).isSome = true
  | (j, w) :: r, h => by
    rw [tfind]
    by_cases e : j = k
    · rw [if_pos e]; rfl
    · rw [if_neg e]
      exact tfind_mem ((List.mem_cons.mp h).resolve_left fun z => e z.symm)
/-- the keys of a dict: each once, all of a list of keys -/
structure KeysIn (bx : List (List Kf)) (kvs : List (List Kf × PV)) : Prop where
  nd : (kvs.map (·.1)).Nodup
  sub : ∀ k ∈ kvs.map (·.1), k ∈ bx
theorem KeysIn.nil (bx : List (List Kf)) : KeysIn bx [] := ⟨List.nodup_nil, fun k h => (nomatch h)⟩
theorem KeysIn.store {bx : List (List Kf)} (h : KeysIn bx kvs) (hq : q ∈ bx) (v : PV) : KeysIn bx (tstore q v kvs) := by
  refine ⟨?_, ?_⟩
  · rw [tstore_keys]
    split
    · exact h.nd
    · rename_i hn
      rw [List.nodup_append]
      refine ⟨h.nd, by simp, fun a ha b hb e => ?_⟩
      rw [List.mem_singleton.mp hb] at e
      subst e
      exact hn (tfind_mem ha)
  · rw [tstore_keys]
    split
    · exact h.sub
    · intro k hk
      rcases List.mem_append.mp hk with z | z
      · exact h.sub k z
      · rw [List.mem_singleton.mp z]; exact hq
theorem nodup_len {α : Type} [BEq α] [LawfulBEq α] : ∀ {l m : List α}, l.Nodup → (∀ x ∈ l, x ∈ m) → l.length ≤ m.length
  | [], _, _, _ => Nat.zero_le _
  | x :: l, m, hn, hs => by
    obtain ⟨h1, h2⟩ := List.nodup_cons.mp hn
    have := nodup_len (l := l) (m := m.erase x) h2 fun y hy => (List.mem_erase_of_ne (fun (z : y = x) => h1 (z ▸ hy))).mpr (hs y (List.mem_cons_of_mem _ hy))
    rw [List.length_erase_of_mem (hs x List.mem_cons_self)] at this
    have := List.length_pos_of_mem (hs x List.mem_cons_self)
    rw [List.length_cons]
    omega
theorem nodup_inj {α β : Type} [BEq α] [LawfulBEq α] {g : α → β} : ∀ {m : List α}, (m.map g).Nodup → ∀ {x y : α}, x ∈ m → y ∈ m → g x = g y → x = y
  | [], _, _, _, h, _, _ => nomatch h
  | a :: m, hn, x, y, hx, hy, e => by
    rw [List.map_cons] at hn
    obtain ⟨h1, h2⟩ := List.nodup_cons.mp hn
    rcases List.mem_cons.mp hx with ex | hx2
    · rcases List.mem_cons.mp hy with ey | hy2
      · rw [ex, ey]
      · have : g y ∈ m.map g := List.mem_map_of_mem hy2
        rw [← e, ex] at this
        exact absurd this h1
    · rcases List.mem_cons.mp hy with ey | hy2
      · have : g x ∈ m.map g := List.mem_map_of_mem hx2
        rw [e, ey] at this
        exact absurd this h1
      · exact nodup_inj h2 hx2 hy2 e
theorem KeysIn.len {bx : List (List Kf)} (h : KeysIn bx kvs) : kvs.length ≤ bx.length := by
  have := nodup_len h.nd h.sub
  rwa [List.length_map] at this
theorem KeysIn.hok {bx : List (List Kf)} (h : KeysIn bx kvs) (hb : (bx.map hashK).Nodup) : hokT kvs = true := by
  unfold hokT
  refine decide_eq_true ?_
  have e : (kvs.map fun p => hashK p.1) = (kvs.map (·.1)).map hashK := by rw [List.map_map]; rfl
  rw [e]
  have key : ∀ l : List (List Kf), l.Nodup → (∀ k ∈ l, k ∈ bx) → (l.map hashK).Nodup := by
    intro l
    induction l with
    | nil => intro _ _; exact List.nodup_nil
    | cons a l ih =>
      intro hn hs
      obtain ⟨h1, h2⟩ := List.nodup_cons.mp hn
      rw [List.map_cons]
      refine List.nodup_cons.mpr ⟨fun hm => ?_, ih h2 fun k hk => hs k (List.mem_cons_of_mem _ hk)⟩
      obtain ⟨b, hb2, eb⟩ := List.mem_map.mp hm
      have := nodup_inj hb (hs b (List.mem_cons_of_mem _ hb2)) (hs a List.mem_cons_self) eb
      exact h1 (this ▸ hb2)
  exact key _ h.nd h.sub
/-! lists against the empty one -/
theorem snap_list {l : Nat} {xs : List PV} {n : Nat} (h : s.get l = some (.lst xs)) (hp : plns xs = true) : snapL s (n + 1) l = some (.lv xs) := by
  show (match s.lstAt l with
    | some xs => (match snapsW (snapL s n) xs with | some ys => some (PV.lv ys) | none => none)
    | none => none) = _
  rw [lst_at h]
  simp only [snaps_pln xs hp]
theorem deps_le {m : Nat} : ∀ {xs : List PV}, (∀ x ∈ xs, dep x ≤ m) → deps xs ≤ m
  | [], _ => Nat.zero_le _
  | x :: xs, h => by
    rw [deps]
    exact Nat.max_le.mpr ⟨h x List.mem_cons_self, deps_le fun y hy => h y (List.mem_cons_of_mem _ hy)⟩
theorem plns_all : ∀ {xs : List PV}, (∀ x ∈ xs, pln x = true) → plns xs = true
  | [], _ => rfl
  | x :: xs, h => by
    rw [plns, h x List.mem_cons_self, plns_all fun y hy => h y (List.mem_cons_of_mem _ hy)]
    rfl
theorem eq_empty {l j : Nat} {xs : List PV} (h : s.get l = some (.lst xs)) (hj : s.get j = some (.lst [])) (hx : ∀ x ∈ xs, pln x = true ∧ dep x ≤ 50) : eqM (.loc l) (.loc j) s = .ok xs.isEmpty s := by
  have hp := plns_all fun x hx' => (hx x hx').1
  have hd := deps_le fun x hx' => (hx x hx').2
  have e1 : snap s (.loc l) = some (.lv xs) := snap_list (n := 7) h hp
  have e2 : snap s (.loc j) = some (.lv []) := snap_list (n := 7) hj rfl
  show (match snap s (.loc l), snap s (.loc j) with
    | some x, some y => if dep x ≤ 60 ∧ dep y ≤ 60 then R.ok (peq x y) s else .err
    | _, _ => .err) = _
  rw [e1, e2]
  have d1 : dep (PV.lv xs) ≤ 60 := by rw [dep]; omega
  have d2 : dep (PV.lv []) ≤ 60 := by rw [dep, deps]; omega
  simp only [d1, d2, and_self, if_true]
  cases xs with
  | nil => rfl
  | cons x xs => rfl
theorem x_neE {l j : Nat} {xs : List PV} (h : s.get l = some (.lst xs)) (hj : s.get j = some (.lst [])) (hx : ∀ x ∈ xs, pln x = true ∧ dep x ≤ 50) : Ok (cmpM .ne (.loc l) (.loc j) s) B = B (!xs.isEmpty) s := by
  show Ok (M.bind (eqM (.loc l) (.loc j)) (fun r => M.pure (!r)) s) B = _
  rw [ok_bind, eq_empty h hj hx]
  first | exact ok_ok | exact ok_ok.trans ok_ok
theorem x_eqE {l j : Nat} {xs : List PV} (h : s.get l = some (.lst xs)) (hj : s.get j = some (.lst [])) (hx : ∀ x ∈ xs, pln x = true ∧ dep x ≤ 50) : Ok (cmpM .eq (.loc l) (.loc j) s) B = B xs.isEmpty s := by
  show Ok (eqM (.loc l) (.loc j) s) B = _
  rw [eq_empty h hj hx]
  first | exact ok_ok | exact ok_ok.trans ok_ok
/-- pop(0) -/
theorem x_pop0 {l : Nat} {x : PV} {xs : List PV} (h : s.get l = some (.lst (x :: xs))) : Ok (mtM .pop (.loc l) [.int 0] s) P = P x (s.set l (.lst xs)) := x_popAt (j := 0) h rfl rfl
end
end Dp


set_option Elab.async false
set_option linter.all false
set_option maxRecDepth 100000
set_option maxHeartbeats 4000000
set_option autoImplicit false
/-! F70: recipes joined; their letters. -/
namespace Dp
theorem snoc_casesJ {α : Type} (w : List α) : w = [] ∨ ∃ v k, w = v ++ [k] := by
  cases h : w.reverse with
  | nil => exact .inl (by simpa using h)
  | cons k v => exact .inr ⟨v.reverse, k, by rw [← List.reverse_cons, ← h, List.reverse_reverse]⟩
theorem cut_mJ {α : Type} (xs : List α) {k : Nat} (h : xs.length = k + 1) : cut xs none (some (-1)) = xs.take k := by
  unfold cut slLo slHi slIx
  simp only
  rw [if_neg (by omega), h]
  show List.take (((-1 : Int) + ((k + 1 : Nat) : Int)).toNat - 0) (List.drop 0 xs) = _
  rw [List.drop_zero, show ((-1 : Int) + ((k + 1 : Nat) : Int)).toNat = k by omega, Nat.sub_zero]
theorem at_lastJ {α : Type} (l : List α) (v : α) : atIx (l ++ [v]) (-1) = some v := by
  unfold atIx ixOf
  have e : (0 : Int) ≤ -1 + ((l ++ [v]).length : Int) := by rw [List.length_append, List.length_singleton]; omega
  rw [if_neg (by decide), if_pos e]
  have : (-1 + ((l ++ [v]).length : Int)).toNat = l.length := by rw [List.length_append, List.length_singleton]; omega
  show (l ++ [v])[(-1 + ((l ++ [v]).length : Int)).toNat]? = _
  rw [this, List.getElem?_append_right (Nat.le_refl _)]
  simp
theorem map_get2 {α : Type} {xs : List α} {g : α → PV} {k : Nat} {v : PV} (h : (xs.map g)[k]? = some v) : ∃ y, xs[k]? = some y ∧ v = g y := by
  rw [List.getElem?_map] at h
  cases e : xs[k]? with
  | none => rw [e] at h; cases h
  | some y => rw [e] at h; cases h; exact ⟨y, rfl, rfl⟩
def piecs (r : Rc) : List (List Nat) := r.filterMap fun y => match y with
  | .pc t => some t
  | .bf _ => none
theorem piecs_sum (r : Rc) : ((piecs r).map List.length).sum = lets r := by
  induction r with
  | nil => rfl
  | cons y r ih =>
    cases y with
    | pc t =>
      show ((t :: piecs r).map List.length).sum = _
      rw [List.map_cons, List.sum_cons, ih]
      rfl
    | bf i =>
      show ((piecs r).map List.length).sum = _
      rw [ih]
      show lets r = 0 + lets r
      omega
theorem piecs_len (r : Rc) : (piecs r).length ≤ r.length := List.length_filterMap_le _ _
/-- no two pieces side by side -/
inductive Nm : Rc → Prop
  | nil : Nm []
  | bf {r : Rc} (i : Nat) : Nm r → Nm (r ++ [.bf i])
  | pc {r : Rc} (t : List Nat) : Nm r → (∀ u, r.getLast? ≠ some (.pc u)) → Nm (r ++ [.pc t])
theorem nm_fold : ∀ {r : Rc}, Nm r → r.foldl nrm1 [] = r := fun h => by
  induction h with
  | nil => rfl
  | bf i h ih => rw [List.foldl_append, ih]; rfl
  | @pc r t h hl ih =>
    rw [List.foldl_append, ih]
    show nrm1 r (.pc t) = _
    rcases nrm1_cases r (.pc t) with ⟨e, _⟩ | ⟨a, u, t', rfl, e1, e2⟩
    · exact e
    · exact absurd (by simp) (hl u)
theorem nm_nrm1 {acc : Rc} (h : Nm acc) (x : Pt) : Nm (nrm1 acc x) := by
  rcases nrm1_cases acc x with ⟨e, hl⟩ | ⟨a, u, t, rfl, rfl, e⟩
  · rw [e]
    cases x with
    | bf i => exact .bf i h
    | pc t => exact .pc t h (hl t rfl)
  · rw [e]
    generalize hb : a ++ [Pt.pc u] = b at h
    cases h with
    | nil => simp at hb
    | bf i h => exact absurd (List.append_inj' hb rfl).2 (by simp)
    | pc t' h hl =>
      obtain ⟨e1, e2⟩ := List.append_inj' hb rfl
      subst e1
      exact .pc _ h hl
theorem nm_norm (r : Rc) : Nm (norm r) := by
  unfold norm
  have : ∀ (r acc : Rc), Nm acc → Nm (r.foldl nrm1 acc) := fun r => by
    induction r with
    | nil => exact fun acc h => h
    | cons x r ih => exact fun acc h => ih _ (nm_nrm1 h x)
  exact this r [] .nil
theorem norm_norm (r : Rc) : norm (norm r) = norm r := nm_fold (nm_norm r)
section
variable {P : Nat → Option IFn} {W d i j : Nat} {s : Sto} {Q : PV → Sto → Prop}
theorem x_neT0 {xs : List PV} {B : Bool → Sto → Prop} : Ok (cmpM .ne (.tup xs) (.tup []) s) B = B (!xs.isEmpty) s := by
  show Ok (if dicTup s (.tup xs) (.tup []) = true then R.ok true s else M.bind (eqM (.tup xs) (.tup [])) (fun r => M.pure (!r)) s) B = _
  rw [show dicTup s (.tup xs) (.tup []) = false from rfl, if_neg (by decide), ok_bind]
  have e : eqM (.tup xs) (.tup []) s = .ok xs.isEmpty s := by cases xs <;> rfl
  rw [e, ok_ok]
  exact ok_ok
theorem x_star {F : List PV → M PV} {vs : List PV} (h : vs.length ≤ 100000) : Ok (starM F 0 vs s) Q = Ok (F [.tup vs] s) Q := by
  unfold starM
  rw [if_pos ⟨Nat.zero_le _, h⟩]
  rfl
theorem pieces_ok {r : Rc} (hP : P i = some Gf_pieces_of) (hl : r.length ≤ 10000) : Ok (run P W (d + 1) i [rcPV r] s) fun v s' => ∃ l, v = .loc l ∧ s'.get l = some (.lst ((piecs r).map PV.str)) ∧ l < s'.nxt ∧ Fr0 s s' := by
  refine ok_run hP rfl fun bd hbd => ?_
  simp_arith only [hbd, Gpieces_of, rcPV]
  refine ok_lc (I := fun k acc s' => s' = s ∧ acc = (piecs (r.take k)).map PV.str) ?_ ?_ _ 0 _ _ (Nat.zero_le _) (by show (r.map Pt.pv).length < 0 + ((r.map Pt.pv).length + 1); omega) ⟨rfl, rfl⟩
  · rintro k v acc s' hv ⟨rfl, rfl⟩
    obtain ⟨y, hy, rfl⟩ := map_get2 hv
    have hk := (List.getElem?_eq_some_iff.mp hy).1
    have lp : ((piecs (r.take k)).map PV.str).length < 16777216 := by
      rw [List.length_map]
      have := piecs_len (r.take k)
      rw [List.length_take] at this
      omega
    have et : piecs (r.take (k + 1)) = piecs (r.take k) ++ piecs [y] := by
      rw [List.take_add_one, hy]
      exact List.filterMap_append
    refine ⟨_, setT_nm, ?_⟩
    cases y with
    | pc t =>
      simp_arith only [Gpieces_of_t1, Gpieces_of_e1, Pt.pv]
      rw [x_acc lp]
      exact ⟨by first | rfl | trivial, by rw [et, List.map_append]; rfl⟩
    | bf b =>
      simp_arith only [Gpieces_of_t1, Gpieces_of_e1, Pt.pv]
      exact ⟨by first | rfl | trivial, by rw [et, List.map_append]; exact (List.append_nil _).symm⟩
  · rintro acc s' ⟨rfl, rfl⟩
    rw [List.length_map, List.take_length, x_newL (by rw [List.length_map]; have := piecs_len r; omega)]
    exact ⟨_, rfl, get_new', Nat.lt_succ_self _, Fr0.new s' _⟩
/-- recipes joined -/
theorem joined_b1 {acc : Rc} {y : Pt} {e0 e2 : Option PV} {F : FT} {bd : ISs} (hbd : bd = Gjoined_b1) (hl : acc.length ≤ 10000) (hz : lets acc + let1 y ≤ 1000000) :
    Ok (evSs F W bd [e0, some (rcPV acc), e2, some y.pv] s) fun o s' => o = .nx [e0, some (rcPV (nrm1 acc y)), e2, some y.pv] ∧ s' = s := by
  cases y with
  | bf b =>
    simp_arith only [hbd, Gjoined_b1, Pt.pv, rcPV]
    rw [x_tup (by simp)]
    try simp_arith only [ok_ok]
    rw [if_pos (by rw [List.length_append, List.length_map]; simp; omega)]
    exact ⟨by show _ = Out.nx [e0, some (.tup ((acc ++ [Pt.bf b]).map Pt.pv)), e2, some (.int b)]; rw [List.map_append]; rfl, by first | rfl | trivial⟩
  | pc t =>
    rcases snoc_casesJ acc with rfl | ⟨a, z, rfl⟩
    · simp_arith only [hbd, Gjoined_b1, Pt.pv, rcPV]
      rw [x_tup (by simp)]
      try simp_arith only [ok_ok]
      rw [x_neT0]
      simp_arith only [List.isEmpty_nil]
      rw [x_tup (by simp)]
      try simp_arith only [ok_ok]
      rw [if_pos (by simp)]
      exact ⟨by first | rfl | trivial, by first | rfl | trivial⟩
    · rw [List.length_append, List.length_singleton] at hl
      have ne : ((a ++ [z]).map Pt.pv).isEmpty = false := by rw [List.map_append]; simp
      have al : atIx ((a ++ [z]).map Pt.pv) (-1) = some z.pv := by rw [List.map_append]; exact at_lastJ _ _
      simp_arith only [hbd, Gjoined_b1, rcPV]
      rw [show Pt.pv (.pc t) = .str t from rfl]
      simp_arith only [ok_ok]
      rw [x_tup (by simp)]
      try simp_arith only [ok_ok]
      rw [x_neT0, ne]
      simp_arith only [ok_ok]
      rw [x_idT al]
      cases z with
      | pc u =>
        rw [show Pt.pv (.pc u) = .str u from rfl] at al ⊢
        simp_arith only [ok_ok]
        rw [x_idT al]
        simp_arith only [ok_ok]
        rw [if_pos (by
          rw [lets_app] at hz
          have : lets [Pt.pc u] = u.length := by simp [lets, let1]
          rw [this] at hz
          have : let1 (Pt.pc t) = t.length := rfl
          rw [this] at hz
          rw [List.length_append]
          omega), x_tup (by simp)]
        try simp_arith only [ok_ok]
        rw [cut_mJ (k := a.length) _ (by rw [List.length_map, List.length_append]; rfl), if_pos (by rw [List.length_append, List.length_take, List.length_map, List.length_append]; simp; omega)]
        refine ⟨?_, by first | rfl | trivial⟩
        have e : nrm1 (a ++ [.pc u]) (.pc t) = a ++ [.pc (u ++ t)] := by
          unfold nrm1
          rw [List.getLast?_concat, List.dropLast_concat]
        rw [e, List.map_append, List.take_append_of_le_length (by rw [List.length_map]; exact Nat.le_refl _), List.take_of_length_le (by rw [List.length_map]; exact Nat.le_refl _), List.map_append]
        rfl
      | bf b =>
        rw [show Pt.pv (.bf b) = .int b from rfl] at al ⊢
        simp_arith only [ok_ok]
        rw [x_tup (by simp)]
        try simp_arith only [ok_ok]
        rw [if_pos (by rw [List.length_append, List.length_map, List.length_append]; simp; omega)]
        refine ⟨?_, by first | rfl | trivial⟩
        have e : nrm1 (a ++ [.bf b]) (.pc t) = a ++ [.bf b] ++ [.pc t] := by
          unfold nrm1
          rw [List.getLast?_concat]
        have em : (a ++ [Pt.bf b] ++ [Pt.pc t]).map Pt.pv = (a ++ [Pt.bf b]).map Pt.pv ++ [PV.str t] := by rw [List.map_append]; rfl
        rw [e, em]
theorem fold_len : ∀ (r acc : Rc), (r.foldl nrm1 acc).length ≤ acc.length + r.length
  | [], acc => Nat.le_refl _
  | x :: r, acc => by
    have h1 := fold_len r (nrm1 acc x)
    have h2 : (nrm1 acc x).length ≤ acc.length + 1 := by
      rcases nrm1_cases acc x with ⟨e, _⟩ | ⟨a, u, t, rfl, rfl, e⟩ <;> (rw [e]; simp)
    rw [List.foldl_cons, List.length_cons]
    omega
theorem fold_lets : ∀ (r acc : Rc), lets (r.foldl nrm1 acc) = lets acc + lets r
  | [], acc => by simp [lets]
  | x :: r, acc => by
    rw [List.foldl_cons, fold_lets r (nrm1 acc x), nrm1_lets]
    show lets acc + let1 x + lets r = lets acc + (let1 x + lets r)
    omega
/-- recipes joined -/
theorem joined_ok {rs : List Rc} (hP : P i = some Gf_joined) (hl : rs.flatten.length ≤ 10000) (hz : lets rs.flatten ≤ 1000000) : Ok (run P W (d + 1) i [.tup (rs.map rcPV)] s) fun v s' => v = rcPV (norm rs.flatten) ∧ Fr0 s s' := by
  refine ok_run hP rfl fun bd hbd => ?_
  simp_arith only [hbd, Gjoined]
  rw [x_tup (by simp)]
  try simp_arith only [ok_ok]
  refine ok_for (I := fun k r s' => s' = s ∧ ∃ e2 e3, r = [some (.tup (rs.map rcPV)), some (rcPV (norm (rs.take k).flatten)), e2, e3]) ?_ ?_ _ 0 _ _ (Nat.zero_le _) (by show (rs.map rcPV).length < 0 + ((rs.map rcPV).length + 1); omega) ⟨rfl, _, _, rfl⟩
  · rintro k v r s' hv ⟨rfl, e2, e3, rfl⟩
    obtain ⟨q, hq, rfl⟩ := map_get2 hv
    refine ⟨_, setT_nm, ?_⟩
    have et : (rs.take (k + 1)).flatten = (rs.take k).flatten ++ q := by rw [List.take_add_one, hq, List.flatten_append]; simp
    have sub : (rs.take (k + 1)).flatten.length ≤ rs.flatten.length ∧ lets (rs.take (k + 1)).flatten ≤ lets rs.flatten := by
      have e := List.take_append_drop (k + 1) rs
      have e2 : rs.flatten = (rs.take (k + 1)).flatten ++ (rs.drop (k + 1)).flatten := by rw [← List.flatten_append, e]
      rw [e2, List.length_append, lets_app]
      exact ⟨Nat.le_add_right _ _, Nat.le_add_right _ _⟩
    rw [et, List.length_append, lets_app] at sub
    simp_arith only [Gjoined_b2, rcPV]
    refine ok_for (I := fun m r s2 => s2 = s' ∧ ∃ e3, r = [some (.tup (rs.map rcPV)), some (rcPV ((q.take m).foldl nrm1 (norm (rs.take k).flatten))), some (rcPV q), e3]) ?_ ?_ _ 0 _ _ (Nat.zero_le _) (by show (q.map Pt.pv).length < 0 + ((q.map Pt.pv).length + 1); omega) ⟨rfl, _, rfl⟩
    · rintro m v r s2 hv ⟨rfl, e3, rfl⟩
      obtain ⟨y, hy, rfl⟩ := map_get2 hv
      have hm := (List.getElem?_eq_some_iff.mp hy).1
      refine ⟨_, setT_nm, ?_⟩
      simp_arith only [ok_ok]
      have l1 := fold_len (q.take m) (norm (rs.take k).flatten)
      have l2 := norm_len (rs.take k).flatten
      have z1 := fold_lets (q.take m) (norm (rs.take k).flatten)
      have z2 := norm_lets (rs.take k).flatten
      have z3 : lets (q.take m) + let1 y ≤ lets q := by
        have e := List.take_append_drop m q
        have e2 : q.drop m = y :: q.drop (m + 1) := by
          rw [List.drop_eq_getElem_cons hm]
          congr 1
          exact (List.getElem?_eq_some_iff.mp hy).2
        have e3 : lets q = lets (q.take m) + lets (q.drop m) := by rw [← lets_app, e]
        rw [e3, e2]
        show lets (q.take m) + let1 y ≤ lets (q.take m) + (let1 y + lets (q.drop (m + 1)))
        omega
      have l3 : (q.take m).length ≤ q.length := by rw [List.length_take]; omega
      refine (joined_b1 rfl (by omega) (by omega)).mono ?_
      rintro o s3 ⟨rfl, rfl⟩
      refine ⟨rfl, some y.pv, ?_⟩
      rw [List.take_add_one, hy, List.foldl_append]
      rfl
    · rintro r s2 ⟨rfl, e3, rfl⟩
      rw [List.length_map, List.take_length]
      simp_arith only [ok_ok]
      refine ⟨by first | rfl | trivial, some (rcPV q), e3, ?_⟩
      have en : norm ((rs.take k).flatten ++ q) = q.foldl nrm1 (norm (rs.take k).flatten) := by unfold norm; rw [List.foldl_append]
      rw [et, ← en]
      rfl
  · rintro r s' ⟨rfl, e2, e3, rfl⟩
    rw [List.length_map, List.take_length]
    simp_arith only [ok_ok]
    exact ⟨by first | rfl | trivial, (Fr0.refl _).drop⟩
end
end Dp


set_option Elab.async false
set_option linter.all false
set_option maxRecDepth 100000
set_option maxHeartbeats 4000000
set_option autoImplicit false
/-! F71: letters of recipes counted. -/
namespace Dp
theorem mem_le_sum : ∀ {l : List Nat} {x : Nat}, x ∈ l → x ≤ l.sum
  | a :: l, x, h => by
    rw [List.sum_cons]
    rcases List.mem_cons.mp h with rfl | h
    · omega
    · have := mem_le_sum h; omega
def letsA (rs : List Rc) : Nat := (rs.map lets).sum
section
variable {P : Nat → Option IFn} {W d i j : Nat} {s : Sto} {Q : PV → Sto → Prop}
theorem intsP_nat : ∀ ns : List Nat, intsP ((natI ns).map PV.int) = some (natI ns) := fun ns => by
  unfold natI
  induction ns with
  | nil => rfl
  | cons n ns ih =>
    show (match intsP ((ns.map fun n : Nat => (n : Int)).map PV.int) with | some r => some ((n : Int) :: r) | none => none) = _
    rw [ih]
    rfl
theorem x_sumJ {xs : List Int} {Q : PV → Sto → Prop} : Ok (biSeq .sum (xs.map PV.int) s) Q = Q (.int xs.sum) s := by
  have e : intsP (xs.map PV.int) = some xs := by
    induction xs with
    | nil => rfl
    | cons x xs ih =>
      show (match intsP (xs.map PV.int) with | some is => some (x :: is) | none => none) = _
      rw [ih]
  show Ok (match intsP (xs.map PV.int) with | some is => R.ok (.int is.sum) s | none => .err) Q = _
  rw [e]
  first | exact ok_ok | exact ok_ok.trans ok_ok
theorem letters_in_ok {rs : List Rc} (hP : P i = some (Gf_letters_in j)) (hj : P j = some Gf_pieces_of) (hl : rs.length ≤ 1000) (hr : ∀ r ∈ rs, r.length ≤ 1000 ∧ lets r ≤ 100000) :
    Ok (run P W (d + 2) i [.tup (rs.map rcPV)] s) fun v s' => v = .int (letsA rs : Nat) ∧ Fr0 s s' := by
  refine ok_run hP rfl fun bd hbd => ?_
  simp_arith only [hbd, Gletters_in]
  refine ok_lc (I := fun k acc s' => Fr0 s s' ∧ acc = (natI ((rs.take k).flatMap fun r => (piecs r).map List.length)).map PV.int) ?_ ?_ _ 0 _ _ (Nat.zero_le _) (by show (rs.map rcPV).length < 0 + ((rs.map rcPV).length + 1); omega) ⟨Fr0.refl _, rfl⟩
  · rintro k v acc s' hv ⟨f, rfl⟩
    obtain ⟨r, hr', rfl⟩ := map_get2 hv
    have hm := List.mem_of_getElem? hr'
    obtain ⟨r1, r2⟩ := hr r hm
    refine ⟨_, setT_nm, ?_⟩
    obtain ⟨A, hA⟩ : ∃ A, A = (rs.take k).flatMap fun r => (piecs r).map List.length := ⟨_, rfl⟩
    have et : (rs.take (k + 1)).flatMap (fun r => (piecs r).map List.length) = A ++ (piecs r).map List.length := by rw [List.take_add_one, hr', List.flatMap_append, hA]; simp
    have lA : A.length ≤ 1000 * 1000 := by
      have key : ∀ l : List Rc, (∀ r ∈ l, r.length ≤ 1000) → (l.flatMap fun r => (piecs r).map List.length).length ≤ l.length * 1000 := fun l => by
        induction l with
        | nil => intro _; simp
        | cons a l ih =>
          intro h
          have h1 := ih fun r hr => h r (List.mem_cons_of_mem _ hr)
          have h2 := h a List.mem_cons_self
          have h3 := piecs_len a
          rw [List.flatMap_cons, List.length_append, List.length_map, List.length_cons, Nat.succ_mul]
          omega
      have := key (rs.take k) fun r hr' => (hr r (List.mem_of_mem_take hr')).1
      rw [← hA, List.length_take] at this
      have : min k rs.length * 1000 ≤ 1000 * 1000 := Nat.mul_le_mul_right _ (by omega)
      omega
    rw [et, ← hA]
    simp_arith only [ok_ok]
    refine (pieces_ok hj (by omega)).mono ?_
    rintro v s1 ⟨l, rfl, g1, n1, f1⟩
    try simp_arith only [ok_ok]
    rw [x_itL (lst_at g1), bnd_liv (lst_at g1)]
    have lp := piecs_len r
    refine ok_lcJ (xs := (piecs r).map PV.str) (I := fun m acc s2 => s2 = s1 ∧ acc = (natI (A ++ ((piecs r).take m).map List.length)).map PV.int) ?_ ?_ ?_ _ 0 _ _ (Nat.zero_le _) (by omega) ⟨rfl, by simp⟩
    · rintro m acc s2 ⟨rfl, _⟩
      exact at_liv (lst_at g1)
    · rintro m v acc s2 hv ⟨rfl, rfl⟩
      obtain ⟨t, ht, rfl⟩ := map_get2 hv
      have htm := (List.getElem?_eq_some_iff.mp ht).1
      have tl : t.length ≤ 100000 := by
        have h1 := piecs_sum r
        have h2 : t.length ≤ ((piecs r).map List.length).sum := mem_le_sum (List.mem_map_of_mem (List.mem_of_getElem? ht))
        omega
      refine ⟨_, setT_nm, ?_⟩
      simp_arith only [Gletters_in_e1]
      rw [x_lenS (by omega)]
      rw [x_acc (by
        rw [List.length_map]
        unfold natI
        rw [List.length_map, List.length_append, List.length_map, List.length_take]
        omega)]
      refine ⟨by first | rfl | trivial, ?_⟩
      rw [List.take_add_one, ht, List.map_append, ← List.append_assoc]
      unfold natI
      rw [List.map_append (l₁ := A ++ _), List.map_append, List.map_append (l₂ := List.map (fun n : Nat => (n : Int)) (List.map List.length (some t).toList))]
      rfl
    · rintro acc s2 ⟨rfl, rfl⟩
      rw [List.length_map, List.take_length]
      exact ⟨f.trans f1, rfl⟩
  · rintro acc s' ⟨f, rfl⟩
    rw [List.length_map, List.take_length, x_sumJ]
    refine ⟨?_, f.drop⟩
    have e : ∀ l : List Rc, (natI (l.flatMap fun r => (piecs r).map List.length)).sum = ((letsA l : Nat) : Int) := fun l => by
      induction l with
      | nil => rfl
      | cons a l ih =>
        have h1 : ∀ ns ms : List Nat, (natI (ns ++ ms)).sum = ((ns.sum : Nat) : Int) + (natI ms).sum := fun ns ms => by
          unfold natI
          induction ns with
          | nil => simp
          | cons n ns ih2 => rw [List.cons_append, List.map_cons, List.sum_cons, ih2, List.sum_cons]; omega
        rw [List.flatMap_cons, h1, ih, piecs_sum]
        unfold letsA
        rw [List.map_cons, List.sum_cons]
        omega
    rw [e]
end
end Dp


set_option Elab.async false
set_option linter.all false
set_option maxRecDepth 100000
set_option maxHeartbeats 4000000
set_option autoImplicit false
/-! F72: letters counted by the law. -/
namespace Dp
section
variable {P : Nat → Option IFn} {W d i j : Nat} {s : Sto} {Q : PV → Sto → Prop}
theorem lletters_b1 {r : Rc} {n : Nat} {e0 e3 : Option PV} {F : FT} {bd : ISs} (hbd : bd = GL_letters_b1) (h1 : r.length ≤ 1000) (h2 : lets r ≤ 100000) :
    Ok (evSs F W bd [e0, some (.int (n : Nat)), some (rcPV r), e3] s) fun o s' => o = .nx [e0, some (.int (n + lets r : Nat)), some (rcPV r), e3] ∧ s' = s := by
  simp_arith only [hbd, GL_letters_b1, rcPV]
  refine ok_lc (I := fun k acc s' => s' = s ∧ acc = (natI ((piecs (r.take k)).map List.length)).map PV.int) ?_ ?_ _ 0 _ _ (Nat.zero_le _) (by show (r.map Pt.pv).length < 0 + ((r.map Pt.pv).length + 1); omega) ⟨rfl, rfl⟩
  · rintro k v acc s' hv ⟨rfl, rfl⟩
    obtain ⟨y, hy, rfl⟩ := map_get2 hv
    have hk := (List.getElem?_eq_some_iff.mp hy).1
    have hm := List.mem_of_getElem? hy
    have lp : ((natI ((piecs (r.take k)).map List.length)).map PV.int).length < 16777216 := by
      rw [List.length_map]
      unfold natI
      rw [List.length_map, List.length_map]
      have := piecs_len (r.take k)
      rw [List.length_take] at this
      omega
    have et : piecs (r.take (k + 1)) = piecs (r.take k) ++ piecs [y] := by
      rw [List.take_add_one, hy]
      exact List.filterMap_append
    refine ⟨_, setT_nm, ?_⟩
    cases y with
    | pc t =>
      have tl : t.length ≤ 100000 := by
        have h3 : lets r = (r.map let1).sum := rfl
        have h4 : let1 (.pc t) ≤ (r.map let1).sum := mem_le_sum (List.mem_map_of_mem hm)
        have : let1 (.pc t) = t.length := rfl
        omega
      simp_arith only [GL_letters_t1, GL_letters_e1, Pt.pv]
      rw [x_lenS (by omega), x_acc lp]
      refine ⟨by first | rfl | trivial, ?_⟩
      rw [et, List.map_append]
      unfold natI
      rw [List.map_append, List.map_append]
      rfl
    | bf b =>
      simp_arith only [GL_letters_t1, GL_letters_e1, Pt.pv]
      refine ⟨by first | rfl | trivial, ?_⟩
      rw [et, List.map_append]
      unfold natI
      rw [List.map_append, List.map_append]
      exact (List.append_nil _).symm
  · rintro acc s' ⟨rfl, rfl⟩
    rw [List.length_map, List.take_length, x_sumJ]
    try simp_arith only [ok_ok]
    have e : (natI ((piecs r).map List.length)).sum = ((lets r : Nat) : Int) := by
      have h1 : ∀ ns : List Nat, (natI ns).sum = ((ns.sum : Nat) : Int) := fun ns => by
        unfold natI
        induction ns with
        | nil => rfl
        | cons n ns ih2 => rw [List.map_cons, List.sum_cons, ih2, List.sum_cons]; omega
      rw [h1, piecs_sum]
    rw [e]
    exact ⟨by rw [show ((n : Int) + (lets r : Nat)) = ((n + lets r : Nat) : Int) by omega], by first | rfl | trivial⟩
theorem letsA_take (rs : List Rc) (k : Nat) {r : Rc} (h : rs[k]? = some r) : letsA (rs.take (k + 1)) = letsA (rs.take k) + lets r := by
  unfold letsA
  rw [List.take_add_one, h, List.map_append, List.sum_append]
  simp
/-- over a tuple of recipes -/
theorem lletters_ok {rs : List Rc} (hP : P i = some Gf_L_letters) (hr : ∀ r ∈ rs, r.length ≤ 1000 ∧ lets r ≤ 100000) :
    Ok (run P W (d + 1) i [.tup (rs.map rcPV)] s) fun v s' => v = .int (letsA rs : Nat) ∧ Fr0 s s' := by
  refine ok_run hP rfl fun bd hbd => ?_
  simp_arith only [hbd, GL_letters]
  refine ok_for (I := fun k r s' => s' = s ∧ ∃ e2 e3, r = [some (.tup (rs.map rcPV)), some (.int (letsA (rs.take k) : Nat)), e2, e3]) ?_ ?_ _ 0 _ _ (Nat.zero_le _) (by show (rs.map rcPV).length < 0 + ((rs.map rcPV).length + 1); omega) ⟨rfl, _, _, rfl⟩
  · rintro k v r s' hv ⟨rfl, e2, e3, rfl⟩
    obtain ⟨q, hq, rfl⟩ := map_get2 hv
    obtain ⟨r1, r2⟩ := hr q (List.mem_of_getElem? hq)
    refine ⟨_, setT_nm, ?_⟩
    simp_arith only [ok_ok]
    refine (lletters_b1 rfl r1 r2).mono ?_
    rintro o s2 ⟨rfl, rfl⟩
    refine ⟨rfl, some (rcPV q), e3, ?_⟩
    rw [letsA_take rs k hq]
  · rintro r s' ⟨rfl, e2, e3, rfl⟩
    rw [List.length_map, List.take_length]
    simp_arith only [ok_ok]
    exact ⟨by first | rfl | trivial, (Fr0.refl _).drop⟩
/-- over a list of recipes -/
theorem lletters_okL {rs : List Rc} {l : Nat} (hP : P i = some Gf_L_letters) (g : s.get l = some (.lst (rs.map rcPV))) (hl : l < s.nxt) (hr : ∀ r ∈ rs, r.length ≤ 1000 ∧ lets r ≤ 100000) :
    Ok (run P W (d + 1) i [.loc l] s) fun v s' => v = .int (letsA rs : Nat) ∧ Fr0 s s' := by
  refine ok_run hP rfl fun bd hbd => ?_
  simp_arith only [hbd, GL_letters]
  rw [x_itL (lst_at g), bnd_liv (lst_at g)]
  refine ok_forJ (xs := rs.map rcPV) (I := fun k r s' => s' = s ∧ ∃ e2 e3, r = [some (.loc l), some (.int (letsA (rs.take k) : Nat)), e2, e3]) (fun k r s' h => by rw [h.1]; exact at_liv (lst_at g)) ?_ ?_ _ 0 _ _ (Nat.zero_le _) (by omega) ⟨rfl, _, _, rfl⟩
  · rintro k v r s' hv ⟨rfl, e2, e3, rfl⟩
    obtain ⟨q, hq, rfl⟩ := map_get2 hv
    obtain ⟨r1, r2⟩ := hr q (List.mem_of_getElem? hq)
    refine ⟨_, setT_nm, ?_⟩
    simp_arith only [ok_ok]
    refine (lletters_b1 rfl r1 r2).mono ?_
    rintro o s2 ⟨rfl, rfl⟩
    refine ⟨rfl, some (rcPV q), e3, ?_⟩
    rw [letsA_take rs k hq]
  · rintro r s' ⟨rfl, e2, e3, rfl⟩
    rw [List.length_map, List.take_length]
    simp_arith only [ok_ok]
    exact ⟨by first | rfl | trivial, (Fr0.refl _).drop⟩
end
end Dp


set_option Elab.async false
set_option linter.all false
set_option maxRecDepth 100000
set_option maxHeartbeats 4000000
set_option autoImplicit false
/-! F73: small writers. -/
namespace Dp
structure BigW (w : Wt) : Prop where
  b1 : w.begins.length ≤ 100
  b0 : w.begins ≠ []
  bt : ∀ t ∈ w.begins, t.length ≤ 100000
  r1 : w.rules.length ≤ 100
  r0 : ∃ row, w.rules[0]? = some row
  rr : ∀ row ∈ w.rules, row.length ≤ 100
  en : ∀ row ∈ w.rules, ∀ n fs, some (n, fs) ∈ row → fs.length ≤ 1000 ∧ ∀ r ∈ fs, r.length ≤ 1000 ∧ lets r ≤ 100000
  e1 : w.ends.length ≤ 100
  eo : ∀ r, some r ∈ w.ends → r.length ≤ 1000 ∧ lets r ≤ 100000
def entsR (row : List (Option En)) : List En := row.filterMap id
def entsF (w : Wt) : List En := w.rules.flatMap entsR
def endBig : Option Rc → Bool
  | none => false
  | some r => decide (24 < lets r)
/-- is it small? -/
def smF (w : Wt) : Bool := decide (w.rules.length ≤ 4) && decide ((w.rules.headD []).length ≤ 3) && decide (w.begins.length ≤ 2) && !(w.begins.any fun t => decide (24 < t.length)) && !((entsF w).any fun e => decide (24 < letsA e.2)) && !(w.ends.any endBig)
theorem boolsP_allJ : ∀ bs : List Bool, boolsP (bs.map PV.bl) = some bs
  | [] => rfl
  | b :: bs => by
    show (match boolsP (bs.map PV.bl) with | some r => some (b :: r) | none => none) = _
    rw [boolsP_allJ bs]
theorem x_anyJ {s : Sto} {bs : List Bool} {P : PV → Sto → Prop} : Ok (biSeq .any (bs.map PV.bl) s) P = P (.bl (bs.any id)) s := by
  show Ok (match boolsP (bs.map PV.bl) with | some bs => R.ok (.bl (bs.any id)) s | none => .err) P = _
  rw [boolsP_allJ]
  exact ok_ok
theorem any_map {α : Type} (xs : List α) (f : α → Bool) : (xs.map f).any id = xs.any f := by
  induction xs with
  | nil => rfl
  | cons x xs ih => rw [List.map_cons, List.any_cons, List.any_cons, ih]; rfl
section
variable {P : Nat → Option IFn} {W d i j j1 j2 : Nat} {s : Sto} {Q : PV → Sto → Prop} {w : Wt}
theorem kinds_big {row : List (Option En)} (hP : P i = some Jf_kinds_of) (h : w.rules[0]? = some row) : Ok (run P W (d + 1) i [w.pv] s) fun v s' => v = .int (row.length : Nat) ∧ Fr0 s s' := by
  refine ok_run hP rfl fun bd hbd => ?_
  simp_arith only [hbd, Jkinds_of]
  rw [x_w1]
  try simp_arith only [ok_ok]
  rw [show (0 : Int) = ((0 : Nat) : Int) from rfl, x_idT (at_map h)]
  simp_arith only [rowPV, List.length_map]
  exact ⟨by first | rfl | trivial, (Fr0.refl _).drop⟩
/-- a comprehension that leaves the store as it is -/
theorem lc_pure {α : Type} {xs : List α} {g : α → PV} {h : α → Bool} {e : IE} {t : Nat} {r : Env} {F : FT} {R : List PV → Sto → Prop} {n0 : Nat} (hn : xs.length < n0)
    (he : ∀ x ∈ xs, ∀ s', Fr0 s s' → Ok (evE F e (r.set t (some (g x))) s') fun v s2 => v = .bl (h x) ∧ Fr0 s' s2) (hl : xs.length ≤ 10000) (hR : ∀ s', Fr0 s s' → R ((xs.map h).map PV.bl) s') :
    Ok (lcGo (.nm t) (.fix (xs.map g)) r (fun r' acc => M.bind (M.pure true) fun b => if b then M.bind (evE F e r') (accM acc) else M.pure acc) n0 0 [] s) R := by
  refine ok_lc (I := fun k acc s' => Fr0 s s' ∧ acc = (xs.take k).map fun x => PV.bl (h x)) ?_ ?_ _ 0 _ _ (Nat.zero_le _) (by rw [List.length_map]; omega) ⟨Fr0.refl _, rfl⟩
  · rintro k v acc s' hv ⟨f, rfl⟩
    obtain ⟨x, hx, rfl⟩ := map_get2 hv
    refine ⟨_, setT_nm, ?_⟩
    simp_arith only [ok_ok]
    refine (he x (List.mem_of_getElem? hx) s' f).mono ?_
    rintro v s2 ⟨rfl, f2⟩
    rw [x_acc (by rw [List.length_map, List.length_take]; omega)]
    exact ⟨f.trans f2, by rw [List.take_add_one, hx, List.map_append]; rfl⟩
  · rintro acc s' ⟨f, rfl⟩
    rw [List.length_map, List.take_length]
    have e : (xs.map fun x => PV.bl (h x)) = (xs.map h).map PV.bl := by rw [List.map_map]; rfl
    rw [e]
    exact hR s' f
end
end Dp


set_option Elab.async false
set_option linter.all false
set_option maxRecDepth 100000
set_option maxHeartbeats 4000000
set_option autoImplicit false
/-! F74: small writers, judged by the program. -/
namespace Dp
section
variable {P : Nat → Option IFn} {W d i j j1 j2 : Nat} {s : Sto} {Q : PV → Sto → Prop} {w : Wt}
theorem entsR_len (row : List (Option En)) : (entsR row).length ≤ row.length := List.length_filterMap_le _ _
theorem entsF_len (h : BigW w) : (entsF w).length ≤ 10000 := by
  have key : ∀ l : List (List (Option En)), (∀ r ∈ l, r.length ≤ 100) → (l.flatMap entsR).length ≤ l.length * 100 := fun l => by
    induction l with
    | nil => intro _; simp
    | cons a l ih =>
      intro h
      have h1 := ih fun r hr => h r (List.mem_cons_of_mem _ hr)
      have h2 := h a List.mem_cons_self
      have h3 := entsR_len a
      rw [List.flatMap_cons, List.length_append, List.length_cons, Nat.succ_mul]
      omega
  have := key w.rules h.rr
  have := h.r1
  unfold entsF
  omega
theorem is_small_ok (hP : P i = some (Jf_is_small j j1)) (hj : P j = some Jf_kinds_of) (h1 : P j1 = some (Gf_letters_in j2)) (h2 : P j2 = some Gf_pieces_of) (h : BigW w) :
    Ok (run P W (d + 3) i [w.pv] s) fun v s' => v = .bl (smF w) ∧ Fr0 s s' := by
  obtain ⟨row0, hr0⟩ := h.r0
  have hd : w.rules.headD [] = row0 := by
    cases hw : w.rules with
    | nil => rw [hw] at hr0; simp at hr0
    | cons a r => rw [hw] at hr0; simp at hr0; simp [hr0]
  have lr := h.r1
  have lb := h.b1
  have le := h.e1
  have fin : ∀ {b : Bool} {s' : Sto}, Fr0 s s' → smF w = b → PV.bl b = .bl (smF w) ∧ Fr0 s (s'.drop s.nxt) := fun f e => ⟨by rw [e], f.drop⟩
  refine ok_run hP rfl fun bd hbd => ?_
  simp_arith only [hbd, Jis_small, Wt.pv, List.length_map]
  rw [show (g_SMALL_STATES) = PV.int 4 from rfl]
  simp_arith only [ok_ok]
  by_cases c1 : 4 < w.rules.length
  · rw [decide_eq_true (by omega : (4 : Int) < (w.rules.length : Int))]
    simp_arith only [ok_ok]
    exact fin (Fr0.refl _) (by unfold smF; rw [decide_eq_false (by omega : ¬ w.rules.length ≤ 4)]; simp)
  rw [decide_eq_false (by omega : ¬ (4 : Int) < (w.rules.length : Int))]
  simp_arith only [ok_ok]
  refine (kinds_big (w := w) (d := d + 1) hj hr0).mono ?_
  rintro v s1 ⟨rfl, f1⟩
  rw [show (g_SMALL_KINDS) = PV.int 3 from rfl]
  simp_arith only [ok_ok]
  by_cases c2 : 3 < row0.length
  · rw [decide_eq_true (by omega : (3 : Int) < (row0.length : Int))]
    simp_arith only [ok_ok]
    exact fin f1 (by unfold smF; rw [hd, decide_eq_false (by omega : ¬ row0.length ≤ 3)]; simp)
  rw [decide_eq_false (by omega : ¬ (3 : Int) < (row0.length : Int))]
  simp_arith only [List.length_map]
  rw [show (g_SMALL_BUFFERS) = PV.int 2 from rfl]
  simp_arith only [ok_ok]
  by_cases c3 : 2 < w.begins.length
  · rw [decide_eq_true (by omega : (2 : Int) < (w.begins.length : Int))]
    simp_arith only [ok_ok]
    exact fin f1 (by unfold smF; rw [decide_eq_false (by omega : ¬ w.begins.length ≤ 2)]; simp)
  rw [decide_eq_false (by omega : ¬ (2 : Int) < (w.begins.length : Int))]
  simp_arith only [ok_ok]
  refine lc_pure (s := s1) (xs := w.begins) (g := PV.str) (h := fun t => decide (24 < t.length)) (by show w.begins.length < (w.begins.map PV.str).length + 1; rw [List.length_map]; omega) (fun t ht s' f => ?_) (by omega) fun s2 f2 => ?_
  · have := h.bt t ht
    simp_arith only [Jis_small_e4]
    rw [x_lenS (by omega), show (g_SMALL_LETTERS) = PV.int 24 from rfl]
    simp_arith only [ok_ok]
    exact ⟨by rw [show decide ((24 : Int) < (t.length : Int)) = decide (24 < t.length) from decide_eq_decide.mpr (by omega)], Fr0.refl _⟩
  rw [x_anyJ, any_map]
  cases a1 : w.begins.any fun t => decide (24 < t.length) with
  | true =>
    simp_arith only [ok_ok]
    exact fin (f1.trans f2) (by unfold smF; rw [a1]; simp)
  | false =>
  simp_arith only [ok_ok]
  have f12 := f1.trans f2
  have ll := entsF_len h
  refine ok_lc (I := fun k acc s' => s' = s2 ∧ acc = ((w.rules.take k).flatMap entsR).map fun e => enPV (some e)) ?_ ?_ _ 0 _ _ (Nat.zero_le _) (by show (w.rules.map rowPV).length < 0 + ((w.rules.map rowPV).length + 1); omega) ⟨rfl, rfl⟩
  · rintro k v acc s' hv ⟨rfl, rfl⟩
    obtain ⟨row, hrow, rfl⟩ := map_get2 hv
    have rl := h.rr row (List.mem_of_getElem? hrow)
    refine ⟨_, setT_nm, ?_⟩
    obtain ⟨A, hA⟩ : ∃ A, A = (w.rules.take k).flatMap entsR := ⟨_, rfl⟩
    have et : (w.rules.take (k + 1)).flatMap entsR = A ++ entsR row := by rw [List.take_add_one, hrow, List.flatMap_append, hA]; simp
    have lA : A.length + (entsR row).length ≤ 10000 := by
      have e := List.take_append_drop (k + 1) w.rules
      have e2 : entsF w = (A ++ entsR row) ++ (w.rules.drop (k + 1)).flatMap entsR := by
        unfold entsF
        rw [← et, ← List.flatMap_append, e]
      rw [e2, List.length_append, List.length_append] at ll
      omega
    rw [et, ← hA]
    simp_arith only [rowPV]
    refine ok_lc (I := fun m acc s4 => s4 = s' ∧ acc = (A ++ entsR (row.take m)).map fun e => enPV (some e)) ?_ ?_ _ 0 _ _ (Nat.zero_le _) (by show (row.map enPV).length < 0 + ((row.map enPV).length + 1); omega) ⟨rfl, by simp [entsR]⟩
    · rintro m v acc s4 hv ⟨rfl, rfl⟩
      obtain ⟨e, he, rfl⟩ := map_get2 hv
      refine ⟨_, setT_nm, ?_⟩
      have er : entsR (row.take (m + 1)) = entsR (row.take m) ++ entsR [e] := by rw [List.take_add_one, he]; exact List.filterMap_append
      have l2 : (entsR (row.take m)).length ≤ 100 := by
        have := entsR_len (row.take m)
        rw [List.length_take] at this
        omega
      cases e with
      | none =>
        simp_arith only [Jis_small_t2, Jis_small_e3, enPV]
        refine ⟨by first | rfl | trivial, ?_⟩
        rw [er]
        simp [entsR]
      | some q =>
        obtain ⟨n, fs⟩ := q
        simp_arith only [Jis_small_t2, Jis_small_e3, enPV]
        rw [x_acc (by rw [List.length_map, List.length_append]; omega)]
        refine ⟨by first | rfl | trivial, ?_⟩
        rw [er, ← List.append_assoc, List.map_append (l₂ := entsR [some (n, fs)])]
        rfl
    · rintro acc s4 ⟨rfl, rfl⟩
      rw [List.length_map, List.take_length]
      exact ⟨rfl, rfl⟩
  · rintro acc s' ⟨rfl, rfl⟩
    rw [List.length_map, List.take_length, show w.rules.flatMap entsR = entsF w from rfl, x_newL (by rw [List.length_map]; omega)]
    have f3 := Fr0.new s' (.lst ((entsF w).map fun e => enPV (some e)))
    have g3 : (s'.new (.lst ((entsF w).map fun e => enPV (some e)))).get s'.nxt = some (.lst ((entsF w).map fun e => enPV (some e))) := get_new'
    have n3 : s'.nxt < (s'.new (.lst ((entsF w).map fun e => enPV (some e)))).nxt := Nat.lt_succ_self _
    generalize s'.new (.lst ((entsF w).map fun e => enPV (some e))) = s3 at f3 g3 n3
    generalize s'.nxt = l3 at g3 n3
    have f13 := f12.trans f3
    rw [x_itL (lst_at g3)]
    try simp_arith only [ok_ok]
    rw [bnd_liv (lst_at g3)]
    have hen : ∀ e ∈ entsF w, e.2.length ≤ 1000 ∧ ∀ r ∈ e.2, r.length ≤ 1000 ∧ lets r ≤ 100000 := fun e he => by
      obtain ⟨row, hrow, hr⟩ := List.mem_flatMap.mp he
      obtain ⟨o, ho, eo⟩ := List.mem_filterMap.mp hr
      have : o = some e := eo
      subst this
      exact h.en row hrow e.1 e.2 ho
    refine ok_lcJ (xs := (entsF w).map fun e => enPV (some e)) (I := fun k acc s4 => Fr0 s3 s4 ∧ acc = (((entsF w).take k).map fun e => decide (24 < letsA e.2)).map PV.bl) ?_ ?_ ?_ _ 0 _ _ (Nat.zero_le _) (by rw [List.length_map]; omega) ⟨Fr0.refl _, rfl⟩
    · rintro k acc s4 ⟨f, _⟩
      exact at_liv (lst_at (f.get g3 n3))
    · rintro k v acc s4 hv ⟨f, rfl⟩
      obtain ⟨e, he, rfl⟩ := map_get2 hv
      obtain ⟨x1, x2⟩ := hen e (List.mem_of_getElem? he)
      refine ⟨_, rfl, ?_⟩
      simp_arith only [Jis_small_e2, enPV, flPV]
      refine (letters_in_ok (d := d) h1 h2 x1 x2).mono ?_
      rintro v s5 ⟨rfl, f5⟩
      rw [show (g_SMALL_LETTERS) = PV.int 24 from rfl]
      simp_arith only [ok_ok]
      rw [x_acc (by rw [List.length_map, List.length_map, List.length_take]; omega)]
      refine ⟨f.trans f5, ?_⟩
      rw [List.take_add_one, he, List.map_append, List.map_append, show decide ((24 : Int) < ((letsA e.2 : Nat) : Int)) = decide (24 < letsA e.2) from decide_eq_decide.mpr (by omega)]
      rfl
    rintro acc s4 ⟨f4, rfl⟩
    rw [List.length_map, List.take_length, x_anyJ, any_map]
    have f14 := f13.trans f4
    simp_arith only [ok_ok]
    cases a2 : (entsF w).any fun e => decide (24 < letsA e.2) with
    | true =>
      simp_arith only [ok_ok]
      exact fin f14 (by unfold smF; rw [a2]; simp)
    | false =>
    simp_arith only [ok_ok]
    refine ok_lc (I := fun k acc s5 => Fr0 s4 s5 ∧ ∃ bs : List Bool, acc = bs.map PV.bl ∧ bs.length ≤ k ∧ bs.any id = (w.ends.take k).any endBig) ?_ ?_ _ 0 _ _ (Nat.zero_le _) (by show (w.ends.map eoPV).length < 0 + ((w.ends.map eoPV).length + 1); omega) ⟨Fr0.refl _, [], rfl, Nat.le_refl _, rfl⟩
    · rintro k v acc s5 hv ⟨f, bs, rfl, bl, ba⟩
      obtain ⟨e, he, rfl⟩ := map_get2 hv
      have hk := (List.getElem?_eq_some_iff.mp he).1
      refine ⟨_, setT_nm, ?_⟩
      have at1 : (w.ends.take (k + 1)).any endBig = ((w.ends.take k).any endBig || endBig e) := by rw [List.take_add_one, he, List.any_append]; simp
      cases e with
      | none =>
        simp_arith only [Jis_small_t1, eoPV]
        refine ⟨f, bs, by first | rfl | trivial, by omega, ?_⟩
        rw [at1, ba]
        simp [endBig]
      | some r =>
        have ro := h.eo r (List.mem_of_getElem? he)
        simp_arith only [Jis_small_t1, Jis_small_e1, eoPV, rcPV]
        rw [x_tup (by simp)]
        try simp_arith only [ok_ok]
        have lk := letters_in_ok (W := W) (d := d) (s := s5) (rs := [r]) h1 h2 (by simp) (fun q hq => by rw [List.mem_singleton.mp hq]; exact ro)
        refine lk.mono ?_
        rintro v s6 ⟨rfl, f6⟩
        rw [show (g_SMALL_LETTERS) = PV.int 24 from rfl]
        simp_arith only [ok_ok]
        rw [x_acc (by rw [List.length_map]; omega)]
        refine ⟨f.trans f6, bs ++ [decide (24 < lets r)], ?_, by rw [List.length_append]; simp; omega, ?_⟩
        · rw [List.map_append, show decide ((24 : Int) < ((letsA [r] : Nat) : Int)) = decide (24 < lets r) from decide_eq_decide.mpr (by unfold letsA; simp; omega)]
          rfl
        · rw [at1, List.any_append, ba]
          simp [endBig]
    · rintro acc s5 ⟨f5, bs, rfl, _, ba⟩
      rw [List.length_map, List.take_length] at ba
      rw [x_anyJ, ba]
      simp_arith only [ok_ok]
      have ee : smF w = !(w.ends.any endBig) := by
        unfold smF
        rw [hd, a1, a2, decide_eq_true (by omega : w.rules.length ≤ 4), decide_eq_true (by omega : row0.length ≤ 3), decide_eq_true (by omega : w.begins.length ≤ 2)]
        simp
      exact ⟨by rw [ee], (f14.trans f5).drop⟩
end
end Dp


set_option Elab.async false
set_option linter.all false
set_option maxRecDepth 100000
set_option maxHeartbeats 4000000
set_option autoImplicit false
/-! F75: small writers, judged by the law. -/
namespace Dp
theorem pt_pln (y : Pt) : pln y.pv = true ∧ dep y.pv = 0 := by cases y <;> exact ⟨rfl, rfl⟩
theorem rc_pln (r : Rc) : pln (rcPV r) = true ∧ dep (rcPV r) ≤ 1 := by
  refine ⟨?_, ?_⟩
  · show pln (.tup _) = true
    rw [pln]
    exact plns_mem.mpr fun v hv => by obtain ⟨x, _, rfl⟩ := List.mem_map.mp hv; exact (pt_pln x).1
  · show dep (.tup _) ≤ 1
    have d1 : deps (r.map Pt.pv) ≤ 0 := deps_le fun v hv => by obtain ⟨x, _, rfl⟩ := List.mem_map.mp hv; exact Nat.le_of_eq (pt_pln x).2
    rw [dep]; omega
theorem en_pln (e : En) : pln (enPV (some e)) = true ∧ dep (enPV (some e)) ≤ 50 := by
  obtain ⟨n, fs⟩ := e
  have d1 : deps (fs.map rcPV) ≤ 1 := deps_le fun v hv => by obtain ⟨x, _, rfl⟩ := List.mem_map.mp hv; exact (rc_pln x).2
  have p1 : plns (fs.map rcPV) = true := plns_mem.mpr fun v hv => by obtain ⟨x, _, rfl⟩ := List.mem_map.mp hv; exact (rc_pln x).1
  refine ⟨?_, ?_⟩
  · show pln (.tup [.int n, .tup (fs.map rcPV)]) = true
    simp [pln, plns, p1]
  · show dep (.tup [.int n, .tup (fs.map rcPV)]) ≤ 50
    simp only [dep, deps]
    omega
section
variable {P : Nat → Option IFn} {W d i j : Nat} {s : Sto} {Q : PV → Sto → Prop} {w : Wt}
/-- a row with an entry of too many letters -/
theorem lsm_b1 {row : List (Option En)} {e0 e1 e2 e3 e5 e6 e7 : Option PV} {bd : ISs} (hbd : bd = GL_small_b1 j) (hj : P j = some Gf_L_letters) (hl : row.length ≤ 100) (h : ∀ n fs, some (n, fs) ∈ row → fs.length ≤ 1000 ∧ ∀ r ∈ fs, r.length ≤ 1000 ∧ lets r ≤ 100000) :
    Ok (evSs (run P W (d + 1)) W bd [e0, e1, e2, e3, some (rowPV row), e5, e6, e7] s) fun o s' => (if (entsR row).any fun e => decide (24 < letsA e.2) then o = .rt (.bl false) else o = .nx [e0, e1, e2, e3, some (rowPV row), e5, e6, e7]) ∧ Fr0 s s' := by
  simp_arith only [hbd, GL_small_b1, rowPV]
  refine ok_lc (I := fun k acc s' => Fr0 s s' ∧ acc = ((entsR (row.take k)).filter fun e => decide (24 < letsA e.2)).map fun e => enPV (some e)) ?_ ?_ _ 0 _ _ (Nat.zero_le _) (by show (row.map enPV).length < 0 + ((row.map enPV).length + 1); omega) ⟨Fr0.refl _, by simp [entsR]⟩
  · rintro k v acc s' hv ⟨f, rfl⟩
    obtain ⟨e, he, rfl⟩ := map_get2 hv
    have hm := List.mem_of_getElem? he
    have er : entsR (row.take (k + 1)) = entsR (row.take k) ++ entsR [e] := by rw [List.take_add_one, he]; exact List.filterMap_append
    have l2 : ((entsR (row.take k)).filter fun e => decide (24 < letsA e.2)).length ≤ 100 := by
      have h1 := List.length_filter_le (fun e : En => decide (24 < letsA e.2)) (entsR (row.take k))
      have h2 := entsR_len (row.take k)
      rw [List.length_take] at h2
      omega
    refine ⟨_, setT_nm, ?_⟩
    cases e with
    | none =>
      simp_arith only [GL_small_t2, GL_small_e2, enPV]
      refine ⟨f, ?_⟩
      rw [er]
      simp [entsR]
    | some q =>
      obtain ⟨n, fs⟩ := q
      obtain ⟨x1, x2⟩ := h n fs hm
      simp_arith only [GL_small_t2, GL_small_e2, enPV, flPV]
      rw [x_idT rfl]
      try simp_arith only [ok_ok]
      refine (lletters_ok (d := d) hj x2).mono ?_
      rintro v s2 ⟨rfl, f2⟩
      simp_arith only [ok_ok]
      have ed : decide ((24 : Int) < ((letsA fs : Nat) : Int)) = decide (24 < letsA fs) := decide_eq_decide.mpr (by omega)
      rw [ed]
      cases hc : decide (24 < letsA fs) with
      | true =>
        simp_arith only [ok_ok]
        rw [x_acc (by rw [List.length_map]; omega)]
        refine ⟨f.trans f2, ?_⟩
        rw [er, List.filter_append, List.map_append]
        have : (entsR [some (n, fs)]).filter (fun e => decide (24 < letsA e.2)) = [(n, fs)] := by simp [entsR]; exact of_decide_eq_true hc
        rw [this]
        rfl
      | false =>
        simp_arith only [ok_ok]
        refine ⟨f.trans f2, ?_⟩
        rw [er, List.filter_append, List.map_append]
        have : (entsR [some (n, fs)]).filter (fun e => decide (24 < letsA e.2)) = [] := by simp [entsR]; have := of_decide_eq_false hc; omega
        rw [this]
        simp
  · rintro acc s' ⟨f, rfl⟩
    rw [List.length_map, List.take_length]
    have l2 : ((entsR row).filter fun e => decide (24 < letsA e.2)).length ≤ 100 := by
      have h1 := List.length_filter_le (fun e : En => decide (24 < letsA e.2)) (entsR row)
      have h2 := entsR_len row
      omega
    rw [x_newL (by rw [List.length_map]; omega)]
    obtain ⟨V, hV⟩ : ∃ V : List PV, V = ((entsR row).filter fun e => decide (24 < letsA e.2)).map fun e => enPV (some e) := ⟨_, rfl⟩
    rw [← hV]
    have f1 := f.trans (Fr0.new s' (.lst V))
    have g1 : (s'.new (.lst V)).get s'.nxt = some (.lst V) := get_new'
    have n1 : s'.nxt < (s'.new (.lst V)).nxt := Nat.lt_succ_self _
    generalize s'.new (.lst V) = s1 at f1 g1 n1
    generalize s'.nxt = l1 at g1 n1
    try simp_arith only [ok_ok]
    rw [x_newL (by simp)]
    have f2 := f1.trans (Fr0.new s1 (.lst []))
    have g2 : (s1.new (.lst [])).get s1.nxt = some (.lst []) := get_new'
    have g12 := (Fr0.new s1 (.lst [])).get g1 n1
    generalize s1.new (.lst []) = s2 at f2 g2 g12
    generalize s1.nxt = l2 at g2
    rw [x_neE g12 g2 (fun x hx => by rw [hV] at hx; obtain ⟨e, _, rfl⟩ := List.mem_map.mp hx; exact en_pln e)]
    have ea : ((entsR row).any fun e => decide (24 < letsA e.2)) = !V.isEmpty := by
      rw [hV]
      generalize entsR row = R
      induction R with
      | nil => rfl
      | cons a R ih =>
        rw [List.any_cons, List.filter_cons]
        cases hc : decide (24 < letsA a.2) with
        | true => rfl
        | false => rw [Bool.false_or, ih]; rfl
    rw [ea]
    cases V.isEmpty with
    | true =>
      simp_arith only [ok_ok]
      exact ⟨by first | rfl | trivial, f2⟩
    | false =>
      simp_arith only [ok_ok]
      exact ⟨by first | rfl | trivial, f2⟩
end
end Dp


set_option Elab.async false
set_option linter.all false
set_option maxRecDepth 100000
set_option maxHeartbeats 4000000
set_option autoImplicit false
/-! F76: small writers, judged by the law, whole. -/
namespace Dp
theorem fold_big (K : Int) : ∀ (r : List Int) (a : Int), decide (K < r.foldl (fun m j => if j > m then j else m) a) = (decide (K < a) || r.any fun j => decide (K < j)) := by
  intro r
  induction r with
  | nil => intro a; simp
  | cons b r ih =>
    intro a
    rw [List.foldl_cons, ih, List.any_cons, ← Bool.or_assoc]
    congr 1
    by_cases c : b > a
    · rw [if_pos c]
      by_cases k : K < b
      · rw [decide_eq_true k]; simp
      · rw [decide_eq_false k, decide_eq_false (by omega : ¬ K < a)]; rfl
    · rw [if_neg c]
      by_cases k : K < a
      · rw [decide_eq_true k]; rfl
      · rw [decide_eq_false k, decide_eq_false (by omega : ¬ K < b)]; rfl
theorem maxOf_big (K : Int) {is : List Int} (h : is ≠ []) : ∃ m, maxOf is = some m ∧ decide (K < m) = is.any fun j => decide (K < j) := by
  cases is with
  | nil => exact absurd rfl h
  | cons a r => exact ⟨_, rfl, by rw [fold_big, List.any_cons]⟩
theorem x_maxL {ns : List Nat} {m : Int} {s : Sto} {B : PV → Sto → Prop} (hm : maxOf (natI ns) = some m) : Ok (biSeq .maxL ((natI ns).map PV.int) s) B = B (.int m) s := by
  show Ok (match intsP ((natI ns).map PV.int) with | some is => (match maxOf is with | some m => R.ok (.int m) s | none => .err) | none => .err) B = _
  rw [intsP_nat]
  simp only [hm]
  exact ok_ok
theorem eo_pln (e : Option Rc) : pln (eoPV e) = true ∧ dep (eoPV e) ≤ 50 := by
  cases e with
  | none => exact ⟨rfl, by show dep .non ≤ 50; simp [dep]⟩
  | some r => exact ⟨(rc_pln r).1, Nat.le_trans (rc_pln r).2 (by omega)⟩
section
variable {P : Nat → Option IFn} {W d i j : Nat} {s : Sto} {Q : PV → Sto → Prop} {w : Wt}
theorem lsm_ok (hP : P i = some (Gf_L_small j)) (hj : P j = some Gf_L_letters) (h : BigW w) :
    Ok (run P W (d + 2) i [w.pv] s) fun v s' => v = .bl (smF w) ∧ Fr0 s s' := by
  obtain ⟨row0, hr0⟩ := h.r0
  have hd : w.rules.headD [] = row0 := by
    cases hw : w.rules with
    | nil => rw [hw] at hr0; simp at hr0
    | cons a r => rw [hw] at hr0; simp at hr0; simp [hr0]
  have lr := h.r1
  have lb := h.b1
  have le := h.e1
  have fin : ∀ {b : Bool} {s' : Sto}, Fr0 s s' → smF w = b → PV.bl b = .bl (smF w) ∧ Fr0 s (s'.drop s.nxt) := fun f e => ⟨by rw [e], f.drop⟩
  refine ok_run hP rfl fun bd hbd => ?_
  simp_arith only [hbd, GL_small, Wt.pv, List.length_map]
  by_cases c1 : 4 < w.rules.length
  · rw [decide_eq_true (by omega : (4 : Int) < (w.rules.length : Int))]
    simp_arith only [ok_ok]
    exact fin (Fr0.refl _) (by unfold smF; rw [decide_eq_false (by omega : ¬ w.rules.length ≤ 4)]; simp)
  rw [decide_eq_false (by omega : ¬ (4 : Int) < (w.rules.length : Int))]
  simp_arith only [ok_ok]
  rw [show (0 : Int) = ((0 : Nat) : Int) from rfl, x_idT (at_map hr0)]
  simp_arith only [rowPV, List.length_map]
  by_cases c2 : 3 < row0.length
  · rw [decide_eq_true (by omega : (3 : Int) < (row0.length : Int))]
    simp_arith only [ok_ok]
    exact fin (Fr0.refl _) (by unfold smF; rw [hd, decide_eq_false (by omega : ¬ row0.length ≤ 3)]; simp)
  rw [decide_eq_false (by omega : ¬ (3 : Int) < (row0.length : Int))]
  simp_arith only [List.length_map]
  by_cases c3 : 2 < w.begins.length
  · rw [decide_eq_true (by omega : (2 : Int) < (w.begins.length : Int))]
    simp_arith only [ok_ok]
    exact fin (Fr0.refl _) (by unfold smF; rw [decide_eq_false (by omega : ¬ w.begins.length ≤ 2)]; simp)
  rw [decide_eq_false (by omega : ¬ (2 : Int) < (w.begins.length : Int))]
  simp_arith only [ok_ok]
  refine ok_lc (I := fun k acc s' => s' = s ∧ acc = (natI ((w.begins.take k).map List.length)).map PV.int) ?_ ?_ _ 0 _ _ (Nat.zero_le _) (by show (w.begins.map PV.str).length < 0 + ((w.begins.map PV.str).length + 1); omega) ⟨rfl, rfl⟩
  · rintro k v acc s' hv ⟨rfl, rfl⟩
    obtain ⟨t, ht, rfl⟩ := map_get2 hv
    have := h.bt t (List.mem_of_getElem? ht)
    refine ⟨_, setT_nm, ?_⟩
    simp_arith only [GL_small_e3]
    rw [x_lenS (by omega)]
    try simp_arith only [ok_ok]
    rw [x_acc (by unfold natI; rw [List.length_map, List.length_map, List.length_map, List.length_take]; omega)]
    refine ⟨by first | rfl | trivial, ?_⟩
    rw [List.take_add_one, ht, List.map_append]
    unfold natI
    rw [List.map_append, List.map_append]
    rfl
  · rintro acc s' ⟨rfl, rfl⟩
    rw [List.length_map, List.take_length]
    have ne : natI (w.begins.map List.length) ≠ [] := by
      unfold natI
      intro z
      exact h.b0 (List.map_eq_nil_iff.mp (List.map_eq_nil_iff.mp z))
    obtain ⟨m, hm, hb⟩ := maxOf_big 24 ne
    rw [x_maxL hm]
    simp_arith only [ok_ok]
    have hb2 : decide ((24 : Int) < m) = w.begins.any fun t => decide (24 < t.length) := by
      rw [hb]
      unfold natI
      rw [List.any_map, List.any_map]
      congr 1
      funext t
      exact decide_eq_decide.mpr (by show (24 : Int) < ((t.length : Nat) : Int) ↔ _; omega)
    rw [hb2]
    cases a1 : w.begins.any fun t => decide (24 < t.length) with
    | true =>
      simp_arith only [ok_ok]
      exact fin (Fr0.refl _) (by unfold smF; rw [a1]; simp)
    | false =>
    simp_arith only [ok_ok]
    refine ok_for (I := fun k r s2 => Fr0 s' s2 ∧ (((w.rules.take k).flatMap entsR).any fun e => decide (24 < letsA e.2)) = false ∧ ∃ e4 e5 e6 e7, r = [some w.pv, some (.tup (w.begins.map PV.str)), some (.tup (w.rules.map rowPV)), some (.tup (w.ends.map eoPV)), e4, e5, e6, e7]) ?_ ?_ _ 0 _ _ (Nat.zero_le _) (by show (w.rules.map rowPV).length < 0 + ((w.rules.map rowPV).length + 1); omega) ⟨Fr0.refl _, rfl, none, none, none, none, rfl⟩
    · rintro k v r s2 hv ⟨f, fa, e4, e5, e6, e7, rfl⟩
      obtain ⟨row, hrow, rfl⟩ := map_get2 hv
      have hm := List.mem_of_getElem? hrow
      have rl := h.rr row hm
      refine ⟨_, setT_nm, ?_⟩
      simp_arith only [ok_ok]
      refine (lsm_b1 (d := d) rfl hj rl (h.en row hm)).mono ?_
      rintro o s3 ⟨ho, f3⟩
      cases a2 : (entsR row).any fun e => decide (24 < letsA e.2) with
      | true =>
        rw [a2, if_pos rfl] at ho
        subst ho
        refine fin (f.trans f3) ?_
        unfold smF
        have : ((entsF w).any fun e => decide (24 < letsA e.2)) = true := by
          unfold entsF
          rw [List.any_flatMap, List.any_eq_true]
          exact ⟨row, hm, a2⟩
        rw [this]
        simp
      | false =>
        rw [a2, if_neg (by simp)] at ho
        subst ho
        refine ⟨f.trans f3, ?_, _, _, _, _, rfl⟩
        rw [List.take_add_one, hrow, List.flatMap_append, List.any_append, fa]
        simp only [Option.toList, List.flatMap_cons, List.flatMap_nil, List.append_nil, a2, Bool.or_false]
    · rintro r s2 ⟨f2, a2, e4, e5, e6, e7, rfl⟩
      rw [List.length_map, List.take_length, show w.rules.flatMap entsR = entsF w from rfl] at a2
      simp_arith only [ok_ok]
      refine ok_lc (I := fun k acc s5 => Fr0 s2 s5 ∧ acc = ((w.ends.take k).filter endBig).map eoPV) ?_ ?_ _ 0 _ _ (Nat.zero_le _) (by show (w.ends.map eoPV).length < 0 + ((w.ends.map eoPV).length + 1); omega) ⟨Fr0.refl _, by simp⟩
      · rintro k v acc s5 hv ⟨f, rfl⟩
        obtain ⟨e, he, rfl⟩ := map_get2 hv
        have lf : ((w.ends.take k).filter endBig).length ≤ 100 := by
          have := List.length_filter_le endBig (w.ends.take k)
          rw [List.length_take] at this
          omega
        refine ⟨_, setT_nm, ?_⟩
        have at1 : (w.ends.take (k + 1)).filter endBig = (w.ends.take k).filter endBig ++ [e].filter endBig := by rw [List.take_add_one, he, List.filter_append]; rfl
        cases e with
        | none =>
          simp_arith only [GL_small_t1, eoPV]
          refine ⟨f, ?_⟩
          rw [at1]
          simp [endBig]
        | some q =>
          have ro := h.eo q (List.mem_of_getElem? he)
          simp_arith only [GL_small_t1, GL_small_e1, eoPV]
          rw [show Ok (cmpM .notN (rcPV q) .non s5) = fun B => B true s5 from funext fun B => ok_ok]
          simp_arith only [ok_ok]
          rw [x_newL (by simp)]
          have f6 := f.trans (Fr0.new s5 (.lst [rcPV q]))
          have g6 : (s5.new (.lst [rcPV q])).get s5.nxt = some (.lst [rcPV q]) := get_new'
          have n6 : s5.nxt < (s5.new (.lst [rcPV q])).nxt := Nat.lt_succ_self _
          generalize s5.new (.lst [rcPV q]) = s6 at f6 g6 n6
          generalize s5.nxt = l6 at g6 n6
          try simp_arith only [ok_ok]
          refine (lletters_okL (d := d) (rs := [q]) hj g6 n6 (fun z hz => by rw [List.mem_singleton.mp hz]; exact ro)).mono ?_
          rintro v s7 ⟨rfl, f7⟩
          simp_arith only [ok_ok]
          rw [show decide ((24 : Int) < ((letsA [q] : Nat) : Int)) = decide (24 < lets q) from decide_eq_decide.mpr (by unfold letsA; simp; omega)]
          rw [at1]
          cases hc : decide (24 < lets q) with
          | true =>
            simp_arith only [ok_ok]
            rw [x_acc (by rw [List.length_map]; omega)]
            refine ⟨f6.trans f7, ?_⟩
            rw [List.map_append, List.filter_cons_of_pos (by exact hc)]
            rfl
          | false =>
            simp_arith only [ok_ok]
            refine ⟨f6.trans f7, ?_⟩
            rw [List.filter_cons_of_neg (by show ¬ decide (24 < lets q) = true; rw [hc]; simp)]
            simp
      · rintro acc s5 ⟨f5, rfl⟩
        rw [List.length_map, List.take_length]
        have lf : (w.ends.filter endBig).length ≤ 100 := by
          have := List.length_filter_le endBig w.ends
          omega
        rw [x_newL (by rw [List.length_map]; omega)]
        obtain ⟨V, hV⟩ : ∃ V : List PV, V = (w.ends.filter endBig).map eoPV := ⟨_, rfl⟩
        rw [← hV]
        have f6 := (f2.trans f5).trans (Fr0.new s5 (.lst V))
        have g1 : (s5.new (.lst V)).get s5.nxt = some (.lst V) := get_new'
        have n1 : s5.nxt < (s5.new (.lst V)).nxt := Nat.lt_succ_self _
        generalize s5.new (.lst V) = s6 at f6 g1 n1
        generalize s5.nxt = l1 at g1 n1
        try simp_arith only [ok_ok]
        rw [x_newL (by simp)]
        have f7 := f6.trans (Fr0.new s6 (.lst []))
        have g2 : (s6.new (.lst [])).get s6.nxt = some (.lst []) := get_new'
        have g12 := (Fr0.new s6 (.lst [])).get g1 n1
        generalize s6.new (.lst []) = s7 at f7 g2 g12
        generalize s6.nxt = l2 at g2
        rw [x_eqE g12 g2 (fun x hx => by rw [hV] at hx; obtain ⟨e, _, rfl⟩ := List.mem_map.mp hx; exact eo_pln e)]
        try simp_arith only [ok_ok]
        refine fin f7 ?_
        have ea : (w.ends.any endBig) = !V.isEmpty := by
          rw [hV]
          generalize w.ends = R
          induction R with
          | nil => rfl
          | cons a R ih =>
            rw [List.any_cons, List.filter_cons]
            cases hc : endBig a with
            | true => rfl
            | false => rw [Bool.false_or, ih]; rfl
        unfold smF
        rw [hd, a1, a2, ea, decide_eq_true (by omega : w.rules.length ≤ 4), decide_eq_true (by omega : row0.length ≤ 3), decide_eq_true (by omega : w.begins.length ≤ 2)]
        simp
end
end Dp


set_option Elab.async false
set_option linter.all false
set_option maxRecDepth 100000
set_option maxHeartbeats 4000000
set_option autoImplicit false
/-! F77: the law's writers of all sizes are within bounds. -/
namespace Dp
theorem wt_big {K S B : Nat} {w : Wt} (h : WtOk K S B w) (hK : K ≤ 4) (hS : S ≤ 12) : BigW w := by
  have b3 := h.b3
  have s0 := h.s0
  have rc : ∀ r, RcOk B r → r.length ≤ 1000 ∧ lets r ≤ 100000 := fun r hr => ⟨Nat.le_trans hr.ln (by omega), Nat.le_trans hr.le (by omega)⟩
  refine ⟨by rw [h.bl]; omega, fun z => ?_, fun t ht => Nat.le_trans (h.bt t ht).1 (by omega), by rw [h.rl]; omega, ?_, fun row hr => by rw [(h.ro row hr).1]; omega, fun row hr n fs he => ?_, by rw [h.el]; omega, fun r hr => rc r (h.eo _ hr r rfl)⟩
  · have := h.bl
    have := h.b0
    rw [z] at *
    simp at *
    omega
  · exact ⟨w.rules[0]'(by rw [h.rl]; omega), List.getElem?_eq_getElem _⟩
  · obtain ⟨_, f⟩ := (h.ro row hr).2 _ he n fs rfl
    refine ⟨by rw [f.len]; omega, fun r hr => rc r (f.ok r hr)⟩
/-- a begin put -/
theorem big_begin {w : Wt} (h : BigW w) {k : Nat} {t : List Nat} (ht : t.length ≤ 100000) : BigW { w with begins := w.begins.set k t } := by
  refine ⟨by show (w.begins.set k t).length ≤ 100; rw [List.length_set]; exact h.b1, fun z => h.b0 ?_, fun u hu => ?_, h.r1, h.r0, h.rr, h.en, h.e1, h.eo⟩
  · have z : w.begins.set k t = [] := z
    have : (w.begins.set k t).length = 0 := by rw [z]; rfl
    rw [List.length_set] at this
    exact List.length_eq_zero_iff.mp this
  · rcases List.mem_or_eq_of_mem_set hu with q | q
    · exact h.bt u q
    · rw [q]; exact ht
/-- an end put -/
theorem big_end {w : Wt} (h : BigW w) {k : Nat} {r : Rc} (hr : r.length ≤ 1000 ∧ lets r ≤ 100000) : BigW { w with ends := w.ends.set k (some r) } := by
  refine ⟨h.b1, h.b0, h.bt, h.r1, h.r0, h.rr, h.en, by show (w.ends.set k (some r)).length ≤ 100; rw [List.length_set]; exact h.e1, fun q hq => ?_⟩
  rcases List.mem_or_eq_of_mem_set hq with z | z
  · exact h.eo q z
  · injection z with z; rw [z]; exact hr
/-- an entry put -/
theorem big_entry {w : Wt} (h : BigW w) {k j n : Nat} {fs : List Rc} {row : List (Option En)} (hrow : row ∈ w.rules) (hf : fs.length ≤ 1000 ∧ ∀ r ∈ fs, r.length ≤ 1000 ∧ lets r ≤ 100000) : BigW { w with rules := w.rules.set k (row.set j (some (n, fs))) } := by
  have key : ∀ q ∈ w.rules.set k (row.set j (some (n, fs))), q ∈ w.rules ∨ q = row.set j (some (n, fs)) := fun q hq => List.mem_or_eq_of_mem_set hq
  refine ⟨h.b1, h.b0, h.bt, by show (w.rules.set k (row.set j (some (n, fs)))).length ≤ 100; rw [List.length_set]; exact h.r1, ?_, fun q hq => ?_, fun q hq m gs hm => ?_, h.e1, h.eo⟩
  · obtain ⟨r0, hr0⟩ := h.r0
    have l0 := (List.getElem?_eq_some_iff.mp hr0).1
    exact ⟨(w.rules.set k (row.set j (some (n, fs))))[0]'(by rw [List.length_set]; exact l0), List.getElem?_eq_getElem _⟩
  · rcases key q hq with z | z
    · exact h.rr q z
    · rw [z, List.length_set]; exact h.rr row hrow
  · rcases key q hq with z | z
    · exact h.en q z m gs hm
    · rw [z] at hm
      rcases List.mem_or_eq_of_mem_set hm with y | y
      · exact h.en row hrow m gs y
      · injection y with y; injection y with y1 y2; rw [y2]; exact hf
/-- the first row and the first end, many times -/
theorem big_rep {w : Wt} (h : BigW w) {n : Nat} (h1 : 1 ≤ n) (h2 : n ≤ 100) {row : List (Option En)} {e : Option Rc} (hrow : row ∈ w.rules) (he : e ∈ w.ends) : BigW ⟨w.begins, List.replicate n row, List.replicate n e⟩ := by
  refine ⟨h.b1, h.b0, h.bt, by show (List.replicate n row).length ≤ 100; rw [List.length_replicate]; exact h2, ?_, fun q hq => ?_, fun q hq m gs hm => ?_, by show (List.replicate n e).length ≤ 100; rw [List.length_replicate]; exact h2, fun r hr => ?_⟩
  · exact ⟨row, by show (List.replicate n row)[0]? = some row; rw [List.getElem?_replicate, if_pos (by omega)]⟩
  · rw [(List.mem_replicate.mp hq).2]; exact h.rr row hrow
  · rw [(List.mem_replicate.mp hq).2] at hm; exact h.en row hrow m gs hm
  · rw [← (List.mem_replicate.mp hr).2] at he; exact h.eo r he
theorem cut_tkJ {α : Type} (xs : List α) {k : Nat} (h : k ≤ xs.length) : cut xs none (some (k : Int)) = xs.take k := by
  unfold cut slLo slHi slIx
  simp only
  rw [if_pos (by omega), Int.toNat_natCast, Nat.min_eq_left h]
  simp
theorem cut_drJ {α : Type} (xs : List α) {k : Nat} (h : k ≤ xs.length) : cut xs (some (k : Int)) none = xs.drop k := by
  unfold cut slLo slHi slIx
  simp only
  rw [if_pos (by omega), Int.toNat_natCast, Nat.min_eq_left h]
  rw [List.take_of_length_le (by rw [List.length_drop]; omega)]
section
variable {P : Nat → Option IFn} {W d i j : Nat} {s : Sto} {Q : PV → Sto → Prop} {w : Wt}
/-- a place of a tuple, put anew -/
theorem at_ok {xs : List PV} {k : Nat} {t : PV} (hP : P i = some Gf_L_at) (hk : k < xs.length) (hx : xs.length ≤ 100000) :
    Ok (run P W (d + 1) i [.tup xs, .int k, t] s) fun v s' => v = .tup (xs.set k t) ∧ Fr0 s s' := by
  refine ok_run hP rfl fun bd hbd => ?_
  simp_arith only [hbd, GL_at]
  rw [x_tup (by simp)]
  simp_arith only [ok_ok]
  rw [cut_tkJ xs (Nat.le_of_lt hk), show ((k : Int) + 1) = ((k + 1 : Nat) : Int) from rfl, cut_drJ xs hk]
  rw [if_pos (by rw [List.length_append, List.length_take]; simp; omega)]
  rw [if_pos (by rw [List.length_append, List.length_append, List.length_take, List.length_drop]; simp; omega)]
  refine ⟨?_, (Fr0.refl _).drop⟩
  rw [List.set_eq_take_append_cons_drop, if_pos hk]
  simp
end
end Dp


set_option Elab.async false
set_option linter.all false
set_option maxRecDepth 100000
set_option autoImplicit false
/-! Gn02b: the body of _law_sized (printed by mkgen.py). -/
namespace Dp
/-- _law_sized(pen): _law_one_of, _law_writer, _law_draw, _law_at; 11 slots: 0 pen 1 kinds 2 writer 3 many 4 size 5 option 6 state 7 kind 8 half 9 fills 10 entry; keep False -/
def GL_sized (i_one_of i_writer i_draw i_at : Nat) : ISs := (.cons (.asg (.nm 1) (.call i_one_of (.cons (.var 0) (.cons (.lst (.cons (.cst (.int 1)) (.cons (.cst (.int 3)) (.cons (.cst (.int 3)) (.cons (.cst (.int 4)) .nil))))) .nil)))) (.cons (.asg (.nm 2) (.call i_writer (.cons (.var 0) (.cons (.var 1) (.cons (.call i_one_of (.cons (.var 0) (.cons (.lst (.cons (.cst (.int 1)) (.cons (.cst (.int 3)) .nil))) .nil))) (.cons (.call i_one_of (.cons (.var 0) (.cons (.lst (.cons (.cst (.int 2)) (.cons (.cst (.int 2)) (.cons (.cst (.int 3)) .nil)))) .nil))) .nil)))))) (.cons (.ife (.cmp .eq (.call i_draw (.cons (.var 0) (.cons (.cst (.int 3)) .nil))) (.cst (.int 0))) (.cons (.asg (.nm 3) (.call i_one_of (.cons (.var 0) (.cons (.lst (.cons (.cst (.int 4)) (.cons (.cst (.int 5)) (.cons (.cst (.int 12)) .nil)))) .nil)))) (.cons (.asg (.nm 2) (.tup (.cons (.idx (.var 2) (.cst (.int 0))) (.cons (.bin .mul (.tup (.cons (.idx (.idx (.var 2) (.cst (.int 1))) (.cst (.int 0))) .nil)) (.var 3)) (.cons (.bin .mul (.tup (.cons (.idx (.idx (.var 2) (.cst (.int 2))) (.cst (.int 0))) .nil)) (.var 3)) .nil))))) .nil)) .nil) (.cons (.asg (.nm 4) (.call i_one_of (.cons (.var 0) (.cons (.lst (.cons (.cst (.int 23)) (.cons (.cst (.int 24)) (.cons (.cst (.int 25)) (.cons (.cst (.int 240)) .nil))))) .nil)))) (.cons (.asg (.tp (.cons (.nm 5) (.cons (.nm 6) (.cons (.nm 7) .nil)))) (.tup (.cons (.call i_draw (.cons (.var 0) (.cons (.cst (.int 4)) .nil))) (.cons (.call i_draw (.cons (.var 0) (.cons (.bi .len (.cons (.idx (.var 2) (.cst (.int 1))) .nil)) .nil))) (.cons (.call i_draw (.cons (.var 0) (.cons (.var 1) .nil))) .nil))))) (.cons (.asg (.nm 8) (.bin .fdiv (.var 4) (.cst (.int 2)))) (.cons (.ife (.cmp .eq (.var 5) (.cst (.int 0))) (.cons (.ret (.tup (.cons (.call i_at (.cons (.idx (.var 2) (.cst (.int 0))) (.cons (.bin .sub (.bi .len (.cons (.idx (.var 2) (.cst (.int 0))) .nil)) (.cst (.int 1))) (.cons (.bin .mul (.cst (.str [109])) (.var 4)) .nil)))) (.cons (.idx (.var 2) (.cst (.int 1))) (.cons (.idx (.var 2) (.cst (.int 2))) .nil))))) .nil) .nil) (.cons (.ife (.cmp .eq (.var 5) (.cst (.int 1))) (.cons (.ret (.tup (.cons (.idx (.var 2) (.cst (.int 0))) (.cons (.idx (.var 2) (.cst (.int 1))) (.cons (.call i_at (.cons (.idx (.var 2) (.cst (.int 2))) (.cons (.var 6) (.cons (.tup (.cons (.bin .mul (.cst (.str [97])) (.var 8)) (.cons (.cst (.int 0)) (.cons (.bin .mul (.cst (.str [98])) (.bin .sub (.var 4) (.var 8))) .nil)))) .nil)))) .nil))))) .nil) .nil) (.cons (.ife (.cmp .eq (.var 5) (.cst (.int 2))) (.cons (.asg (.nm 9) (.lst (.cons (.tup (.cons (.bin .mul (.cst (.str [97])) (.var 8)) .nil)) (.cons (.tup (.cons (.cst (.int 0)) (.cons (.bin .mul (.cst (.str [98])) (.bin .sub (.var 4) (.var 8))) .nil))) (.cons (.tup .nil) .nil))))) (.cons (.asg (.nm 10) (.tup (.cons (.var 6) (.cons (.bi .tuple (.cons (.sl (.var 9) .none (.some (.bi .len (.cons (.idx (.var 2) (.cst (.int 0))) .nil)))) .nil)) .nil)))) (.cons (.ret (.tup (.cons (.idx (.var 2) (.cst (.int 0))) (.cons (.call i_at (.cons (.idx (.var 2) (.cst (.int 1))) (.cons (.var 6) (.cons (.call i_at (.cons (.idx (.idx (.var 2) (.cst (.int 1))) (.var 6)) (.cons (.var 7) (.cons (.var 10) .nil)))) .nil)))) (.cons (.idx (.var 2) (.cst (.int 2))) .nil))))) .nil))) .nil) (.cons (.ret (.var 2)) .nil))))))))))
def Gf_L_sized (i_one_of i_writer i_draw i_at : Nat) : IFn := ⟨1, 11, false, GL_sized i_one_of i_writer i_draw i_at⟩
end Dp


set_option Elab.async false
set_option linter.all false
set_option maxRecDepth 100000
set_option maxHeartbeats 4000000
set_option autoImplicit false
/-! F78: writers of all sizes, drawn. -/
namespace Dp
/-- from the size on -/
def sizedT (x : Ix) (j : Nat) : ISs := (.cons (.asg (.nm 4) (.call x.one (.cons (.var 0) (.cons (.lst (.cons (.cst (.int 23)) (.cons (.cst (.int 24)) (.cons (.cst (.int 25)) (.cons (.cst (.int 240)) .nil))))) .nil)))) (.cons (.asg (.tp (.cons (.nm 5) (.cons (.nm 6) (.cons (.nm 7) .nil)))) (.tup (.cons (.call x.draw (.cons (.var 0) (.cons (.cst (.int 4)) .nil))) (.cons (.call x.draw (.cons (.var 0) (.cons (.bi .len (.cons (.idx (.var 2) (.cst (.int 1))) .nil)) .nil))) (.cons (.call x.draw (.cons (.var 0) (.cons (.var 1) .nil))) .nil))))) (.cons (.asg (.nm 8) (.bin .fdiv (.var 4) (.cst (.int 2)))) (.cons (.ife (.cmp .eq (.var 5) (.cst (.int 0))) (.cons (.ret (.tup (.cons (.call j (.cons (.idx (.var 2) (.cst (.int 0))) (.cons (.bin .sub (.bi .len (.cons (.idx (.var 2) (.cst (.int 0))) .nil)) (.cst (.int 1))) (.cons (.bin .mul (.cst (.str [109])) (.var 4)) .nil)))) (.cons (.idx (.var 2) (.cst (.int 1))) (.cons (.idx (.var 2) (.cst (.int 2))) .nil))))) .nil) .nil) (.cons (.ife (.cmp .eq (.var 5) (.cst (.int 1))) (.cons (.ret (.tup (.cons (.idx (.var 2) (.cst (.int 0))) (.cons (.idx (.var 2) (.cst (.int 1))) (.cons (.call j (.cons (.idx (.var 2) (.cst (.int 2))) (.cons (.var 6) (.cons (.tup (.cons (.bin .mul (.cst (.str [97])) (.var 8)) (.cons (.cst (.int 0)) (.cons (.bin .mul (.cst (.str [98])) (.bin .sub (.var 4) (.var 8))) .nil)))) .nil)))) .nil))))) .nil) .nil) (.cons (.ife (.cmp .eq (.var 5) (.cst (.int 2))) (.cons (.asg (.nm 9) (.lst (.cons (.tup (.cons (.bin .mul (.cst (.str [97])) (.var 8)) .nil)) (.cons (.tup (.cons (.cst (.int 0)) (.cons (.bin .mul (.cst (.str [98])) (.bin .sub (.var 4) (.var 8))) .nil))) (.cons (.tup .nil) .nil))))) (.cons (.asg (.nm 10) (.tup (.cons (.var 6) (.cons (.bi .tuple (.cons (.sl (.var 9) .none (.some (.bi .len (.cons (.idx (.var 2) (.cst (.int 0))) .nil)))) .nil)) .nil)))) (.cons (.ret (.tup (.cons (.idx (.var 2) (.cst (.int 0))) (.cons (.call j (.cons (.idx (.var 2) (.cst (.int 1))) (.cons (.var 6) (.cons (.call j (.cons (.idx (.idx (.var 2) (.cst (.int 1))) (.var 6)) (.cons (.var 7) (.cons (.var 10) .nil)))) .nil)))) (.cons (.idx (.var 2) (.cst (.int 2))) .nil))))) .nil))) .nil) (.cons (.ret (.var 2)) .nil)))))))
theorem sized_form (x : Ix) (j : Nat) : GL_sized x.one x.writer x.draw j = (.cons (.asg (.nm 1) (.call x.one (.cons (.var 0) (.cons (.lst (.cons (.cst (.int 1)) (.cons (.cst (.int 3)) (.cons (.cst (.int 3)) (.cons (.cst (.int 4)) .nil))))) .nil)))) (.cons (.asg (.nm 2) (.call x.writer (.cons (.var 0) (.cons (.var 1) (.cons (.call x.one (.cons (.var 0) (.cons (.lst (.cons (.cst (.int 1)) (.cons (.cst (.int 3)) .nil))) .nil))) (.cons (.call x.one (.cons (.var 0) (.cons (.lst (.cons (.cst (.int 2)) (.cons (.cst (.int 2)) (.cons (.cst (.int 3)) .nil)))) .nil))) .nil)))))) (.cons (.ife (.cmp .eq (.call x.draw (.cons (.var 0) (.cons (.cst (.int 3)) .nil))) (.cst (.int 0))) (.cons (.asg (.nm 3) (.call x.one (.cons (.var 0) (.cons (.lst (.cons (.cst (.int 4)) (.cons (.cst (.int 5)) (.cons (.cst (.int 12)) .nil)))) .nil)))) (.cons (.asg (.nm 2) (.tup (.cons (.idx (.var 2) (.cst (.int 0))) (.cons (.bin .mul (.tup (.cons (.idx (.idx (.var 2) (.cst (.int 1))) (.cst (.int 0))) .nil)) (.var 3)) (.cons (.bin .mul (.tup (.cons (.idx (.idx (.var 2) (.cst (.int 2))) (.cst (.int 0))) .nil)) (.var 3)) .nil))))) .nil)) .nil) (sizedT x j)))) := rfl
/-- a writer whose table is whole -/
structure SzW (K : Nat) (w : Wt) : Prop extends BigW w where
  q0 : 1 ≤ w.rules.length
  q1 : w.rules.length ≤ 12
  qk : ∀ row ∈ w.rules, row.length = K
  qe : w.ends.length = w.rules.length
  qb : w.begins.length ≤ 3
section
variable {P : Nat → Option IFn} {x : Ix} {W d i j p c : Nat} {s : Sto} {w : Wt}
/-- a number out of a list that is made for it -/
theorem oneN {ns : List Nat} {Q : PV → Sto → Prop} (hx : HasP P x) (h : PenS s p c) (h0 : ns ≠ []) (h9 : ns.length ≤ 100) (hQ : ∀ n ∈ ns, ∀ s', PenS s' p c → Frp p s s' → Q (.int (n : Nat)) s') :
    Ok (newLst (ns.map fun n : Nat => PV.int (n : Nat)) s) fun a s' => Ok (run P W (d + 3) x.one [.loc p, a] s') Q := by
  rw [x_newL (by rw [List.length_map]; omega)]
  have f1 := Fr0.new s (.lst (ns.map fun n : Nat => PV.int (n : Nat)))
  refine (oneW hx (h.fr0 f1) get_new' (by rw [nxt_new]; omega) (Nat.ne_of_gt h.lt) (fun z => h0 (List.map_eq_nil_iff.mp z)) (by rw [List.length_map]; omega)).mono ?_
  rintro v s2 ⟨hv, hp2, f2⟩
  obtain ⟨n, hn, rfl⟩ := List.mem_map.mp hv
  exact hQ n hn s2 hp2 ((f1.p p).trans f2)
theorem l1334 : [PV.int 1, PV.int 3, PV.int 3, PV.int 4] = [1, 3, 3, 4].map (fun n : Nat => PV.int (n : Nat)) := rfl
theorem l13 : [PV.int 1, PV.int 3] = [1, 3].map (fun n : Nat => PV.int (n : Nat)) := rfl
theorem l223 : [PV.int 2, PV.int 2, PV.int 3] = [2, 2, 3].map (fun n : Nat => PV.int (n : Nat)) := rfl
theorem l4512 : [PV.int 4, PV.int 5, PV.int 12] = [4, 5, 12].map (fun n : Nat => PV.int (n : Nat)) := rfl
theorem lsize : [PV.int 23, PV.int 24, PV.int 25, PV.int 240] = [23, 24, 25, 240].map (fun n : Nat => PV.int (n : Nat)) := rfl
theorem x_fd2 {n : Nat} {s : Sto} {B : PV → Sto → Prop} : Ok (binM .fdiv (.int (n : Nat)) (.int 2) s) B = B (.int (n / 2 : Nat)) s := by
  show Ok (if (0 : Int) < 2 then R.ok (.int ((n : Int) / 2)) s else if (2 : Int) ≠ 0 then .ok (.int ((n : Int).fdiv 2)) s else .err) B = _
  rw [if_pos (by decide), show (n : Int) / 2 = ((n / 2 : Nat) : Int) from by omega]
  exact ok_ok
theorem rep1 (n a : Nat) : rep n [a] = List.replicate n a := by
  induction n with
  | zero => rfl
  | succ n ih => show [a] ++ rep n [a] = _; rw [ih]; rfl
theorem x_mulC {a n : Nat} {s : Sto} {B : PV → Sto → Prop} (h : n ≤ 240) : Ok (binM .mul (.str [a]) (.int (n : Nat)) s) B = B (.str (List.replicate n a)) s := by
  show Ok (if -1000 ≤ ((n : Nat) : Int) ∧ ((n : Nat) : Int) ≤ 100000 ∧ [a].length * ((n : Nat) : Int).toNat ≤ 16777216 then .ok (.str (rep ((n : Nat) : Int).toNat [a])) s else .err) B = _
  rw [if_pos ⟨by omega, by omega, by simp; omega⟩, Int.toNat_natCast, rep1]
  exact ok_ok
theorem rep1' (n : Nat) (a : PV) : rep n [a] = List.replicate n a := by
  induction n with
  | zero => rfl
  | succ n ih => show [a] ++ rep n [a] = _; rw [ih]; rfl
theorem x_mulP {a : PV} {n : Nat} {s : Sto} {B : PV → Sto → Prop} (h : n ≤ 240) : Ok (binM .mul (.tup [a]) (.int (n : Nat)) s) B = B (.tup (List.replicate n a)) s := by
  show Ok (if -1000 ≤ ((n : Nat) : Int) ∧ ((n : Nat) : Int) ≤ 10000 ∧ [a].length ≤ 1000 then R.ok (.tup (rep ((n : Nat) : Int).toNat [a])) s else .err) B = _
  rw [if_pos ⟨by omega, by omega, by simp⟩, Int.toNat_natCast, rep1']
  exact ok_ok
theorem sizedT_ok {K : Nat} {e3 e4 e5 e6 e7 e8 e9 e10 : Option PV} {Q : Out → Sto → Prop} (hx : HasE P x) (hj : P j = some Gf_L_at) (h : PenS s p c) (hw : SzW K w) (hK : 1 ≤ K) (hK4 : K ≤ 4) (hQ : ∀ w' s', BigW w' → PenS s' p c → Frp p s s' → Q (.rt w'.pv) s') :
    Ok (evSs (run P W (d + 8)) W (sizedT x j) [some (.loc p), some (.int (K : Nat)), some w.pv, e3, e4, e5, e6, e7, e8, e9, e10] s) Q := by
  have q0 := hw.q0
  have q1 := hw.q1
  simp_arith only [sizedT]
  rw [lsize]
  refine oneN (d := d + 5) hx.toHasP h (by simp) (by simp) fun n hn s1 hp1 f1 => ?_
  try simp_arith only [ok_ok]
  have n2 : n ≤ 240 := by simp at hn; omega
  refine (draw_ok (d := d + 6) hx.hD hx.hF hp1 (by decide) (by decide)).mono ?_
  rintro v s2 ⟨⟨o, rfl, o0, o1⟩, hp2, f2⟩
  try simp_arith only [ok_ok]
  rw [x_w1]
  try simp_arith only [List.length_map]
  refine (draw_ok (d := d + 6) hx.hD hx.hF hp2 (by omega) (by omega)).mono ?_
  rintro v s3 ⟨⟨q, rfl, z0, z1⟩, hp3, f3⟩
  try simp_arith only [ok_ok]
  refine (draw_ok (d := d + 6) hx.hD hx.hF hp3 (by omega) (by omega)).mono ?_
  rintro v s4 ⟨⟨k, rfl, k0, k1⟩, hp4, f4⟩
  have f14 := ((f1.trans f2).trans f3).trans f4
  obtain ⟨q, rfl⟩ := Int.eq_ofNat_of_zero_le z0
  obtain ⟨k, rfl⟩ := Int.eq_ofNat_of_zero_le k0
  try simp_arith only [ok_ok]
  rw [x_tup (by simp)]
  simp_arith only [ok_ok]
  rw [x_fd2]
  have hq : q < w.rules.length := by omega
  obtain ⟨hl, hhl⟩ : ∃ hl, hl = n / 2 := ⟨_, rfl⟩
  have bb : 1 ≤ w.begins.length := List.length_pos_iff.mpr hw.b0
  rw [← hhl]
  by_cases c0 : o = 0
  · subst c0
    simp only [beq_self_eq_true, if_true]
    rw [x_w0]
    try simp_arith only [ok_ok]
    rw [x_w0]
    try simp_arith only [List.length_map]
    rw [show ((w.begins.length : Nat) : Int) - 1 = ((w.begins.length - 1 : Nat) : Int) from by omega, x_mulC n2]
    refine (at_ok (d := d + 7) hj (by rw [List.length_map]; omega) (by rw [List.length_map]; have := hw.b1; omega)).mono ?_
    rintro v s5 ⟨rfl, f5⟩
    rw [x_w1]
    try simp_arith only [ok_ok]
    rw [x_w2]
    try simp_arith only [ok_ok]
    rw [x_tup (by simp)]
    have := hQ { w with begins := w.begins.set (w.begins.length - 1) (List.replicate n 109) } s5 (big_begin hw.toBigW (by rw [List.length_replicate]; omega)) (hp4.fr0 f5) (f14.trans (f5.p p))
    rw [← List.map_set]
    exact this
  rw [if_neg (by simpa using c0)]
  have rcp : ∀ a b, ([.pc (List.replicate hl a), .bf 0, .pc (List.replicate (n - hl) b)] : Rc).length ≤ 1000 ∧ lets ([.pc (List.replicate hl a), .bf 0, .pc (List.replicate (n - hl) b)] : Rc) ≤ 100000 := fun a b => ⟨by simp, by simp [lets, let1]; omega⟩
  by_cases c1 : o = 1
  · subst c1
    simp only [beq_self_eq_true, if_true]
    rw [x_w0]
    try simp_arith only [ok_ok]
    rw [x_w1]
    try simp_arith only [ok_ok]
    rw [x_w2]
    try simp_arith only [ok_ok]
    rw [x_mulC (by omega)]
    try simp_arith only [ok_ok]
    rw [show ((n : Nat) : Int) - ((hl : Nat) : Int) = ((n - hl : Nat) : Int) from by omega, x_mulC (by omega)]
    rw [x_tup (by simp)]
    refine (at_ok (d := d + 7) hj (by rw [List.length_map, hw.qe]; exact hq) (by rw [List.length_map]; have := hw.e1; omega)).mono ?_
    rintro v s5 ⟨rfl, f5⟩
    rw [x_tup (by simp)]
    have := hQ { w with ends := w.ends.set q (some [.pc (List.replicate hl 97), .bf 0, .pc (List.replicate (n - hl) 98)]) } s5 (big_end hw.toBigW (rcp 97 98)) (hp4.fr0 f5) (f14.trans (f5.p p))
    have e : (w.ends.map eoPV).set q (.tup [.str (List.replicate hl 97), .int 0, .str (List.replicate (n - hl) 98)]) = (w.ends.set q (some [.pc (List.replicate hl 97), .bf 0, .pc (List.replicate (n - hl) 98)])).map eoPV := by rw [List.map_set]; rfl
    rw [e]
    exact this
  rw [if_neg (by simpa using c1)]
  by_cases c2 : o = 2
  · subst c2
    simp only [beq_self_eq_true, if_true]
    rw [x_mulC (by omega)]
    try simp_arith only [ok_ok]
    rw [x_tup (by simp)]
    try simp_arith only [ok_ok]
    rw [show ((n : Nat) : Int) - ((hl : Nat) : Int) = ((n - hl : Nat) : Int) from by omega, x_mulC (by omega)]
    rw [x_tup (by simp), x_tup (by simp), x_newL (by simp)]
    obtain ⟨fs, hfs⟩ : ∃ fs : List Rc, fs = [[.pc (List.replicate hl 97)], [.bf 0, .pc (List.replicate (n - hl) 98)], []] := ⟨_, rfl⟩
    have ef : [PV.tup [.str (List.replicate hl 97)], PV.tup [.int 0, .str (List.replicate (n - hl) 98)], PV.tup []] = fs.map rcPV := by rw [hfs]; rfl
    rw [ef]
    have f6 := Fr0.new s4 (.lst (fs.map rcPV))
    have g6 : (s4.new (.lst (fs.map rcPV))).get s4.nxt = some (.lst (fs.map rcPV)) := get_new'
    generalize s4.new (.lst (fs.map rcPV)) = s6 at f6 g6
    generalize s4.nxt = l6 at g6
    rw [x_w0]
    try simp_arith only [List.length_map]
    have hfl : fs.length = 3 := by rw [hfs]; rfl
    rw [x_slL (lst_at g6), cut_tkJ _ (by rw [List.length_map, hfl]; exact hw.qb), ← List.map_take, x_newL (by rw [List.length_map, List.length_take]; omega)]
    have f7 := f6.trans (Fr0.new s6 (.lst ((fs.take w.begins.length).map rcPV)))
    have g7 : (s6.new (.lst ((fs.take w.begins.length).map rcPV))).get s6.nxt = some (.lst ((fs.take w.begins.length).map rcPV)) := get_new'
    generalize s6.new (.lst ((fs.take w.begins.length).map rcPV)) = s7 at f7 g7
    generalize s6.nxt = l7 at g7
    rw [x_tuL (lst_at g7) (by rw [List.length_map, List.length_take]; omega), x_tup (by simp), x_w0]
    try simp_arith only [ok_ok]
    rw [x_w1]
    try simp_arith only [ok_ok]
    rw [x_w1]
    try simp_arith only [ok_ok]
    obtain ⟨row, hrow⟩ : ∃ row, w.rules[q]? = some row := ⟨_, List.getElem?_eq_getElem hq⟩
    have hm := List.mem_of_getElem? hrow
    rw [x_idT (at_map hrow)]
    simp only [rowPV]
    have hf2 : (fs.take w.begins.length).length ≤ 1000 ∧ ∀ r ∈ fs.take w.begins.length, r.length ≤ 1000 ∧ lets r ≤ 100000 := by
      refine ⟨by rw [List.length_take]; omega, fun r hr => ?_⟩
      have hr := List.mem_of_mem_take hr
      rw [hfs] at hr
      simp only [List.mem_cons, List.not_mem_nil, or_false] at hr
      rcases hr with rfl | rfl | rfl
      · exact ⟨by simp, by simp [lets, let1]; omega⟩
      · exact ⟨by simp, by simp [lets, let1]; omega⟩
      · exact ⟨by simp, by simp [lets]⟩
    refine (at_ok (d := d + 7) hj (by rw [List.length_map, hw.qk row hm]; omega) (by rw [List.length_map]; have := hw.rr row hm; omega)).mono ?_
    rintro v s8 ⟨rfl, f8⟩
    refine (at_ok (d := d + 7) hj (by rw [List.length_map]; exact hq) (by rw [List.length_map]; omega)).mono ?_
    rintro v s9 ⟨rfl, f9⟩
    rw [x_w2]
    try simp_arith only [ok_ok]
    rw [x_tup (by simp)]
    have f49 := (f7.trans f8).trans f9
    have := hQ { w with rules := w.rules.set q (row.set k (some (q, fs.take w.begins.length))) } s9 (big_entry hw.toBigW hm hf2) (hp4.fr0 f49) (f14.trans (f49.p p))
    have e2 : (row.map enPV).set k (.tup [.int (q : Nat), .tup ((fs.take w.begins.length).map rcPV)]) = (row.set k (some (q, fs.take w.begins.length))).map enPV := by rw [List.map_set]; rfl
    have e : (w.rules.map rowPV).set q (.tup ((row.map enPV).set k (.tup [.int (q : Nat), .tup ((fs.take w.begins.length).map rcPV)]))) = (w.rules.set q (row.set k (some (q, fs.take w.begins.length)))).map rowPV := by
      rw [e2]
      exact List.map_set.symm
    have e3 : ∀ z, z = (w.rules.set q (row.set k (some (q, fs.take w.begins.length)))).map rowPV → Q (.rt (.tup [.tup (w.begins.map PV.str), .tup z, .tup (w.ends.map eoPV)])) s9 := fun z hz => by rw [hz]; exact this
    exact e3 _ e
  rw [if_neg (by simpa using c2)]
  exact hQ w s4 hw.toBigW hp4 f14
theorem sized_ok (hx : HasE P x) (hP : P i = some (Gf_L_sized x.one x.writer x.draw j)) (hj : P j = some Gf_L_at) (h : PenS s p c) :
    Ok (run P W (d + 9) i [.loc p] s) fun v s' => (∃ w, v = w.pv ∧ BigW w) ∧ PenS s' p c ∧ Frp p s s' := by
  refine ok_run hP rfl fun bd hbd => ?_
  simp_arith only [hbd, sized_form]
  rw [l1334]
  refine oneN (d := d + 5) hx.toHasP h (by simp) (by simp) fun K hK s1 hp1 f1 => ?_
  try simp_arith only [ok_ok]
  rw [l13]
  refine oneN (d := d + 5) hx.toHasP hp1 (by simp) (by simp) fun n hn s2 hp2 f2 => ?_
  try simp_arith only [ok_ok]
  rw [l223]
  refine oneN (d := d + 5) hx.toHasP hp2 (by simp) (by simp) fun m hm s3 hp3 f3 => ?_
  try simp_arith only [ok_ok]
  have K4 : 1 ≤ K ∧ K ≤ 4 := by simp at hK; omega
  have n3 : 1 ≤ n ∧ n ≤ 3 := by simp at hn; omega
  have m3 : 1 ≤ m ∧ m ≤ 3 := by simp at hm; omega
  refine (writer_okE (d := d) hx hp3 K4.2 n3.1 (by omega) m3.1 m3.2).mono ?_
  rintro v s4 ⟨⟨w, S, B, rfl, hw, hS, hB, _⟩, hp4, f4⟩
  try simp_arith only [ok_ok]
  refine (draw_ok (d := d + 6) hx.hD hx.hF hp4 (by decide) (by decide)).mono ?_
  rintro v s5 ⟨⟨k, rfl, k0, k1⟩, hp5, f5⟩
  have f15 := (((f1.trans f2).trans f3).trans f4).trans f5
  try simp_arith only [ok_ok]
  have sz : SzW K w := ⟨wt_big hw K4.2 (by omega), by rw [hw.rl]; exact hw.s0, by rw [hw.rl]; omega, fun row hr => (hw.ro row hr).1, by rw [hw.el, hw.rl], by rw [hw.bl]; exact hw.b3⟩
  by_cases ck : k = 0
  · subst ck
    simp only [beq_self_eq_true, if_true]
    rw [l4512]
    refine oneN (d := d + 5) hx.toHasP hp5 (by simp) (by simp) fun r hr s6 hp6 f6 => ?_
    have r12 : 1 ≤ r ∧ r ≤ 12 := by simp at hr; omega
    rw [x_w0]
    try simp_arith only [ok_ok]
    rw [x_w1]
    try simp_arith only [ok_ok]
    obtain ⟨row, hrow⟩ := sz.r0
    rw [show (0 : Int) = ((0 : Nat) : Int) from rfl, x_idT (at_map hrow), x_tup (by simp)]
    rw [x_mulP (by omega), x_w2]
    try simp_arith only [ok_ok]
    have el := hw.el
    have s0 := hw.s0
    obtain ⟨e, he⟩ : ∃ e, w.ends[0]? = some e := ⟨_, List.getElem?_eq_getElem (by omega)⟩
    rw [x_idT (at_map he), x_tup (by simp), x_mulP (by omega), x_tup (by simp)]
    have hm := List.mem_of_getElem? hrow
    have big := big_rep sz.toBigW r12.1 (by omega) hm (List.mem_of_getElem? he)
    have sz2 : SzW K ⟨w.begins, List.replicate r row, List.replicate r e⟩ := ⟨big, by simp; exact r12.1, by simp; exact r12.2, fun q hq => by rw [(List.mem_replicate.mp hq).2]; exact sz.qk row hm, by simp, sz.qb⟩
    have ev : PV.tup [.tup (w.begins.map PV.str), .tup (List.replicate r (rowPV row)), .tup (List.replicate r (eoPV e))] = Wt.pv ⟨w.begins, List.replicate r row, List.replicate r e⟩ := by
      show _ = PV.tup [.tup (w.begins.map PV.str), .tup ((List.replicate r row).map rowPV), .tup ((List.replicate r e).map eoPV)]
      rw [List.map_replicate, List.map_replicate]
    rw [ev]
    refine (sizedT_ok (d := d) hx hj hp6 sz2 K4.1 K4.2 fun w' s' hb hp f => ?_)
    exact ⟨⟨w', rfl, hb⟩, hp.drop h.lt h.ltc, ((f15.trans f6).trans f).drop⟩
  rw [if_neg (by simpa using ck)]
  refine (sizedT_ok (d := d) hx hj hp5 sz K4.1 K4.2 fun w' s' hb hp f => ?_)
  exact ⟨⟨w', rfl, hb⟩, hp.drop h.lt h.ltc, (f15.trans f).drop⟩
end
end Dp


set_option Elab.async false
set_option linter.all false
set_option maxRecDepth 100000
set_option autoImplicit false
/-! Gn02c: the body of the law of small writers and joined recipes (printed by mkgen.py). -/
namespace Dp
def Glaw_b1 (i_pen i_sized i_draw i_is_small i_small i_normal i_joined i_piece : Nat) : ISs := (.cons (.asg (.nm 9) (.bin .add (.var 9) (.bi .list (.cons (.var 10) .nil)))) .nil)
def Glaw_b2 (i_pen i_sized i_draw i_is_small i_small i_normal i_joined i_piece : Nat) : ISs := (.cons (.ife (.and (.cmp .ne (.var 4) (.lst .nil)) (.cmp .eq (.call i_draw (.cons (.var 1) (.cons (.cst (.int 2)) .nil))) (.cst (.int 0)))) (.cons (.ex (.mt .append (.var 7) (.cons (.mt .pop (.var 4) (.cons (.call i_draw (.cons (.var 1) (.cons (.bi .len (.cons (.var 4) .nil)) .nil))) .nil)) .nil))) .nil) (.cons (.ex (.mt .append (.var 7) (.cons (.call i_piece (.cons (.var 1) (.cons (.cst (.int 3)) .nil))) .nil))) .nil)) .nil)
def Glaw_b3 (i_pen i_sized i_draw i_is_small i_small i_normal i_joined i_piece : Nat) : ISs := (.cons (.asg (.nm 7) (.lst .nil)) (.cons (.for (.nm 8) (.rng (.cons (.call i_draw (.cons (.var 1) (.cons (.cst (.int 4)) .nil))) .nil)) (Glaw_b2 i_pen i_sized i_draw i_is_small i_small i_normal i_joined i_piece)) (.cons (.ex (.mt .append (.var 5) (.cons (.call i_normal (.cons (.var 7) .nil)) .nil))) .nil)))
def Glaw_b4 (i_pen i_sized i_draw i_is_small i_small i_normal i_joined i_piece : Nat) : ISs := (.cons (.asg (.nm 3) (.call i_sized (.cons (.var 1) .nil))) (.cons (.ife (.cmp .ne (.bi .repr (.cons (.call i_is_small (.cons (.var 3) .nil)) .nil)) (.bi .repr (.cons (.call i_small (.cons (.var 3) .nil)) .nil))) (.cons (.ret (.cst (.bl false))) .nil) .nil) (.cons (.asg (.tp (.cons (.nm 4) (.cons (.nm 5) .nil))) (.tup (.cons (.lst (.cons (.cst (.int 0)) (.cons (.cst (.int 1)) (.cons (.cst (.int 2)) .nil)))) (.cons (.lst .nil) .nil)))) (.cons (.for (.nm 6) (.rng (.cons (.call i_draw (.cons (.var 1) (.cons (.cst (.int 5)) .nil))) .nil)) (Glaw_b3 i_pen i_sized i_draw i_is_small i_small i_normal i_joined i_piece)) (.cons (.asg (.nm 9) (.lst .nil)) (.cons (.for (.nm 10) (.ex (.var 5)) (Glaw_b1 i_pen i_sized i_draw i_is_small i_small i_normal i_joined i_piece)) (.cons (.asg (.tp (.cons (.nm 11) (.cons (.nm 12) .nil))) (.tup (.cons (.lst (.cons (.calls i_joined 0 .nil) .nil)) (.cons (.lst (.cons (.tup .nil) .nil)) .nil)))) (.cons (.ife (.cmp .gt (.bi .len (.cons (.var 5) .nil)) (.cst (.int 0))) (.cons (.ex (.mt .append (.var 11) (.cons (.calls i_joined 0 (.cons (.idx (.var 5) (.cst (.int 0))) .nil)) .nil))) (.cons (.ex (.mt .append (.var 12) (.cons (.idx (.var 5) (.cst (.int 0))) .nil))) .nil)) .nil) (.cons (.ife (.cmp .gt (.bi .len (.cons (.var 5) .nil)) (.cst (.int 1))) (.cons (.ex (.mt .append (.var 11) (.cons (.calls i_joined 0 (.cons (.idx (.var 5) (.cst (.int 1))) (.cons (.idx (.var 5) (.cst (.int 0))) .nil))) .nil))) (.cons (.ex (.mt .append (.var 12) (.cons (.call i_normal (.cons (.bin .add (.bi .list (.cons (.idx (.var 5) (.cst (.int 1))) .nil)) (.bi .list (.cons (.idx (.var 5) (.cst (.int 0))) .nil))) .nil)) .nil))) .nil)) .nil) (.cons (.ife (.cmp .eq (.bi .len (.cons (.var 5) .nil)) (.cst (.int 4))) (.cons (.ex (.mt .append (.var 11) (.cons (.calls i_joined 0 (.cons (.idx (.var 5) (.cst (.int 0))) (.cons (.idx (.var 5) (.cst (.int 1))) (.cons (.idx (.var 5) (.cst (.int 2))) (.cons (.idx (.var 5) (.cst (.int 3))) .nil))))) .nil))) (.cons (.ex (.mt .append (.var 12) (.cons (.call i_normal (.cons (.var 9) .nil)) .nil))) .nil)) .nil) (.cons (.ife (.cmp .ne (.bi .repr (.cons (.var 11) .nil)) (.bi .repr (.cons (.var 12) .nil))) (.cons (.ret (.cst (.bl false))) .nil) .nil) .nil)))))))))))
/-- law(script): _law_pen, _law_sized, _law_draw, is_small, _law_small, _law_normal, joined, _law_piece; 13 slots: 0 script 1 pen 2 lap 3 writer 4 left 5 rows 6 turn 7 parts 8 place 9 every 10 recipe 11 found 12 due; keep False -/
def Glaw (i_pen i_sized i_draw i_is_small i_small i_normal i_joined i_piece : Nat) : ISs := (.cons (.asg (.nm 1) (.call i_pen (.cons (.var 0) .nil))) (.cons (.for (.nm 2) (.rng (.cons (.cst (.int 4)) .nil)) (Glaw_b4 i_pen i_sized i_draw i_is_small i_small i_normal i_joined i_piece)) (.cons (.ret (.cst (.bl true))) .nil)))
def Gf_law (i_pen i_sized i_draw i_is_small i_small i_normal i_joined i_piece : Nat) : IFn := ⟨1, 13, false, Glaw i_pen i_sized i_draw i_is_small i_small i_normal i_joined i_piece⟩
end Dp


set_option Elab.async false
set_option linter.all false
set_option maxRecDepth 100000
set_option maxHeartbeats 4000000
set_option autoImplicit false
/-! F79: the law of small writers and joined recipes: its loops. -/
namespace Dp
section
variable {P : Nat → Option IFn} {x : Ix} {W d p c i1 i2 i3 i4 i5 i6 i7 i8 : Nat} {s : Sto}
theorem k02_b1 {e0 e1 e2 e3 e4 e5 e6 e7 e8 e11 e12 : Option PV} {l : Nat} {r q : Rc} {F : FT} {bd : ISs} (hbd : bd = Glaw_b1 i1 i2 i3 i4 i5 i6 i7 i8) (g : s.get l = some (.lst (r.map Pt.pv))) (hl : l < s.nxt) (h1 : r.length ≤ 10000) (h2 : q.length ≤ 10000) :
    Ok (evSs F W bd [e0, e1, e2, e3, e4, e5, e6, e7, e8, some (.loc l), some (rcPV q), e11, e12] s) fun o s' => ∃ l', o = .nx [e0, e1, e2, e3, e4, e5, e6, e7, e8, some (.loc l'), some (rcPV q), e11, e12] ∧ s'.get l' = some (.lst ((r ++ q).map Pt.pv)) ∧ s.nxt ≤ l' ∧ l' < s'.nxt ∧ Fr0 s s' := by
  simp_arith only [hbd, Glaw_b1, rcPV]
  rw [show Ok (biM .list [.tup (q.map Pt.pv)] s) = Ok (newLst (q.map Pt.pv) s) from rfl, x_newL (by rw [List.length_map]; omega)]
  have f1 := Fr0.new s (.lst (q.map Pt.pv))
  have g1 : (s.new (.lst (q.map Pt.pv))).get s.nxt = some (.lst (q.map Pt.pv)) := get_new'
  have n1 : s.nxt < (s.new (.lst (q.map Pt.pv))).nxt := Nat.lt_succ_self _
  have gl := f1.get g hl
  generalize s.new (.lst (q.map Pt.pv)) = s1 at f1 g1 n1 gl
  generalize hk : s.nxt = k1 at g1 n1
  rw [x_addL gl g1, ← List.map_append, x_newL (by rw [List.length_map, List.length_append]; omega)]
  exact ⟨s1.nxt, rfl, get_new', by omega, Nat.lt_succ_self _, f1.trans (Fr0.new _ _)⟩
/-- a part more: a buffer that is left, or a piece -/
theorem k02_b2 {e0 e2 e3 e5 e6 e8 e9 e10 e11 e12 : Option PV} {l lp : Nat} {js : List Nat} {r : Rc} {bd : ISs} (hbd : bd = Glaw_b2 i1 i2 x.draw i4 i5 i6 i7 x.piece) (hx : HasF P x) (h : PenS s p c) (gl : s.get l = some (.lst ((natI js).map PV.int))) (hl : l < s.nxt) (lp1 : l ≠ p) (lc1 : l ≠ c) (gp : s.get lp = some (.lst (r.map Pt.pv))) (hp : lp < s.nxt) (pp1 : lp ≠ p) (pc1 : lp ≠ c) (lne : l ≠ lp) (hj : js.length ≤ 3) (hr : r.length ≤ 100) :
    Ok (evSs (run P W (d + 8)) W bd [e0, some (.loc p), e2, e3, some (.loc l), e5, e6, some (.loc lp), e8, e9, e10, e11, e12] s) fun o s' => o = .nx [e0, some (.loc p), e2, e3, some (.loc l), e5, e6, some (.loc lp), e8, e9, e10, e11, e12] ∧ ∃ js' y, s'.get l = some (.lst ((natI js').map PV.int)) ∧ js'.length ≤ js.length ∧ (∀ k ∈ js', k ∈ js) ∧ s'.get lp = some (.lst ((r ++ [y]).map Pt.pv)) ∧ PcOk y ∧ let1 y ≤ 3 ∧ (∀ b, y = .bf b → b ∈ js) ∧ PenS s' p c ∧ Fra [p, l, lp] s s' := by
  simp_arith only [hbd, Glaw_b2]
  rw [x_newL (by simp)]
  have f1 := Fr0.new s (.lst [])
  rw [x_neF (f1.get gl hl) get_new' (flat_ints _) rfl, peqs_nil]
  have hp1 := h.fr0 f1
  generalize s.new (.lst []) = s1 at f1 hp1
  have g1 := f1.get gp hp
  have j1 := f1.get gl hl
  have ll1 : l < s1.nxt := Nat.lt_of_lt_of_le hl f1.1
  have lp2 : lp < s1.nxt := Nat.lt_of_lt_of_le hp f1.1
  have pce : ∀ s2, PenS s2 p c → Frp p s1 s2 → Ok (mtChk .append (.loc lp) s2) fun _ s' => Ok (run P W (d + 8) x.piece [.loc p, .int 3] s') fun a s' => Ok (mtM .append (.loc lp) [a] s') fun _ s' => True ∧ ∃ js' y, s'.get l = some (.lst ((natI js').map PV.int)) ∧ js'.length ≤ js.length ∧ (∀ k ∈ js', k ∈ js) ∧ s'.get lp = some (.lst ((r ++ [y]).map Pt.pv)) ∧ PcOk y ∧ let1 y ≤ 3 ∧ (∀ b, y = .bf b → b ∈ js) ∧ PenS s' p c ∧ Fra [p, l, lp] s s' := by
    intro s2 hp2 hf2
    have g2 := hf2.get g1 lp2 pp1
    have j2 := hf2.get j1 ll1 lp1
    rw [x_chkL g2]
    refine (piece_ok (d := d + 4) hx hp2 (by decide) (by decide)).mono ?_
    rintro v s3 ⟨⟨t, rfl, t0, t1, tl⟩, hp3, hf3⟩
    have g3 := hf3.get g2 (Nat.lt_of_lt_of_le lp2 hf2.1) pp1
    have j3 := hf3.get j2 (Nat.lt_of_lt_of_le ll1 hf2.1) lp1
    rw [x_app g3 (by rw [List.length_map]; omega)]
    refine ⟨trivial, js, .pc t, (set_get lne).trans j3, Nat.le_refl _, fun _ h => h, by rw [get_set g3, List.map_append]; rfl, ⟨t0, tl⟩, by show t.length ≤ 3; omega, (fun b hb => by cases hb), hp3.setX pp1 pc1, ?_⟩
    exact ((f1.fra _).trans ((hf2.trans hf3).fra (by simp))).trans (Fra.set _ _ (by simp))
  by_cases cj : js = []
  · subst cj
    rw [if_neg (by decide)]
    try simp_arith only [ok_ok]
    exact pce s1 hp1 (Frp.refl p s1)
  · have ej : (!(natI js).isEmpty) = true := by cases js with | nil => exact absurd rfl cj | cons a b => rfl
    rw [if_pos ej]
    have len : 0 < js.length := List.length_pos_iff.mpr cj
    refine (drawW (d := d + 6) hx.toHasP hp1 (by decide) (by decide)).mono ?_
    rintro v s2 ⟨⟨k, rfl, hk⟩, hp2, hf2⟩
    rw [x_eqI]
    by_cases c0 : ((k : Int) == 0) = true
    · rw [if_pos c0]
      have g2 := hf2.get g1 lp2 pp1
      have j2 := hf2.get j1 ll1 lp1
      rw [x_chkL g2, x_chkM (by intro z; cases z) (lst_at j2), x_lenL j2, List.length_map, natI_len]
      refine (drawW (d := d + 6) hx.toHasP hp2 (by omega) (by omega)).mono ?_
      rintro v s3 ⟨⟨n, rfl, hn⟩, hp3, hf3⟩
      have hn : n < js.length := by omega
      have g3 := hf3.get g2 (Nat.lt_of_lt_of_le lp2 hf2.1) pp1
      have j3 := hf3.get j2 (Nat.lt_of_lt_of_le ll1 hf2.1) lp1
      have ek : js[n]? = some js[n] := List.getElem?_eq_getElem hn
      rw [x_popAt (j := n) j3 (by rw [List.length_map, natI_len]; exact ix_nat hn) (natI_get ek)]
      have g4 : (s3.set l (.lst (((natI js).map PV.int).eraseIdx n))).get lp = some (.lst (r.map Pt.pv)) := (set_get (Ne.symm lne)).trans g3
      rw [x_app g4 (by rw [List.length_map]; omega)]
      refine ⟨trivial, js.eraseIdx n, .bf js[n], ?_, by rw [List.length_eraseIdx]; split <;> omega, fun z hz => List.mem_of_mem_eraseIdx hz, by rw [get_set g4, List.map_append]; rfl, trivial, Nat.zero_le _, (fun b hb => by cases hb; exact List.getElem_mem hn), (hp3.setX lp1 lc1).setX pp1 pc1, ?_⟩
      · rw [set_get lne, get_set j3, natI_erase]
      · exact (((f1.fra _).trans ((hf2.trans hf3).fra (by simp))).trans (Fra.set _ _ (by simp))).trans (Fra.set _ _ (by simp))
    · rw [if_neg c0]
      exact pce s2 hp2 hf2
end
end Dp


set_option Elab.async false
set_option linter.all false
set_option maxRecDepth 100000
set_option maxHeartbeats 4000000
set_option autoImplicit false
/-! F80: the law of small writers and joined recipes: a recipe more. -/
namespace Dp
/-- a drawn recipe of at most so many parts -/
structure R3 (k : Nat) (r : Rc) : Prop where
  ln : r.length ≤ k
  lt : lets r ≤ 3 * k
  ok : ∀ y ∈ r, PcOk y
  bf : ∀ b, Pt.bf b ∈ r → b < 16
theorem R3.snoc {k : Nat} {r : Rc} {y : Pt} (h : R3 k r) (o : PcOk y) (l : let1 y ≤ 3) (b : ∀ b, y = .bf b → b < 16) : R3 (k + 1) (r ++ [y]) := by
  have := h.ln
  have := h.lt
  refine ⟨by simp; omega, by rw [lets_app, show lets [y] = let1 y from by simp [lets]]; omega, fun z hz => ?_, fun z hz => ?_⟩
  · rcases List.mem_append.mp hz with hz | hz
    · exact h.ok z hz
    · rw [List.mem_singleton.mp hz]; exact o
  · rcases List.mem_append.mp hz with hz | hz
    · exact h.bf z hz
    · exact b z (List.mem_singleton.mp hz).symm
theorem R3.mono {k m : Nat} {r : Rc} (h : R3 k r) (l : k ≤ m) : R3 m r := ⟨Nat.le_trans h.ln l, Nat.le_trans h.lt (by omega), h.ok, h.bf⟩
section
variable {P : Nat → Option IFn} {x : Ix} {W d p c i1 i2 i3 i4 i5 i6 i7 i8 : Nat} {s : Sto}
theorem k02_b3 {e0 e2 e3 e6 e7 e8 e9 e10 e11 e12 : Option PV} {l lr : Nat} {js : List Nat} {R : List Rc} {bd : ISs} (hbd : bd = Glaw_b3 i1 i2 x.draw i4 i5 x.normal i7 x.piece) (hx : HasF P x) (h : PenS s p c) (gl : s.get l = some (.lst ((natI js).map PV.int))) (hl : l < s.nxt) (lp1 : l ≠ p) (lc1 : l ≠ c) (gr : s.get lr = some (.lst (R.map rcPV))) (hr : lr < s.nxt) (rp1 : lr ≠ p) (rc1 : lr ≠ c) (lne : l ≠ lr) (hj : js.length ≤ 3) (hk3 : ∀ k ∈ js, k < 16) (hR : R.length ≤ 10) :
    Ok (evSs (run P W (d + 8)) W bd [e0, some (.loc p), e2, e3, some (.loc l), some (.loc lr), e6, e7, e8, e9, e10, e11, e12] s) fun o s' => ∃ e7 e8 js' r, o = .nx [e0, some (.loc p), e2, e3, some (.loc l), some (.loc lr), e6, e7, e8, e9, e10, e11, e12] ∧ s'.get l = some (.lst ((natI js').map PV.int)) ∧ js'.length ≤ js.length ∧ (∀ k ∈ js', k < 16) ∧ s'.get lr = some (.lst ((R ++ [norm r]).map rcPV)) ∧ R3 3 r ∧ PenS s' p c ∧ Fra [p, l, lr] s s' := by
  simp_arith only [hbd, Glaw_b3]
  rw [x_newL (by simp)]
  try simp_arith only [ok_ok]
  have f1 := Fr0.new s (.lst [])
  have hp1 := h.fr0 f1
  have gn : (s.new (.lst [])).get s.nxt = some (.lst (([] : Rc).map Pt.pv)) := get_new'
  have gl1 := f1.get gl hl
  have gr1 := f1.get gr hr
  have n1 : s.nxt < (s.new (.lst [])).nxt := Nat.lt_succ_self _
  have np : s.nxt ≠ p := Nat.ne_of_gt h.lt
  have nc : s.nxt ≠ c := Nat.ne_of_gt h.ltc
  generalize s.new (.lst []) = s1 at f1 hp1 gn gl1 gr1 n1
  refine (drawW (d := d + 6) hx.toHasP hp1 (by decide) (by decide)).mono ?_
  rintro v s2 ⟨⟨n, rfl, hn⟩, hp2, f2⟩
  rw [x_rngN (by omega) (by omega)]
  have fr2 : Fra [p, l, s.nxt] s1 s2 := f2.fra (by simp)
  refine ok_for (I := fun k env s' => ∃ e8 js' r, env = [e0, some (.loc p), e2, e3, some (.loc l), some (.loc lr), e6, some (.loc s.nxt), e8, e9, e10, e11, e12] ∧ s'.get l = some (.lst ((natI js').map PV.int)) ∧ js'.length ≤ js.length ∧ (∀ k ∈ js', k < 16) ∧ s'.get s.nxt = some (.lst (r.map Pt.pv)) ∧ R3 k r ∧ PenS s' p c ∧ Fra [p, l, s.nxt] s1 s') ?_ ?_ _ 0 _ _ (Nat.zero_le _) (by show _ < 0 + ((upto 0 (n : Int).toNat).length + 1); omega) ⟨_, js, [], rfl, f2.get gl1 (Nat.lt_of_lt_of_le hl f1.1) lp1, Nat.le_refl _, hk3, f2.get gn n1 np, ⟨by simp, by simp [lets], by simp, by simp⟩, hp2, fr2⟩
  · rintro k y env s' hy ⟨e8, js', r, rfl, gl', jl, jk, gp', h3, hp', fr⟩
    have rl := h3.ln
    have rt := h3.lt
    obtain ⟨hk, rfl⟩ := uptoG _ _ _ _ hy
    refine ⟨_, setT_nm, ?_⟩
    try simp_arith only [ok_ok]
    refine (k02_b2 (d := d) rfl hx hp' gl' (Nat.lt_of_lt_of_le hl (Nat.le_trans f1.1 fr.1)) lp1 lc1 gp' (Nat.lt_of_lt_of_le n1 fr.1) np nc (Nat.ne_of_lt hl) (by omega) (by omega)).mono ?_
    rintro o s3 ⟨rfl, js3, y, g3, l3, m3, p3, oy, ly, by3, hp3, f3⟩
    exact ⟨_, js3, r ++ [y], rfl, g3, by omega, fun k hk => jk k (m3 k hk), p3, h3.snoc oy ly (fun b hb => jk b (by3 b hb)), hp3, fr.trans f3⟩
  · rintro env s' ⟨e8, js', r, rfl, gl', jl, jk, gp', h3, hp', fr⟩
    rw [uptoL] at h3
    have rl := h3.ln
    have rt := h3.lt
    have ok := h3.ok
    have gr' := fr.get gr1 (Nat.lt_of_lt_of_le hr f1.1) (by simp; exact ⟨rp1, Ne.symm lne, Nat.ne_of_lt hr⟩)
    try simp_arith only [ok_ok]
    rw [x_chkL gr']
    refine (normal_ok (d := d + 7) hx.hN gp' (Nat.lt_of_lt_of_le n1 fr.1) ok (by omega) (by omega)).mono ?_
    rintro v s4 ⟨rfl, f4⟩
    have gr4 := f4.get gr' (Nat.lt_of_lt_of_le hr (Nat.le_trans f1.1 fr.1))
    have gl4 := f4.get gl' (Nat.lt_of_lt_of_le hl (Nat.le_trans f1.1 fr.1))
    rw [x_app gr4 (by rw [List.length_map]; omega)]
    refine ⟨_, _, js', r, rfl, (set_get lne).trans gl4, jl, jk, by rw [get_set gr4, List.map_append]; rfl, h3.mono (by omega), (hp'.fr0 f4).setX rp1 rc1, ?_⟩
    exact ((((f1.fra [p, l, lr]).transN fr (by simp)).trans (f4.fra _))).trans (Fra.set _ _ (by simp))
end
end Dp


set_option Elab.async false
set_option linter.all false
set_option maxRecDepth 100000
set_option maxHeartbeats 4000000
set_option autoImplicit false
/-! F81: the law of small writers and joined recipes: a lap. -/
namespace Dp
def Glap_4 (i_pen i_sized i_draw i_is_small i_small i_normal i_joined i_piece : Nat) : ISs := (.cons (.ife (.cmp .ne (.bi .repr (.cons (.var 11) .nil)) (.bi .repr (.cons (.var 12) .nil))) (.cons (.ret (.cst (.bl false))) .nil) .nil) .nil)
def Glap_3 (i_pen i_sized i_draw i_is_small i_small i_normal i_joined i_piece : Nat) : ISs := (.cons (.ife (.cmp .eq (.bi .len (.cons (.var 5) .nil)) (.cst (.int 4))) (.cons (.ex (.mt .append (.var 11) (.cons (.calls i_joined 0 (.cons (.idx (.var 5) (.cst (.int 0))) (.cons (.idx (.var 5) (.cst (.int 1))) (.cons (.idx (.var 5) (.cst (.int 2))) (.cons (.idx (.var 5) (.cst (.int 3))) .nil))))) .nil))) (.cons (.ex (.mt .append (.var 12) (.cons (.call i_normal (.cons (.var 9) .nil)) .nil))) .nil)) .nil) (.cons (.ife (.cmp .ne (.bi .repr (.cons (.var 11) .nil)) (.bi .repr (.cons (.var 12) .nil))) (.cons (.ret (.cst (.bl false))) .nil) .nil) .nil))
def Glap_2 (i_pen i_sized i_draw i_is_small i_small i_normal i_joined i_piece : Nat) : ISs := (.cons (.ife (.cmp .gt (.bi .len (.cons (.var 5) .nil)) (.cst (.int 1))) (.cons (.ex (.mt .append (.var 11) (.cons (.calls i_joined 0 (.cons (.idx (.var 5) (.cst (.int 1))) (.cons (.idx (.var 5) (.cst (.int 0))) .nil))) .nil))) (.cons (.ex (.mt .append (.var 12) (.cons (.call i_normal (.cons (.bin .add (.bi .list (.cons (.idx (.var 5) (.cst (.int 1))) .nil)) (.bi .list (.cons (.idx (.var 5) (.cst (.int 0))) .nil))) .nil)) .nil))) .nil)) .nil) (.cons (.ife (.cmp .eq (.bi .len (.cons (.var 5) .nil)) (.cst (.int 4))) (.cons (.ex (.mt .append (.var 11) (.cons (.calls i_joined 0 (.cons (.idx (.var 5) (.cst (.int 0))) (.cons (.idx (.var 5) (.cst (.int 1))) (.cons (.idx (.var 5) (.cst (.int 2))) (.cons (.idx (.var 5) (.cst (.int 3))) .nil))))) .nil))) (.cons (.ex (.mt .append (.var 12) (.cons (.call i_normal (.cons (.var 9) .nil)) .nil))) .nil)) .nil) (.cons (.ife (.cmp .ne (.bi .repr (.cons (.var 11) .nil)) (.bi .repr (.cons (.var 12) .nil))) (.cons (.ret (.cst (.bl false))) .nil) .nil) .nil)))
def Glap_1 (i_pen i_sized i_draw i_is_small i_small i_normal i_joined i_piece : Nat) : ISs := (.cons (.ife (.cmp .gt (.bi .len (.cons (.var 5) .nil)) (.cst (.int 0))) (.cons (.ex (.mt .append (.var 11) (.cons (.calls i_joined 0 (.cons (.idx (.var 5) (.cst (.int 0))) .nil)) .nil))) (.cons (.ex (.mt .append (.var 12) (.cons (.idx (.var 5) (.cst (.int 0))) .nil))) .nil)) .nil) (.cons (.ife (.cmp .gt (.bi .len (.cons (.var 5) .nil)) (.cst (.int 1))) (.cons (.ex (.mt .append (.var 11) (.cons (.calls i_joined 0 (.cons (.idx (.var 5) (.cst (.int 1))) (.cons (.idx (.var 5) (.cst (.int 0))) .nil))) .nil))) (.cons (.ex (.mt .append (.var 12) (.cons (.call i_normal (.cons (.bin .add (.bi .list (.cons (.idx (.var 5) (.cst (.int 1))) .nil)) (.bi .list (.cons (.idx (.var 5) (.cst (.int 0))) .nil))) .nil)) .nil))) .nil)) .nil) (.cons (.ife (.cmp .eq (.bi .len (.cons (.var 5) .nil)) (.cst (.int 4))) (.cons (.ex (.mt .append (.var 11) (.cons (.calls i_joined 0 (.cons (.idx (.var 5) (.cst (.int 0))) (.cons (.idx (.var 5) (.cst (.int 1))) (.cons (.idx (.var 5) (.cst (.int 2))) (.cons (.idx (.var 5) (.cst (.int 3))) .nil))))) .nil))) (.cons (.ex (.mt .append (.var 12) (.cons (.call i_normal (.cons (.var 9) .nil)) .nil))) .nil)) .nil) (.cons (.ife (.cmp .ne (.bi .repr (.cons (.var 11) .nil)) (.bi .repr (.cons (.var 12) .nil))) (.cons (.ret (.cst (.bl false))) .nil) .nil) .nil))))
def Glap_t (i_pen i_sized i_draw i_is_small i_small i_normal i_joined i_piece : Nat) : ISs := (.cons (.asg (.tp (.cons (.nm 11) (.cons (.nm 12) .nil))) (.tup (.cons (.lst (.cons (.calls i_joined 0 .nil) .nil)) (.cons (.lst (.cons (.tup .nil) .nil)) .nil)))) (.cons (.ife (.cmp .gt (.bi .len (.cons (.var 5) .nil)) (.cst (.int 0))) (.cons (.ex (.mt .append (.var 11) (.cons (.calls i_joined 0 (.cons (.idx (.var 5) (.cst (.int 0))) .nil)) .nil))) (.cons (.ex (.mt .append (.var 12) (.cons (.idx (.var 5) (.cst (.int 0))) .nil))) .nil)) .nil) (.cons (.ife (.cmp .gt (.bi .len (.cons (.var 5) .nil)) (.cst (.int 1))) (.cons (.ex (.mt .append (.var 11) (.cons (.calls i_joined 0 (.cons (.idx (.var 5) (.cst (.int 1))) (.cons (.idx (.var 5) (.cst (.int 0))) .nil))) .nil))) (.cons (.ex (.mt .append (.var 12) (.cons (.call i_normal (.cons (.bin .add (.bi .list (.cons (.idx (.var 5) (.cst (.int 1))) .nil)) (.bi .list (.cons (.idx (.var 5) (.cst (.int 0))) .nil))) .nil)) .nil))) .nil)) .nil) (.cons (.ife (.cmp .eq (.bi .len (.cons (.var 5) .nil)) (.cst (.int 4))) (.cons (.ex (.mt .append (.var 11) (.cons (.calls i_joined 0 (.cons (.idx (.var 5) (.cst (.int 0))) (.cons (.idx (.var 5) (.cst (.int 1))) (.cons (.idx (.var 5) (.cst (.int 2))) (.cons (.idx (.var 5) (.cst (.int 3))) .nil))))) .nil))) (.cons (.ex (.mt .append (.var 12) (.cons (.call i_normal (.cons (.var 9) .nil)) .nil))) .nil)) .nil) (.cons (.ife (.cmp .ne (.bi .repr (.cons (.var 11) .nil)) (.bi .repr (.cons (.var 12) .nil))) (.cons (.ret (.cst (.bl false))) .nil) .nil) .nil)))))
theorem Glap_4_form (i_pen i_sized i_draw i_is_small i_small i_normal i_joined i_piece : Nat) : Glap_3 i_pen i_sized i_draw i_is_small i_small i_normal i_joined i_piece = (.cons (.ife (.cmp .eq (.bi .len (.cons (.var 5) .nil)) (.cst (.int 4))) (.cons (.ex (.mt .append (.var 11) (.cons (.calls i_joined 0 (.cons (.idx (.var 5) (.cst (.int 0))) (.cons (.idx (.var 5) (.cst (.int 1))) (.cons (.idx (.var 5) (.cst (.int 2))) (.cons (.idx (.var 5) (.cst (.int 3))) .nil))))) .nil))) (.cons (.ex (.mt .append (.var 12) (.cons (.call i_normal (.cons (.var 9) .nil)) .nil))) .nil)) .nil) (Glap_4 i_pen i_sized i_draw i_is_small i_small i_normal i_joined i_piece)) := rfl
theorem Glap_3_form (i_pen i_sized i_draw i_is_small i_small i_normal i_joined i_piece : Nat) : Glap_2 i_pen i_sized i_draw i_is_small i_small i_normal i_joined i_piece = (.cons (.ife (.cmp .gt (.bi .len (.cons (.var 5) .nil)) (.cst (.int 1))) (.cons (.ex (.mt .append (.var 11) (.cons (.calls i_joined 0 (.cons (.idx (.var 5) (.cst (.int 1))) (.cons (.idx (.var 5) (.cst (.int 0))) .nil))) .nil))) (.cons (.ex (.mt .append (.var 12) (.cons (.call i_normal (.cons (.bin .add (.bi .list (.cons (.idx (.var 5) (.cst (.int 1))) .nil)) (.bi .list (.cons (.idx (.var 5) (.cst (.int 0))) .nil))) .nil)) .nil))) .nil)) .nil) (Glap_3 i_pen i_sized i_draw i_is_small i_small i_normal i_joined i_piece)) := rfl
theorem Glap_2_form (i_pen i_sized i_draw i_is_small i_small i_normal i_joined i_piece : Nat) : Glap_1 i_pen i_sized i_draw i_is_small i_small i_normal i_joined i_piece = (.cons (.ife (.cmp .gt (.bi .len (.cons (.var 5) .nil)) (.cst (.int 0))) (.cons (.ex (.mt .append (.var 11) (.cons (.calls i_joined 0 (.cons (.idx (.var 5) (.cst (.int 0))) .nil)) .nil))) (.cons (.ex (.mt .append (.var 12) (.cons (.idx (.var 5) (.cst (.int 0))) .nil))) .nil)) .nil) (Glap_2 i_pen i_sized i_draw i_is_small i_small i_normal i_joined i_piece)) := rfl
theorem Glap_1_form (i_pen i_sized i_draw i_is_small i_small i_normal i_joined i_piece : Nat) : Glap_t i_pen i_sized i_draw i_is_small i_small i_normal i_joined i_piece = (.cons (.asg (.tp (.cons (.nm 11) (.cons (.nm 12) .nil))) (.tup (.cons (.lst (.cons (.calls i_joined 0 .nil) .nil)) (.cons (.lst (.cons (.tup .nil) .nil)) .nil)))) (Glap_1 i_pen i_sized i_draw i_is_small i_small i_normal i_joined i_piece)) := rfl
theorem Glap_t_form (i_pen i_sized i_draw i_is_small i_small i_normal i_joined i_piece : Nat) : Glaw_b4 i_pen i_sized i_draw i_is_small i_small i_normal i_joined i_piece = (.cons (.asg (.nm 3) (.call i_sized (.cons (.var 1) .nil))) (.cons (.ife (.cmp .ne (.bi .repr (.cons (.call i_is_small (.cons (.var 3) .nil)) .nil)) (.bi .repr (.cons (.call i_small (.cons (.var 3) .nil)) .nil))) (.cons (.ret (.cst (.bl false))) .nil) .nil) (.cons (.asg (.tp (.cons (.nm 4) (.cons (.nm 5) .nil))) (.tup (.cons (.lst (.cons (.cst (.int 0)) (.cons (.cst (.int 1)) (.cons (.cst (.int 2)) .nil)))) (.cons (.lst .nil) .nil)))) (.cons (.for (.nm 6) (.rng (.cons (.call i_draw (.cons (.var 1) (.cons (.cst (.int 5)) .nil))) .nil)) (Glaw_b3 i_pen i_sized i_draw i_is_small i_small i_normal i_joined i_piece)) (.cons (.asg (.nm 9) (.lst .nil)) (.cons (.for (.nm 10) (.ex (.var 5)) (Glaw_b1 i_pen i_sized i_draw i_is_small i_small i_normal i_joined i_piece)) (Glap_t i_pen i_sized i_draw i_is_small i_small i_normal i_joined i_piece))))))) := rfl
section
variable {P : Nat → Option IFn} {x : Ix} {W d p c i j j1 j2 j3 j4 i1 i2 i4 i5 i7 : Nat} {s s0 : Sto}
theorem x_rpLs {l D M : Nat} {xs : List PV} {Q : PV → Sto → Prop} (h : s.get l = some (.lst xs)) (hx : ∀ v ∈ xs, Sm v D M) (hD : D ≤ 50) (hM : xs.length * (M + 2) + 100 ≤ 16777216) : Ok (biM .repr [.loc l] s) Q = Q (.rp (.lv xs)) s := by
  obtain ⟨a1, a2, a3, a4⟩ := sm_list hx
  have e1 : snap s (.loc l) = some (.lv xs) := snap_list (n := 7) h a1
  show Ok (reprM (.loc l) s) Q = _
  unfold reprM
  rw [e1]
  simp only []
  rw [if_pos ⟨by rw [shK]; exact a3, by rw [dep]; omega, by rw [shW]; omega⟩]
  first | exact ok_ok | exact ok_ok.trans ok_ok
theorem x_neRL {xs : List PV} {B : Bool → Sto → Prop} (h : plns xs = true) : Ok (cmpM .ne (.rp (.lv xs)) (.rp (.lv xs)) s) B = B false s := by
  show Ok (M.bind (eqM (.rp (.lv xs)) (.rp (.lv xs))) (fun r => M.pure (!r)) s) B = _
  rw [ok_bind]
  show Ok (R.ok (if sam (.lv xs) (.lv xs) = true then true else _) s) _ = _
  rw [if_pos (by rw [sam]; exact sams_refl xs h)]
  first | exact ok_ok | exact ok_ok.trans ok_ok
theorem sm_r {k : Nat} {r : Rc} (h : R3 k r) (hk : k ≤ 12) : Sm (rcPV r) 1 20000 := by
  refine Sm.map (n := 12) (M := 1100) (fun y hy => ?_) (by have := h.ln; omega) (by omega)
  cases y with
  | bf b => exact Sm.int (h.bf b hy) (by omega)
  | pc t => 
    have : t.length ≤ lets r := let1_le hy
    exact Sm.str (by have := h.lt; omega)
theorem norm_mem {r : Rc} {b : Nat} (h : Pt.bf b ∈ norm r) : Pt.bf b ∈ r := by
  have h1 := buf_mem h
  rw [norm_bufs] at h1
  obtain ⟨y, hy, hb⟩ := List.mem_flatMap.mp h1
  cases y with
  | bf a => rw [List.mem_singleton.mp hb]; exact hy
  | pc t => exact absurd hb (by simp [buf1])
theorem R3.norm {k : Nat} {r : Rc} (h : R3 k r) : R3 k (norm r) := ⟨Nat.le_trans (norm_len r) h.ln, by rw [norm_lets]; exact h.lt, norm_ok h.ok, fun b hb => h.bf b (norm_mem hb)⟩
theorem R3.app {k m : Nat} {r q : Rc} (h : R3 k r) (g : R3 m q) : R3 (k + m) (r ++ q) := by
  have := h.ln
  have := h.lt
  have := g.ln
  have := g.lt
  refine ⟨by simp; omega, by rw [lets_app]; omega, fun z hz => ?_, fun z hz => ?_⟩
  · exact (List.mem_append.mp hz).elim (h.ok z) (g.ok z)
  · exact (List.mem_append.mp hz).elim (h.bf z) (g.bf z)
theorem R3.flat : ∀ {R : List Rc}, (∀ r ∈ R, R3 3 r) → R3 (3 * R.length) R.flatten
  | [], _ => ⟨by simp, by simp [lets], by simp, by simp⟩
  | r :: R, h => by
    have := (h r List.mem_cons_self).app (R3.flat (R := R) fun q hq => h q (List.mem_cons_of_mem _ hq))
    rw [List.flatten_cons, List.length_cons]
    exact this.mono (by omega)
/-- found and due, so far -/
structure FD (s : Sto) (n lf ld m : Nat) (F : List Rc) : Prop where
  gf : s.get lf = some (.lst (F.map rcPV))
  gd : s.get ld = some (.lst (F.map rcPV))
  ne : lf ≠ ld
  nf : n ≤ lf
  nd : n ≤ ld
  bf : lf < s.nxt
  bd : ld < s.nxt
  ln : F.length ≤ m
  sm : ∀ r ∈ F, Sm (rcPV r) 1 20000
theorem FD.put {n lf ld m : Nat} {F : List Rc} {r : Rc} {s3 : Sto} (h : FD s n lf ld m F) (hr : Sm (rcPV r) 1 20000) (f3 : Fr0 (s.set lf (.lst (F.map rcPV ++ [rcPV r]))) s3) : FD (s3.set ld (.lst (F.map rcPV ++ [rcPV r]))) n lf ld (m + 1) (F ++ [r]) := by
  have e : F.map rcPV ++ [rcPV r] = (F ++ [r]).map rcPV := by rw [List.map_append]; rfl
  have g0 : s3.get lf = some (.lst (F.map rcPV ++ [rcPV r])) := f3.get (get_set h.gf) h.bf
  have g1 : s3.get ld = some (.lst (F.map rcPV)) := f3.get ((set_get (Ne.symm h.ne)).trans h.gd) h.bd
  refine ⟨?_, ?_, h.ne, h.nf, h.nd, Nat.lt_of_lt_of_le h.bf f3.1, Nat.lt_of_lt_of_le h.bd f3.1, by have := h.ln; simp; omega, ?_⟩
  · rw [set_get h.ne, g0, e]
  · rw [get_set g1, e]
  · intro q hq
    rcases List.mem_append.mp hq with hq | hq
    · exact h.sm q hq
    · rw [List.mem_singleton.mp hq]; exact hr
theorem FD.g1 {n lf ld m : Nat} {F : List Rc} {o : PO} (h : FD s n lf ld m F) : (s.set lf o).get ld = some (.lst (F.map rcPV)) := (set_get (Ne.symm h.ne)).trans h.gd
theorem FD.fr {n lf ld m : Nat} {F : List Rc} {s' : Sto} (h : FD s n lf ld m F) (f : Fr0 s s') : FD s' n lf ld m F := ⟨f.get h.gf h.bf, f.get h.gd h.bd, h.ne, h.nf, h.nd, Nat.lt_of_lt_of_le h.bf f.1, Nat.lt_of_lt_of_le h.bd f.1, h.ln, h.sm⟩
theorem FD.up {n lf ld m m' : Nat} {F : List Rc} (h : FD s n lf ld m F) (l : m ≤ m') : FD s n lf ld m' F := ⟨h.gf, h.gd, h.ne, h.nf, h.nd, h.bf, h.bd, Nat.le_trans h.ln l, h.sm⟩
theorem found4 {e0 e1 e2 e3 e4 e5 e6 e7 e8 e9 e10 : Option PV} {lf ld : Nat} {F : FT} {G : List Rc} {k6 : Nat} (f : Fr0 s0 s) (h : FD s s0.nxt lf ld 4 G) :
    Ok (evSs F W (Glap_4 i1 i2 k6 i4 i5 j i7 j1) [e0, e1, e2, e3, e4, e5, e6, e7, e8, e9, e10, some (.loc lf), some (.loc ld)] s) fun o s' => (∃ e11 e12, o = .nx [e0, e1, e2, e3, e4, e5, e6, e7, e8, e9, e10, e11, e12]) ∧ Fr0 s0 s' := by
  have hl := h.ln
  have hsm : ∀ v ∈ G.map rcPV, Sm v 1 20000 := fun v hv => by obtain ⟨q, hq, rfl⟩ := List.mem_map.mp hv; exact h.sm q hq
  simp_arith only [Glap_4]
  rw [x_rpLs h.gf hsm (by omega) (by rw [List.length_map]; omega), x_rpLs h.gd hsm (by omega) (by rw [List.length_map]; omega), x_neRL (sm_list hsm).1]
  simp_arith only [ok_ok]
  exact ⟨⟨_, _, rfl⟩, f⟩
/-- joined recipes -/
theorem joinN {rs : List Rc} (hJ : P i7 = some Gf_joined) (hr : ∀ r ∈ rs, R3 3 r) (hl : rs.length ≤ 4) {Q : PV → Sto → Prop} (hQ : ∀ s', Fr0 s s' → Q (rcPV (norm rs.flatten)) s') : Ok (starM (run P W (d + 1) i7) 0 (rs.map rcPV) s) Q := by
  have r3 := R3.flat hr
  have := r3.ln
  have := r3.lt
  rw [x_star (by rw [List.length_map]; omega)]
  refine (joined_ok (d := d) hJ (by omega) (by omega)).mono ?_
  rintro v s' ⟨rfl, f⟩
  exact hQ s' f
theorem found3 {e0 e1 e2 e3 e4 e6 e7 e8 e10 : Option PV} {lr le lf ld : Nat} {G Q : List Rc} (hx : HasF P x) (hJ : P i7 = some Gf_joined) (f : Fr0 s0 s) (h : FD s s0.nxt lf ld 3 G)
    (gr : s0.get lr = some (.lst (Q.map rcPV))) (hr : lr < s0.nxt) (ge : s0.get le = some (.lst (Q.flatten.map Pt.pv))) (he : le < s0.nxt) (hQ : ∀ q ∈ Q, R3 3 q) (hQ4 : Q.length ≤ 4) :
    Ok (evSs (run P W (d + 8)) W (Glap_3 i1 i2 x.draw i4 i5 x.normal i7 x.piece) [e0, e1, e2, e3, e4, some (.loc lr), e6, e7, e8, some (.loc le), e10, some (.loc lf), some (.loc ld)] s) fun o s' => (∃ e11 e12, o = .nx [e0, e1, e2, e3, e4, some (.loc lr), e6, e7, e8, some (.loc le), e10, e11, e12]) ∧ Fr0 s0 s' := by
  have hl := h.ln
  have r3 := R3.flat hQ
  have r3l := r3.ln
  have r3t := r3.lt
  rw [Glap_4_form]
  simp_arith only [ok_ok]
  rw [x_lenL (f.get gr hr), x_eqI, List.length_map]
  by_cases c4 : (((Q.length : Nat) : Int) == 4) = true
  · rw [if_pos c4]
    have e4 : Q.length = 4 := by have := eq_of_beq c4; omega
    obtain ⟨a, b, c, d', rfl⟩ : ∃ a b c d', Q = [a, b, c, d'] := by
      match Q, e4 with
      | [a, b, c, d'], _ => exact ⟨a, b, c, d', rfl⟩
    rw [x_chkL h.gf]
    have at0 := lst_at (f.get gr hr)
    rw [x_idL at0 (i := 0) (v := rcPV a) rfl, x_idL at0 (i := 1) (v := rcPV b) rfl, x_idL at0 (i := 2) (v := rcPV c) rfl, x_idL at0 (i := 3) (v := rcPV d') rfl]
    refine joinN (d := d + 7) (rs := [a, b, c, d']) hJ hQ (by simp) fun s1 f1 => ?_
    have h1 := h.fr f1
    rw [x_app h1.gf (by rw [List.length_map]; omega)]
    rw [x_chkL h1.g1]
    have f01 := (f.trans f1).setW (.lst (G.map rcPV ++ [rcPV (norm [a, b, c, d'].flatten)])) h.nf
    refine (normal_ok (d := d + 7) hx.hN (f01.get ge he) (Nat.lt_of_lt_of_le he f01.1) r3.ok (by omega) (by omega)).mono ?_
    rintro v s3 ⟨rfl, f3⟩
    have h3 := h1.put (sm_r r3.norm (by simp)) f3
    rw [x_app (f3.get h1.g1 h1.bd) (by rw [List.length_map]; omega)]
    try simp_arith only [ok_ok]
    exact found4 ((f01.trans f3).setW _ h.nd) h3
  · rw [if_neg c4]
    try simp_arith only [ok_ok]
    exact found4 f (h.up (by omega))
theorem x_liR {q : Rc} {Q : PV → Sto → Prop} : Ok (biM .list [rcPV q] s) Q = Ok (newLst (q.map Pt.pv) s) Q := rfl
theorem found2 {e0 e1 e2 e3 e4 e6 e7 e8 e10 : Option PV} {lr le lf ld : Nat} {G Q : List Rc} (hx : HasF P x) (hJ : P i7 = some Gf_joined) (f : Fr0 s0 s) (h : FD s s0.nxt lf ld 2 G)
    (gr : s0.get lr = some (.lst (Q.map rcPV))) (hr : lr < s0.nxt) (ge : s0.get le = some (.lst (Q.flatten.map Pt.pv))) (he : le < s0.nxt) (hQ : ∀ q ∈ Q, R3 3 q) (hQ4 : Q.length ≤ 4) :
    Ok (evSs (run P W (d + 8)) W (Glap_2 i1 i2 x.draw i4 i5 x.normal i7 x.piece) [e0, e1, e2, e3, e4, some (.loc lr), e6, e7, e8, some (.loc le), e10, some (.loc lf), some (.loc ld)] s) fun o s' => (∃ e11 e12, o = .nx [e0, e1, e2, e3, e4, some (.loc lr), e6, e7, e8, some (.loc le), e10, e11, e12]) ∧ Fr0 s0 s' := by
  have hl := h.ln
  rw [Glap_3_form]
  simp_arith only [ok_ok]
  rw [x_lenL (f.get gr hr), x_gtI, List.length_map]
  by_cases c4 : decide ((1 : Int) < ((Q.length : Nat) : Int)) = true
  · rw [if_pos c4]
    have e4 : 1 < Q.length := by have := of_decide_eq_true c4; omega
    obtain ⟨a, b, R, hQe⟩ : ∃ a b R, Q = a :: b :: R := by
      match Q, e4 with
      | a :: b :: R, _ => exact ⟨a, b, R, rfl⟩
    have hab : ∀ q ∈ [b, a], R3 3 q := fun q hq => hQ q (by rw [hQe]; simp only [List.mem_cons, List.not_mem_nil, or_false] at hq ⊢; first | (rcases hq with h | h <;> simp [h]) | simp [hq])
    have r3 := R3.flat hab
    have r3l := r3.ln
    have r3t := r3.lt
    simp only [List.length_cons, List.length_nil] at r3l r3t
    rw [x_chkL h.gf]
    have at0 := lst_at (f.get gr hr)
    rw [x_idL at0 (i := 1) (v := rcPV b) (by rw [hQe]; rfl), x_idL at0 (i := 0) (v := rcPV a) (by rw [hQe]; rfl)]
    refine joinN (d := d + 7) (rs := [b, a]) hJ hab (by simp) fun s1 f1 => ?_
    have h1 := h.fr f1
    rw [x_app h1.gf (by rw [List.length_map]; omega)]
    rw [x_chkL h1.g1]
    have f01 := (f.trans f1).setW (.lst (G.map rcPV ++ [rcPV (norm [b, a].flatten)])) h.nf
    obtain ⟨s2, es2⟩ : ∃ s2, s2 = s1.set lf (.lst (G.map rcPV ++ [rcPV (norm [b, a].flatten)])) := ⟨_, rfl⟩
    have lr2 : lr < s2.nxt := Nat.lt_of_lt_of_le hr (by rw [es2]; exact f01.1)
    have gr2 : s2.get lr = some (.lst (Q.map rcPV)) := by rw [es2]; exact f01.get gr hr
    rw [← es2]
    rw [x_idL (lst_at gr2) (i := 1) (v := rcPV b) (by rw [hQe]; rfl), x_liR, x_newL (by rw [List.length_map]; have := (hQ b (by rw [hQe]; simp)).ln; omega)]
    have fb := Fr0.new s2 (.lst (b.map Pt.pv))
    have gb : (s2.new (.lst (b.map Pt.pv))).get s2.nxt = some (.lst (b.map Pt.pv)) := get_new'
    have nb : s2.nxt < (s2.new (.lst (b.map Pt.pv))).nxt := Nat.lt_succ_self _
    generalize s2.new (.lst (b.map Pt.pv)) = s3 at fb gb nb
    generalize s2.nxt = lb at gb nb
    rw [x_idL (lst_at (fb.get gr2 lr2)) (i := 0) (v := rcPV a) (by rw [hQe]; rfl), x_liR, x_newL (by rw [List.length_map]; have := (hQ a (by rw [hQe]; simp)).ln; omega)]
    have fa := Fr0.new s3 (.lst (a.map Pt.pv))
    have ga : (s3.new (.lst (a.map Pt.pv))).get s3.nxt = some (.lst (a.map Pt.pv)) := get_new'
    have gb4 := fa.get gb nb
    generalize s3.new (.lst (a.map Pt.pv)) = s4 at fa ga gb4
    generalize s3.nxt = la at ga
    rw [x_addL gb4 ga, ← List.map_append, x_newL (by rw [List.length_map]; have := (hQ a (by rw [hQe]; simp)).ln; have := (hQ b (by rw [hQe]; simp)).ln; simp; omega)]
    have fc := Fr0.new s4 (.lst ((b ++ a).map Pt.pv))
    have gc : (s4.new (.lst ((b ++ a).map Pt.pv))).get s4.nxt = some (.lst ((b ++ a).map Pt.pv)) := get_new'
    have nc : s4.nxt < (s4.new (.lst ((b ++ a).map Pt.pv))).nxt := Nat.lt_succ_self _
    generalize s4.new (.lst ((b ++ a).map Pt.pv)) = s5 at fc gc nc
    generalize s4.nxt = lc at gc nc
    have eba : [b, a].flatten = b ++ a := by simp
    rw [eba] at r3 r3l r3t es2 f01
    refine (normal_ok (d := d + 7) hx.hN gc nc r3.ok (by omega) (by omega)).mono ?_
    rintro v s6 ⟨rfl, f6⟩
    have f26 := ((fb.trans fa).trans fc).trans f6
    rw [es2] at f26
    have h3 := h1.put (sm_r r3.norm (by simp)) f26
    rw [x_app (f26.get h1.g1 h1.bd) (by rw [List.length_map]; omega)]
    try simp_arith only [ok_ok]
    exact found3 hx hJ ((f01.trans f26).setW _ h.nd) h3 gr hr ge he hQ hQ4
  · rw [if_neg c4]
    try simp_arith only [ok_ok]
    exact found3 hx hJ f (h.up (by omega)) gr hr ge he hQ hQ4
theorem found1 {e0 e1 e2 e3 e4 e6 e7 e8 e10 : Option PV} {lr le lf ld : Nat} {G Q : List Rc} (hx : HasF P x) (hJ : P i7 = some Gf_joined) (f : Fr0 s0 s) (h : FD s s0.nxt lf ld 1 G)
    (gr : s0.get lr = some (.lst (Q.map rcPV))) (hr : lr < s0.nxt) (ge : s0.get le = some (.lst (Q.flatten.map Pt.pv))) (he : le < s0.nxt) (hQ : ∀ q ∈ Q, R3 3 q) (hQn : ∀ q ∈ Q, norm q = q) (hQ4 : Q.length ≤ 4) :
    Ok (evSs (run P W (d + 8)) W (Glap_1 i1 i2 x.draw i4 i5 x.normal i7 x.piece) [e0, e1, e2, e3, e4, some (.loc lr), e6, e7, e8, some (.loc le), e10, some (.loc lf), some (.loc ld)] s) fun o s' => (∃ e11 e12, o = .nx [e0, e1, e2, e3, e4, some (.loc lr), e6, e7, e8, some (.loc le), e10, e11, e12]) ∧ Fr0 s0 s' := by
  have hl := h.ln
  rw [Glap_2_form]
  simp_arith only [ok_ok]
  rw [x_lenL (f.get gr hr), x_gtI, List.length_map]
  by_cases c4 : decide ((0 : Int) < ((Q.length : Nat) : Int)) = true
  · rw [if_pos c4]
    have e4 : 0 < Q.length := by have := of_decide_eq_true c4; omega
    obtain ⟨a, R, hQe⟩ : ∃ a R, Q = a :: R := by
      match Q, e4 with
      | a :: R, _ => exact ⟨a, R, rfl⟩
    have ha : ∀ q ∈ [a], R3 3 q := fun q hq => hQ q (by rw [hQe]; simp only [List.mem_cons, List.not_mem_nil, or_false] at hq ⊢; first | (rcases hq with h | h <;> simp [h]) | simp [hq])
    have r3 := ha a (by simp)
    rw [x_chkL h.gf, x_idL (lst_at (f.get gr hr)) (i := 0) (v := rcPV a) (by rw [hQe]; rfl)]
    refine joinN (d := d + 7) (rs := [a]) hJ ha (by simp) fun s1 f1 => ?_
    have h1 := h.fr f1
    rw [show norm [a].flatten = a by rw [show [a].flatten = a by simp]; exact hQn a (by rw [hQe]; simp)]
    rw [x_app h1.gf (by rw [List.length_map]; omega)]
    rw [x_chkL h1.g1]
    have f01 := (f.trans f1).setW (.lst (G.map rcPV ++ [rcPV a])) h.nf
    rw [x_idL (lst_at (f01.get gr hr)) (i := 0) (v := rcPV a) (by rw [hQe]; rfl)]
    have h3 := h1.put (sm_r r3 (by simp)) (Fr0.refl _)
    rw [x_app h1.g1 (by rw [List.length_map]; omega)]
    try simp_arith only [ok_ok]
    exact found2 hx hJ (f01.setW _ h.nd) h3 gr hr ge he hQ hQ4
  · rw [if_neg c4]
    try simp_arith only [ok_ok]
    exact found2 hx hJ f (h.up (by omega)) gr hr ge he hQ hQ4
/-- what is found and what is due are the same recipes -/
theorem found_ok {e0 e1 e2 e3 e4 e6 e7 e8 e10 e11 e12 : Option PV} {lr le : Nat} {Q : List Rc} (hx : HasF P x) (hJ : P i7 = some Gf_joined)
    (gr : s.get lr = some (.lst (Q.map rcPV))) (hr : lr < s.nxt) (ge : s.get le = some (.lst (Q.flatten.map Pt.pv))) (he : le < s.nxt) (hQ : ∀ q ∈ Q, R3 3 q) (hQn : ∀ q ∈ Q, norm q = q) (hQ4 : Q.length ≤ 4) :
    Ok (evSs (run P W (d + 8)) W (Glap_t i1 i2 x.draw i4 i5 x.normal i7 x.piece) [e0, e1, e2, e3, e4, some (.loc lr), e6, e7, e8, some (.loc le), e10, e11, e12] s) fun o s' => (∃ e11 e12, o = .nx [e0, e1, e2, e3, e4, some (.loc lr), e6, e7, e8, some (.loc le), e10, e11, e12]) ∧ Fr0 s s' := by
  rw [Glap_1_form]
  simp_arith only [ok_ok]
  refine joinN (d := d + 7) (rs := []) hJ (by simp) (by simp) fun s1 f1 => ?_
  rw [x_newL (by simp)]
  have f2 := Fr0.new s1 (.lst [rcPV (norm ([] : List Rc).flatten)])
  have g2 : (s1.new (.lst [rcPV (norm ([] : List Rc).flatten)])).get s1.nxt = some (.lst [rcPV (norm ([] : List Rc).flatten)]) := get_new'
  have n2 : s1.nxt < (s1.new (.lst [rcPV (norm ([] : List Rc).flatten)])).nxt := Nat.lt_succ_self _
  have m2 : s.nxt ≤ s1.nxt := f1.1
  generalize s1.new (.lst [rcPV (norm ([] : List Rc).flatten)]) = s2 at f2 g2 n2
  generalize s1.nxt = lf at g2 n2 m2
  rw [x_tup (by simp), x_newL (by simp)]
  have f3 := Fr0.new s2 (.lst [.tup []])
  have g3 : (s2.new (.lst [.tup []])).get s2.nxt = some (.lst [.tup []]) := get_new'
  have n3 : s2.nxt < (s2.new (.lst [.tup []])).nxt := Nat.lt_succ_self _
  have g23 := f3.get g2 n2
  have m3 : s.nxt ≤ s2.nxt := Nat.le_trans f1.1 f2.1
  have ne : lf ≠ s2.nxt := by omega
  have l3 : lf < (s2.new (.lst [.tup []])).nxt := Nat.lt_trans n2 n3
  generalize s2.new (.lst [.tup []]) = s3 at f3 g3 n3 g23 l3
  generalize s2.nxt = ld at g3 n3 m3 ne
  rw [x_tup (by simp)]
  try simp_arith only [ok_ok]
  have h : FD s3 s.nxt lf ld 1 [[]] := ⟨g23, g3, ne, m2, m3, l3, n3, by simp, fun r hr => by rw [List.mem_singleton.mp hr]; exact sm_r (k := 0) ⟨by simp, by simp [lets], by simp, by simp⟩ (by omega)⟩
  exact found1 hx hJ ((f1.trans f2).trans f3) h gr hr ge he hQ hQn hQ4
end
end Dp


set_option Elab.async false
set_option linter.all false
set_option maxRecDepth 100000
set_option maxHeartbeats 4000000
set_option autoImplicit false
/-! F82: the law of small writers and joined recipes: a lap, whole. -/
namespace Dp
section
variable {P : Nat → Option IFn} {x : Ix} {W d p c i j j1 j2 j3 j4 i1 i2 i4 i5 i7 : Nat} {s s0 : Sto}
theorem tell_bl (b : Bool) : Tell (.bl b) := ⟨rfl, by simp [dep], rfl, by simp [shW]⟩
theorem k02_b4 {e0 e2 e3 e4 e5 e6 e7 e8 e9 e10 e11 e12 : Option PV} {bd : ISs} (hbd : bd = Glaw_b4 i1 i2 x.draw i4 i5 x.normal i7 x.piece) (hx : HasE P x) (hS : P i2 = some (Gf_L_sized x.one x.writer x.draw j)) (hj : P j = some Gf_L_at)
    (h4 : P i4 = some (Jf_is_small j1 j2)) (hk : P j1 = some Jf_kinds_of) (hl : P j2 = some (Gf_letters_in j3)) (hp : P j3 = some Gf_pieces_of) (h5 : P i5 = some (Gf_L_small j4)) (hl4 : P j4 = some Gf_L_letters) (hJ : P i7 = some Gf_joined) (h : PenS s p c) :
    Ok (evSs (run P W (d + 9)) W bd [e0, some (.loc p), e2, e3, e4, e5, e6, e7, e8, e9, e10, e11, e12] s) fun o s' => ∃ e3 e4 e5 e6 e7 e8 e9 e10 e11 e12, o = .nx [e0, some (.loc p), e2, e3, e4, e5, e6, e7, e8, e9, e10, e11, e12] ∧ PenS s' p c := by
  subst hbd
  rw [Glap_t_form]
  simp_arith only [ok_ok]
  refine (sized_ok (d := d) hx hS hj h).mono ?_
  rintro v s1 ⟨⟨w, rfl, hw⟩, hp1, f1⟩
  try simp_arith only [ok_ok]
  refine (is_small_ok (d := d + 6) h4 hk hl hp hw).mono ?_
  rintro v s2 ⟨rfl, f2⟩
  rw [x_rpP (tell_bl _)]
  try simp_arith only [ok_ok]
  refine (lsm_ok (d := d + 7) h5 hl4 hw).mono ?_
  rintro v s3 ⟨rfl, f3⟩
  rw [x_rpP (tell_bl _), x_neRP rfl]
  try simp_arith only [ok_ok]
  have hp3 := (hp1.fr0 f2).fr0 f3
  rw [x_newL (by simp)]
  have f4 := Fr0.new s3 (.lst [.int 0, .int 1, .int 2])
  have gl : (s3.new (.lst [.int 0, .int 1, .int 2])).get s3.nxt = some (.lst ((natI [0, 1, 2]).map PV.int)) := get_new'
  have nl : s3.nxt < (s3.new (.lst [.int 0, .int 1, .int 2])).nxt := Nat.lt_succ_self _
  have lp1 : s3.nxt ≠ p := Nat.ne_of_gt hp3.lt
  have lc1 : s3.nxt ≠ c := Nat.ne_of_gt hp3.ltc
  have hp4 := hp3.fr0 f4
  generalize s3.new (.lst [.int 0, .int 1, .int 2]) = s4 at f4 gl nl hp4
  generalize s3.nxt = l at gl nl lp1 lc1
  rw [x_newL (by simp)]
  have f5 := Fr0.new s4 (.lst [])
  have gr : (s4.new (.lst [])).get s4.nxt = some (.lst (([] : List Rc).map rcPV)) := get_new'
  have nr : s4.nxt < (s4.new (.lst [])).nxt := Nat.lt_succ_self _
  have rp1 : s4.nxt ≠ p := Nat.ne_of_gt hp4.lt
  have rc1 : s4.nxt ≠ c := Nat.ne_of_gt hp4.ltc
  have gl5 := f5.get gl nl
  have nl5 : l < (s4.new (.lst [])).nxt := Nat.lt_succ_of_lt nl
  have lne : l ≠ s4.nxt := Nat.ne_of_lt nl
  have hp5 := hp4.fr0 f5
  generalize s4.new (.lst []) = s5 at f5 gr nr gl5 nl5 hp5
  generalize s4.nxt = lr at gr nr rp1 rc1 lne
  rw [x_tup (by simp)]
  try simp_arith only [ok_ok]
  refine (drawW (d := d + 7) hx.toHasP hp5 (by decide) (by decide)).mono ?_
  rintro v s6 ⟨⟨n, rfl, hn⟩, hp6, f6⟩
  rw [x_rngN (by omega) (by omega)]
  have nl6 := Nat.lt_of_lt_of_le nl5 f6.1
  have nr6 := Nat.lt_of_lt_of_le nr f6.1
  refine ok_for (I := fun k env s' => ∃ e6 e7 e8 js Q, env = [e0, some (.loc p), e2, some w.pv, some (.loc l), some (.loc lr), e6, e7, e8, e9, e10, e11, e12] ∧ s'.get l = some (.lst ((natI js).map PV.int)) ∧ js.length ≤ 3 ∧ (∀ k ∈ js, k < 16) ∧ s'.get lr = some (.lst (Q.map rcPV)) ∧ Q.length = k ∧ (∀ q ∈ Q, R3 3 q) ∧ (∀ q ∈ Q, norm q = q) ∧ PenS s' p c ∧ s6.nxt ≤ s'.nxt) ?_ ?_ _ 0 _ _ (Nat.zero_le _) (by show _ < 0 + ((upto 0 (n : Int).toNat).length + 1); omega) ⟨_, _, _, [0, 1, 2], [], rfl, f6.get gl5 nl5 lp1, by simp, by simp, f6.get gr nr rp1, rfl, by simp, by simp, hp6, Nat.le_refl _⟩
  · rintro k y env s' hy ⟨e6, e7, e8, js, Q, rfl, gl', jl, jk, gr', rfl, Q3, Qn, hp', le'⟩
    obtain ⟨hk', rfl⟩ := uptoG _ _ _ _ hy
    refine ⟨_, setT_nm, ?_⟩
    try simp_arith only [ok_ok]
    refine (k02_b3 (d := d + 1) rfl hx.toHasF hp' gl' (by omega) lp1 lc1 gr' (by omega) rp1 rc1 lne jl jk (by omega)).mono ?_
    rintro o s7 ⟨e7, e8, js', r, rfl, g7, j7, jk7, r7, hr3, hp7, f7⟩
    refine ⟨_, _, _, js', Q ++ [norm r], rfl, g7, by omega, jk7, r7, by simp, ?_, ?_, hp7, Nat.le_trans le' f7.1⟩
    · intro q hq
      rcases List.mem_append.mp hq with hq | hq
      · exact Q3 q hq
      · rw [List.mem_singleton.mp hq]; exact hr3.norm
    · intro q hq
      rcases List.mem_append.mp hq with hq | hq
      · exact Qn q hq
      · rw [List.mem_singleton.mp hq]; exact norm_norm r
  · rintro env s' ⟨e6, e7, e8, js, Q, rfl, gl', jl, jk, gr', hQ, Q3, Qn, hp', le'⟩
    rw [uptoL] at hQ
    have nr' : lr < s'.nxt := by omega
    try simp_arith only [ok_ok]
    rw [x_newL (by simp)]
    have f8 := Fr0.new s' (.lst [])
    have ge : (s'.new (.lst [])).get s'.nxt = some (.lst (([] : Rc).map Pt.pv)) := get_new'
    have ne8 : s'.nxt < (s'.new (.lst [])).nxt := Nat.lt_succ_self _
    have hp8 := hp'.fr0 f8
    have gr8 := f8.get gr' nr'
    have nr8 := Nat.lt_of_lt_of_le nr' f8.1
    generalize s'.new (.lst []) = s8 at f8 ge ne8 hp8 gr8 nr8
    generalize s'.nxt = le at ge ne8
    rw [x_itL (lst_at gr8), bnd_liv (lst_at gr8)]
    have r3 := R3.flat Q3
    have r3l := r3.ln
    refine ok_forJ (xs := Q.map rcPV) (I := fun k env s9 => ∃ le e10, env = [e0, some (.loc p), e2, some w.pv, some (.loc l), some (.loc lr), e6, e7, e8, some (.loc le), e10, e11, e12] ∧ s9.get le = some (.lst ((Q.take k).flatten.map Pt.pv)) ∧ le < s9.nxt ∧ Fr0 s8 s9) ?_ ?_ ?_ _ 0 _ _ (Nat.zero_le _) (by omega) ⟨_, _, rfl, ge, ne8, Fr0.refl _⟩
    · rintro k env s9 ⟨le, e10, rfl, g9, n9, f9⟩
      exact at_liv (lst_at (f9.get gr8 nr8))
    · rintro k y env s9 hy ⟨le, e10, rfl, g9, n9, f9⟩
      obtain ⟨q, hq, rfl⟩ := map_get2 hy
      refine ⟨_, setT_nm, ?_⟩
      try simp_arith only [ok_ok]
      have ek : (Q.take (k + 1)).flatten = (Q.take k).flatten ++ q := by rw [List.take_add_one, hq, List.flatten_append]; simp
      have lk : ((Q.take k).flatten ++ q).length ≤ Q.flatten.length := by
        rw [← ek]
        have e := List.take_append_drop (k + 1) Q
        have := congrArg (fun z : List Rc => z.flatten.length) e
        simp only [List.flatten_append, List.length_append] at this
        omega
      rw [List.length_append] at lk
      refine (k02_b1 rfl g9 n9 (by omega) (by omega)).mono ?_
      rintro o s10 ⟨l', rfl, g10, a10, n10, f10⟩
      exact ⟨l', _, rfl, by rw [ek]; exact g10, n10, f9.trans f10⟩
    · rintro env s9 ⟨le, e10, rfl, g9, n9, f9⟩
      rw [List.length_map, List.take_length] at g9
      try simp_arith only [ok_ok]
      refine (found_ok (d := d + 1) hx.toHasF hJ (f9.get gr8 nr8) (Nat.lt_of_lt_of_le nr8 f9.1) g9 n9 Q3 Qn (by omega)).mono ?_
      rintro o s10 ⟨⟨e11, e12, rfl⟩, f10⟩
      exact ⟨_, _, _, _, _, _, _, _, _, _, rfl, (hp8.fr0 f9).fr0 f10⟩
end
end Dp


set_option Elab.async false
set_option linter.all false
set_option maxRecDepth 100000
set_option maxHeartbeats 4000000
namespace L_k02
open PySem PySem.Spec PyProof.Rows L2 Dp
def topS (i : Nat) : Stmt := PySem.Challenge.pw_fewtests_k02_small_writers_and_recipes_j.main.body.getD i (.Pass ⟨0, 0, 0, 0⟩)
def g_SMALL_BUFFERS : PV := (.int 2)
def g_SMALL_KINDS : PV := (.int 3)
def g_SMALL_LETTERS : PV := (.int 24)
def g_SMALL_STATES : PV := (.int 4)
/-- pieces_of(recipe) -/
def b_pieces_of : ISs := (.cons (.ret (.lc (.one [1] (.var 1) (.nm 1) (.ex (.var 0)) (.some (.bi (.isinst 0) (.cons (.var 1) .nil)))))) .nil)
def f_pieces_of : IFn := ⟨1, 2, true, b_pieces_of⟩
/-- letters_in(recipes) -/
def b_letters_in : ISs := (.cons (.ret (.biC .sum (.two [1, 2] [2] (.bi .len (.cons (.var 2) .nil)) (.nm 1) (.ex (.var 0)) .none (.nm 2) (.ex (.call 0 (.cons (.var 1) .nil))) .none))) .nil)
def f_letters_in : IFn := ⟨1, 3, false, b_letters_in⟩
/-- kinds_of(writer) -/
def b_kinds_of : ISs := (.cons (.ret (.bi .len (.cons (.idx (.idx (.var 0) (.cst (.int 1))) (.cst (.int 0))) .nil))) .nil)
def f_kinds_of : IFn := ⟨1, 1, false, b_kinds_of⟩
/-- is_small(writer) -/
def b_is_small : ISs := (.cons (.asg (.tp (.cons (.nm 1) (.cons (.nm 2) (.cons (.nm 3) .nil)))) (.var 0)) (.cons (.ife (.or (.cmp .gt (.bi .len (.cons (.var 2) .nil)) (.glob 0 g_SMALL_STATES)) (.or (.cmp .gt (.call 2 (.cons (.var 0) .nil)) (.glob 0 g_SMALL_KINDS)) (.cmp .gt (.bi .len (.cons (.var 1) .nil)) (.glob 0 g_SMALL_BUFFERS)))) (.cons (.ret (.cst (.bl false))) .nil) .nil) (.cons (.ife (.biC .any (.one [5] (.cmp .gt (.bi .len (.cons (.var 5) .nil)) (.glob 0 g_SMALL_LETTERS)) (.nm 5) (.ex (.var 1)) .none)) (.cons (.ret (.cst (.bl false))) .nil) .nil) (.cons (.asg (.nm 4) (.lc (.two [6, 7] [7] (.var 7) (.nm 6) (.ex (.var 2)) .none (.nm 7) (.ex (.var 6)) (.some (.cmp .notN (.var 7) (.cst .non)))))) (.cons (.ife (.biC .any (.one [8, 9] (.cmp .gt (.call 1 (.cons (.var 9) .nil)) (.glob 0 g_SMALL_LETTERS)) (.tp (.cons (.nm 8) (.cons (.nm 9) .nil))) (.ex (.var 4)) .none)) (.cons (.ret (.cst (.bl false))) .nil) .nil) (.cons (.ret (.not (.biC .any (.one [10] (.cmp .gt (.call 1 (.cons (.tup (.cons (.var 10) .nil)) .nil)) (.glob 0 g_SMALL_LETTERS)) (.nm 10) (.ex (.var 3)) (.some (.cmp .notN (.var 10) (.cst .non))))))) .nil))))))
def f_is_small : IFn := ⟨1, 11, false, b_is_small⟩
/-- joined(recipes) -/
def b_joined : ISs := (.cons (.asg (.nm 1) (.tup .nil)) (.cons (.for (.nm 2) (.ex (.var 0)) (.cons (.for (.nm 3) (.ex (.var 2)) (.cons (.ife (.and (.bi (.isinst 0) (.cons (.var 3) .nil)) (.and (.cmp .ne (.var 1) (.tup .nil)) (.bi (.isinst 0) (.cons (.idx (.var 1) (.neg (.cst (.int 1)))) .nil)))) (.cons (.asg (.nm 1) (.bin .add (.sl (.var 1) .none (.some (.neg (.cst (.int 1))))) (.tup (.cons (.bin .add (.idx (.var 1) (.neg (.cst (.int 1)))) (.var 3)) .nil)))) .nil) (.cons (.asg (.nm 1) (.bin .add (.var 1) (.tup (.cons (.var 3) .nil)))) .nil)) .nil)) .nil)) (.cons (.ret (.var 1)) .nil)))
def f_joined : IFn := ⟨1, 4, false, b_joined⟩
/-- _law_pen(script) -/
def b__law_pen : ISs := (.cons (.ret (.lst (.cons (.bi .list (.cons (.sl (.var 0) .none (.some (.cst (.int 63)))) .nil)) (.cons (.cst (.int 0)) (.cons (.cst (.int 0)) .nil))))) .nil)
def f__law_pen : IFn := ⟨1, 1, true, b__law_pen⟩
/-- _law_fresh(pen) -/
def b__law_fresh : ISs := (.cons (.asg (.tp (.cons (.nm 1) (.cons (.nm 2) .nil))) (.tup (.cons (.idx (.var 0) (.cst (.int 1))) (.cons (.idx (.var 0) (.cst (.int 0))) .nil)))) (.cons (.setix (.var 0) (.cst (.int 1)) (.bin .add (.var 1) (.cst (.int 1)))) (.cons (.asg (.nm 3) (.ifx (.cmp .ne (.var 2) (.lst .nil)) (.idx (.var 2) (.bin .mod (.bi .int (.cons (.var 1) .nil)) (.bi .len (.cons (.var 2) .nil)))) (.cst (.int 0)))) (.cons (.ife (.and (.cmp .lt (.var 1) (.bi .len (.cons (.var 2) .nil))) (.cmp .ge (.var 3) (.bin .pow (.cst (.int 10)) (.cst (.int 18))))) (.cons (.ret (.bin .sub (.var 3) (.bin .pow (.cst (.int 10)) (.cst (.int 18))))) .nil) .nil) (.cons (.asg (.nm 4) (.cst (.int 2305843009213693951))) (.cons (.asg (.nm 5) (.bin .mod (.bi .int (.cons (.bin .add (.bin .add (.bin .mul (.var 3) (.cst (.int 40014))) (.bin .mul (.cst (.int 52774)) (.var 1))) (.cst (.int 17))) .nil)) (.var 4))) (.cons (.asg (.nm 6) (.var 5)) (.cons (.for (.nm 7) (.rng (.cons (.cst (.int 6)) .nil)) (.cons (.asg (.nm 5) (.bin .mod (.bi .int (.cons (.bin .add (.bin .add (.bin .mul (.var 5) (.var 5)) (.bin .mul (.bin .mul (.cst (.int 48271)) (.bin .add (.var 7) (.cst (.int 2)))) (.bin .add (.var 1) (.cst (.int 1))))) (.var 3)) .nil)) (.var 4))) (.cons (.asg (.nm 6) (.bin .add (.bin .mul (.var 6) (.var 4)) (.var 5))) .nil))) (.cons (.ret (.var 6)) .nil)))))))))
def f__law_fresh : IFn := ⟨1, 8, false, b__law_fresh⟩
/-- _law_draw(pen, bound) -/
def b__law_draw : ISs := (.cons (.ife (.cmp .lt (.idx (.var 0) (.cst (.int 2))) (.var 1)) (.cons (.setix (.var 0) (.cst (.int 2)) (.call 6 (.cons (.var 0) .nil))) .nil) .nil) (.cons (.asg (.nm 2) (.bin .mod (.bi .int (.cons (.idx (.var 0) (.cst (.int 2))) .nil)) (.var 1))) (.cons (.setix (.var 0) (.cst (.int 2)) (.bin .fdiv (.bi .int (.cons (.idx (.var 0) (.cst (.int 2))) .nil)) (.var 1))) (.cons (.ret (.var 2)) .nil))))
def f__law_draw : IFn := ⟨2, 3, false, b__law_draw⟩
/-- _law_one_of(pen, rows) -/
def b__law_one_of : ISs := (.cons (.ret (.idx (.var 1) (.call 7 (.cons (.var 0) (.cons (.bi .len (.cons (.var 1) .nil)) .nil))))) .nil)
def f__law_one_of : IFn := ⟨2, 2, false, b__law_one_of⟩
/-- _law_piece(pen, most) -/
def b__law_piece : ISs := (.cons (.asg (.nm 2) (.call 8 (.cons (.var 0) (.cons (.lst (.cons (.cst (.str [97, 98])) (.cons (.cst (.str [97, 98])) (.cons (.cst (.str [97])) (.cons (.cst (.str [97, 98, 99])) (.cons (.cst (.str [97, 98, 99, 100, 101, 102, 103, 104, 105, 106, 107, 108, 109, 110, 111, 112, 113, 114, 115, 116, 117, 118, 119, 120, 121, 122])) .nil)))))) .nil)))) (.cons (.ret (.joinC (.cst (.str [])) (.one [3] (.call 8 (.cons (.var 0) (.cons (.var 2) .nil))) (.nm 3) (.rng (.cons (.bin .add (.cst (.int 1)) (.call 7 (.cons (.var 0) (.cons (.var 1) .nil)))) .nil)) .none))) .nil))
def f__law_piece : IFn := ⟨2, 4, false, b__law_piece⟩
/-- _law_normal(parts) -/
def b__law_normal : ISs := (.cons (.asg (.nm 1) (.lst .nil)) (.cons (.for (.nm 2) (.ex (.var 0)) (.cons (.ife (.and (.bi (.isinst 0) (.cons (.var 2) .nil)) (.and (.cmp .ne (.var 1) (.lst .nil)) (.bi (.isinst 0) (.cons (.idx (.var 1) (.neg (.cst (.int 1)))) .nil)))) (.cons (.setix (.var 1) (.neg (.cst (.int 1))) (.bin .add (.idx (.var 1) (.neg (.cst (.int 1)))) (.var 2))) .nil) (.cons (.ife (.cmp .ne (.var 2) (.cst (.str []))) (.cons (.ex (.mt .append (.var 1) (.cons (.var 2) .nil))) .nil) .nil) .nil)) .nil)) (.cons (.ret (.bi .tuple (.cons (.var 1) .nil))) .nil)))
def f__law_normal : IFn := ⟨1, 3, false, b__law_normal⟩
/-- _law_fill(pen, left, own) -/
def b__law_fill : ISs := (.cons (.asg (.nm 3) (.lst .nil)) (.cons (.for (.nm 4) (.rng (.cons (.call 8 (.cons (.var 0) (.cons (.lst (.cons (.cst (.int 0)) (.cons (.cst (.int 1)) (.cons (.cst (.int 1)) (.cons (.cst (.int 1)) (.cons (.cst (.int 1)) (.cons (.cst (.int 2)) .nil))))))) .nil))) .nil)) (.cons (.ife (.cmp .eq (.call 7 (.cons (.var 0) (.cons (.cst (.int 3)) .nil))) (.cst (.int 0))) (.cons (.ex (.mt .append (.var 3) (.cons (.call 9 (.cons (.var 0) (.cons (.cst (.int 2)) .nil))) .nil))) .nil) .nil) (.cons (.ife (.cmp .ne (.var 1) (.lst .nil)) (.cons (.asg (.nm 5) (.ifx (.and (.cmp .isin (.var 2) (.var 1)) (.cmp .gt (.call 7 (.cons (.var 0) (.cons (.cst (.int 3)) .nil))) (.cst (.int 0)))) (.mt .index (.var 1) (.cons (.var 2) .nil)) (.call 7 (.cons (.var 0) (.cons (.bi .len (.cons (.var 1) .nil)) .nil))))) (.cons (.ex (.mt .append (.var 3) (.cons (.mt .pop (.var 1) (.cons (.var 5) .nil)) .nil))) .nil)) .nil) .nil))) (.cons (.ife (.cmp .eq (.call 7 (.cons (.var 0) (.cons (.cst (.int 2)) .nil))) (.cst (.int 0))) (.cons (.ex (.mt .append (.var 3) (.cons (.call 9 (.cons (.var 0) (.cons (.cst (.int 2)) .nil))) .nil))) .nil) .nil) (.cons (.ret (.call 10 (.cons (.var 3) .nil))) .nil))))
def f__law_fill : IFn := ⟨3, 6, false, b__law_fill⟩
/-- _law_fills(pen, buffers) -/
def b__law_fills : ISs := (.cons (.asg (.nm 2) (.lrng (.var 1))) (.cons (.asg (.nm 3) (.ifx (.cmp .eq (.call 7 (.cons (.var 0) (.cons (.cst (.int 4)) .nil))) (.cst (.int 0))) (.rev (.var 2)) (.bi .list (.cons (.var 2) .nil)))) (.cons (.asg (.nm 4) .dnew) (.cons (.for (.nm 5) (.ex (.var 3)) (.cons (.dput (.var 4) (.var 5) (.call 11 (.cons (.var 0) (.cons (.var 2) (.cons (.var 5) .nil))))) .nil)) (.cons (.ret (.biC .tuple (.one [5] (.dget (.var 4) (.var 5)) (.nm 5) (.rng (.cons (.var 1) .nil)) .none))) .nil)))))
def f__law_fills : IFn := ⟨2, 6, false, b__law_fills⟩
/-- _law_end(pen, buffers) -/
def b__law_end : ISs := (.cons (.ret (.ifx (.cmp .gt (.call 7 (.cons (.var 0) (.cons (.cst (.int 5)) .nil))) (.cst (.int 0))) (.call 11 (.cons (.var 0) (.cons (.lrng (.var 1)) (.cons (.bin .sub (.var 1) (.cst (.int 1))) .nil)))) (.cst .non))) .nil)
def f__law_end : IFn := ⟨2, 2, false, b__law_end⟩
/-- _law_writer(pen, count, states, buffers) -/
def b__law_writer : ISs := (.cons (.asg (.tp (.cons (.nm 2) (.cons (.nm 3) .nil))) (.tup (.cons (.bin .add (.cst (.int 1)) (.call 7 (.cons (.var 0) (.cons (.var 2) .nil)))) (.cons (.bin .add (.cst (.int 1)) (.call 7 (.cons (.var 0) (.cons (.var 3) .nil)))) .nil)))) (.cons (.asg (.nm 4) (.biC .tuple (.one [12] (.ifx (.cmp .eq (.call 7 (.cons (.var 0) (.cons (.cst (.int 4)) .nil))) (.cst (.int 0))) (.call 9 (.cons (.var 0) (.cons (.cst (.int 2)) .nil))) (.cst (.str []))) (.nm 12) (.rng (.cons (.var 3) .nil)) .none))) (.cons (.asg (.nm 5) (.lst .nil)) (.cons (.for (.nm 6) (.rng (.cons (.var 2) .nil)) (.cons (.asg (.nm 7) (.lst .nil)) (.cons (.for (.nm 8) (.rng (.cons (.var 1) .nil)) (.cons (.asg (.tp (.cons (.nm 9) (.cons (.nm 10) .nil))) (.tup (.cons (.call 7 (.cons (.var 0) (.cons (.var 2) .nil))) (.cons (.call 12 (.cons (.var 0) (.cons (.var 3) .nil))) .nil)))) (.cons (.ex (.mt .append (.var 7) (.cons (.ifx (.cmp .gt (.call 7 (.cons (.var 0) (.cons (.cst (.int 6)) .nil))) (.cst (.int 0))) (.tup (.cons (.var 9) (.cons (.var 10) .nil))) (.cst .non)) .nil))) .nil))) (.cons (.ex (.mt .append (.var 5) (.cons (.bi .tuple (.cons (.var 7) .nil)) .nil))) .nil)))) (.cons (.asg (.nm 11) (.lc (.one [6] (.call 13 (.cons (.var 0) (.cons (.var 3) .nil))) (.nm 6) (.rng (.cons (.var 2) .nil)) .none))) (.cons (.ret (.tup (.cons (.var 4) (.cons (.bi .tuple (.cons (.var 5) .nil)) (.cons (.bi .tuple (.cons (.var 11) .nil)) .nil))))) .nil))))))
def f__law_writer : IFn := ⟨4, 13, false, b__law_writer⟩
/-- _law_at(rows, place, thing) -/
def b__law_at : ISs := (.cons (.ret (.bin .add (.bin .add (.sl (.var 0) .none (.some (.var 1))) (.tup (.cons (.var 2) .nil))) (.sl (.var 0) (.some (.bin .add (.var 1) (.cst (.int 1)))) .none))) .nil)
def f__law_at : IFn := ⟨3, 3, false, b__law_at⟩
/-- _law_letters(rows) -/
def b__law_letters : ISs := (.cons (.asg (.nm 1) (.cst (.int 0))) (.cons (.for (.nm 2) (.ex (.var 0)) (.cons (.asg (.nm 1) (.bin .add (.var 1) (.biC .sum (.one [3] (.bi .len (.cons (.var 3) .nil)) (.nm 3) (.ex (.var 2)) (.some (.bi (.isinst 0) (.cons (.var 3) .nil))))))) .nil)) (.cons (.ret (.var 1)) .nil)))
def f__law_letters : IFn := ⟨1, 4, false, b__law_letters⟩
/-- _law_sized(pen) -/
def b__law_sized : ISs := (.cons (.asg (.nm 1) (.call 8 (.cons (.var 0) (.cons (.lst (.cons (.cst (.int 1)) (.cons (.cst (.int 3)) (.cons (.cst (.int 3)) (.cons (.cst (.int 4)) .nil))))) .nil)))) (.cons (.asg (.nm 2) (.call 14 (.cons (.var 0) (.cons (.var 1) (.cons (.call 8 (.cons (.var 0) (.cons (.lst (.cons (.cst (.int 1)) (.cons (.cst (.int 3)) .nil))) .nil))) (.cons (.call 8 (.cons (.var 0) (.cons (.lst (.cons (.cst (.int 2)) (.cons (.cst (.int 2)) (.cons (.cst (.int 3)) .nil)))) .nil))) .nil)))))) (.cons (.ife (.cmp .eq (.call 7 (.cons (.var 0) (.cons (.cst (.int 3)) .nil))) (.cst (.int 0))) (.cons (.asg (.nm 3) (.call 8 (.cons (.var 0) (.cons (.lst (.cons (.cst (.int 4)) (.cons (.cst (.int 5)) (.cons (.cst (.int 12)) .nil)))) .nil)))) (.cons (.asg (.nm 2) (.tup (.cons (.idx (.var 2) (.cst (.int 0))) (.cons (.bin .mul (.tup (.cons (.idx (.idx (.var 2) (.cst (.int 1))) (.cst (.int 0))) .nil)) (.var 3)) (.cons (.bin .mul (.tup (.cons (.idx (.idx (.var 2) (.cst (.int 2))) (.cst (.int 0))) .nil)) (.var 3)) .nil))))) .nil)) .nil) (.cons (.asg (.nm 4) (.call 8 (.cons (.var 0) (.cons (.lst (.cons (.cst (.int 23)) (.cons (.cst (.int 24)) (.cons (.cst (.int 25)) (.cons (.cst (.int 240)) .nil))))) .nil)))) (.cons (.asg (.tp (.cons (.nm 5) (.cons (.nm 6) (.cons (.nm 7) .nil)))) (.tup (.cons (.call 7 (.cons (.var 0) (.cons (.cst (.int 4)) .nil))) (.cons (.call 7 (.cons (.var 0) (.cons (.bi .len (.cons (.idx (.var 2) (.cst (.int 1))) .nil)) .nil))) (.cons (.call 7 (.cons (.var 0) (.cons (.var 1) .nil))) .nil))))) (.cons (.asg (.nm 8) (.bin .fdiv (.var 4) (.cst (.int 2)))) (.cons (.ife (.cmp .eq (.var 5) (.cst (.int 0))) (.cons (.ret (.tup (.cons (.call 15 (.cons (.idx (.var 2) (.cst (.int 0))) (.cons (.bin .sub (.bi .len (.cons (.idx (.var 2) (.cst (.int 0))) .nil)) (.cst (.int 1))) (.cons (.bin .mul (.cst (.str [109])) (.var 4)) .nil)))) (.cons (.idx (.var 2) (.cst (.int 1))) (.cons (.idx (.var 2) (.cst (.int 2))) .nil))))) .nil) .nil) (.cons (.ife (.cmp .eq (.var 5) (.cst (.int 1))) (.cons (.ret (.tup (.cons (.idx (.var 2) (.cst (.int 0))) (.cons (.idx (.var 2) (.cst (.int 1))) (.cons (.call 15 (.cons (.idx (.var 2) (.cst (.int 2))) (.cons (.var 6) (.cons (.tup (.cons (.bin .mul (.cst (.str [97])) (.var 8)) (.cons (.cst (.int 0)) (.cons (.bin .mul (.cst (.str [98])) (.bin .sub (.var 4) (.var 8))) .nil)))) .nil)))) .nil))))) .nil) .nil) (.cons (.ife (.cmp .eq (.var 5) (.cst (.int 2))) (.cons (.asg (.nm 9) (.lst (.cons (.tup (.cons (.bin .mul (.cst (.str [97])) (.var 8)) .nil)) (.cons (.tup (.cons (.cst (.int 0)) (.cons (.bin .mul (.cst (.str [98])) (.bin .sub (.var 4) (.var 8))) .nil))) (.cons (.tup .nil) .nil))))) (.cons (.asg (.nm 10) (.tup (.cons (.var 6) (.cons (.bi .tuple (.cons (.sl (.var 9) .none (.some (.bi .len (.cons (.idx (.var 2) (.cst (.int 0))) .nil)))) .nil)) .nil)))) (.cons (.ret (.tup (.cons (.idx (.var 2) (.cst (.int 0))) (.cons (.call 15 (.cons (.idx (.var 2) (.cst (.int 1))) (.cons (.var 6) (.cons (.call 15 (.cons (.idx (.idx (.var 2) (.cst (.int 1))) (.var 6)) (.cons (.var 7) (.cons (.var 10) .nil)))) .nil)))) (.cons (.idx (.var 2) (.cst (.int 2))) .nil))))) .nil))) .nil) (.cons (.ret (.var 2)) .nil))))))))))
def f__law_sized : IFn := ⟨1, 11, false, b__law_sized⟩
/-- _law_small(writer) -/
def b__law_small : ISs := (.cons (.asg (.tp (.cons (.nm 1) (.cons (.nm 2) (.cons (.nm 3) .nil)))) (.var 0)) (.cons (.ife (.or (.cmp .gt (.bi .len (.cons (.var 2) .nil)) (.cst (.int 4))) (.or (.cmp .gt (.bi .len (.cons (.idx (.var 2) (.cst (.int 0))) .nil)) (.cst (.int 3))) (.or (.cmp .gt (.bi .len (.cons (.var 1) .nil)) (.cst (.int 2))) (.cmp .gt (.biC .maxL (.one [5] (.bi .len (.cons (.var 5) .nil)) (.nm 5) (.ex (.var 1)) .none)) (.cst (.int 24)))))) (.cons (.ret (.cst (.bl false))) .nil) .nil) (.cons (.for (.nm 4) (.ex (.var 2)) (.cons (.ife (.cmp .ne (.lc (.one [6] (.var 6) (.nm 6) (.ex (.var 4)) (.some (.and (.cmp .notN (.var 6) (.cst .non)) (.cmp .gt (.call 16 (.cons (.idx (.var 6) (.cst (.int 1))) .nil)) (.cst (.int 24))))))) (.lst .nil)) (.cons (.ret (.cst (.bl false))) .nil) .nil) .nil)) (.cons (.ret (.cmp .eq (.lc (.one [7] (.var 7) (.nm 7) (.ex (.var 3)) (.some (.and (.cmp .notN (.var 7) (.cst .non)) (.cmp .gt (.call 16 (.cons (.lst (.cons (.var 7) .nil)) .nil)) (.cst (.int 24))))))) (.lst .nil))) .nil))))
def f__law_small : IFn := ⟨1, 8, false, b__law_small⟩
/-- law(script) -/
def b_law : ISs := (.cons (.asg (.nm 1) (.call 5 (.cons (.var 0) .nil))) (.cons (.for (.nm 2) (.rng (.cons (.cst (.int 4)) .nil)) (.cons (.asg (.nm 3) (.call 17 (.cons (.var 1) .nil))) (.cons (.ife (.cmp .ne (.bi .repr (.cons (.call 3 (.cons (.var 3) .nil)) .nil)) (.bi .repr (.cons (.call 18 (.cons (.var 3) .nil)) .nil))) (.cons (.ret (.cst (.bl false))) .nil) .nil) (.cons (.asg (.tp (.cons (.nm 4) (.cons (.nm 5) .nil))) (.tup (.cons (.lst (.cons (.cst (.int 0)) (.cons (.cst (.int 1)) (.cons (.cst (.int 2)) .nil)))) (.cons (.lst .nil) .nil)))) (.cons (.for (.nm 6) (.rng (.cons (.call 7 (.cons (.var 1) (.cons (.cst (.int 5)) .nil))) .nil)) (.cons (.asg (.nm 7) (.lst .nil)) (.cons (.for (.nm 8) (.rng (.cons (.call 7 (.cons (.var 1) (.cons (.cst (.int 4)) .nil))) .nil)) (.cons (.ife (.and (.cmp .ne (.var 4) (.lst .nil)) (.cmp .eq (.call 7 (.cons (.var 1) (.cons (.cst (.int 2)) .nil))) (.cst (.int 0)))) (.cons (.ex (.mt .append (.var 7) (.cons (.mt .pop (.var 4) (.cons (.call 7 (.cons (.var 1) (.cons (.bi .len (.cons (.var 4) .nil)) .nil))) .nil)) .nil))) .nil) (.cons (.ex (.mt .append (.var 7) (.cons (.call 9 (.cons (.var 1) (.cons (.cst (.int 3)) .nil))) .nil))) .nil)) .nil)) (.cons (.ex (.mt .append (.var 5) (.cons (.call 10 (.cons (.var 7) .nil)) .nil))) .nil)))) (.cons (.asg (.nm 9) (.lst .nil)) (.cons (.for (.nm 10) (.ex (.var 5)) (.cons (.asg (.nm 9) (.bin .add (.var 9) (.bi .list (.cons (.var 10) .nil)))) .nil)) (.cons (.asg (.tp (.cons (.nm 11) (.cons (.nm 12) .nil))) (.tup (.cons (.lst (.cons (.calls 4 0 .nil) .nil)) (.cons (.lst (.cons (.tup .nil) .nil)) .nil)))) (.cons (.ife (.cmp .gt (.bi .len (.cons (.var 5) .nil)) (.cst (.int 0))) (.cons (.ex (.mt .append (.var 11) (.cons (.calls 4 0 (.cons (.idx (.var 5) (.cst (.int 0))) .nil)) .nil))) (.cons (.ex (.mt .append (.var 12) (.cons (.idx (.var 5) (.cst (.int 0))) .nil))) .nil)) .nil) (.cons (.ife (.cmp .gt (.bi .len (.cons (.var 5) .nil)) (.cst (.int 1))) (.cons (.ex (.mt .append (.var 11) (.cons (.calls 4 0 (.cons (.idx (.var 5) (.cst (.int 1))) (.cons (.idx (.var 5) (.cst (.int 0))) .nil))) .nil))) (.cons (.ex (.mt .append (.var 12) (.cons (.call 10 (.cons (.bin .add (.bi .list (.cons (.idx (.var 5) (.cst (.int 1))) .nil)) (.bi .list (.cons (.idx (.var 5) (.cst (.int 0))) .nil))) .nil)) .nil))) .nil)) .nil) (.cons (.ife (.cmp .eq (.bi .len (.cons (.var 5) .nil)) (.cst (.int 4))) (.cons (.ex (.mt .append (.var 11) (.cons (.calls 4 0 (.cons (.idx (.var 5) (.cst (.int 0))) (.cons (.idx (.var 5) (.cst (.int 1))) (.cons (.idx (.var 5) (.cst (.int 2))) (.cons (.idx (.var 5) (.cst (.int 3))) .nil))))) .nil))) (.cons (.ex (.mt .append (.var 12) (.cons (.call 10 (.cons (.var 9) .nil)) .nil))) .nil)) .nil) (.cons (.ife (.cmp .ne (.bi .repr (.cons (.var 11) .nil)) (.bi .repr (.cons (.var 12) .nil))) (.cons (.ret (.cst (.bl false))) .nil) .nil) .nil)))))))))))) (.cons (.ret (.cst (.bl true))) .nil)))
def f_law : IFn := ⟨1, 13, false, b_law⟩
abbrev names : List Str := ("pieces_of" :: "letters_in" :: "kinds_of" :: "is_small" :: "joined" :: "_law_pen" :: "_law_fresh" :: "_law_draw" :: "_law_one_of" :: "_law_piece" :: "_law_normal" :: "_law_fill" :: "_law_fills" :: "_law_end" :: "_law_writer" :: "_law_at" :: "_law_letters" :: "_law_sized" :: "_law_small" :: "law" :: [])
abbrev twos : List (Str × Nat) := []
abbrev csts : List (Str × PV) := [("SMALL_BUFFERS", g_SMALL_BUFFERS), ("SMALL_KINDS", g_SMALL_KINDS), ("SMALL_LETTERS", g_SMALL_LETTERS), ("SMALL_STATES", g_SMALL_STATES)]
abbrev nons : List Str := ("any" :: "int" :: "isinstance" :: "len" :: "list" :: "max" :: "range" :: "repr" :: "str" :: "sum" :: "tuple" :: [])
abbrev keys : List Nat := []
abbrev kwds : List ((Nat × List Str) × List Nat) := []
abbrev stars : List (Str × (Nat × Nat)) := [("joined", (4, 0))]
abbrev tab : Tab := tabOf names csts nons keys kwds twos stars
abbrev N_pieces_of : List Str := ["recipe", "part"]
theorem sc_pieces_of : FnScope N_pieces_of ["recipe"] (defScope (topS 5)) := ⟨rfl, rfl, rfl, by decide +kernel, rfl, by decide +kernel, by decide +kernel⟩
theorem ck_pieces_of : chkSs tab N_pieces_of (defScope (topS 5)) (fun _ => true) b_pieces_of (defBody (topS 5)) = true := by decide +kernel
abbrev N_letters_in : List Str := ["recipes", "recipe", "piece"]
theorem sc_letters_in : FnScope N_letters_in ["recipes"] (defScope (topS 6)) := ⟨rfl, rfl, rfl, by decide +kernel, rfl, by decide +kernel, by decide +kernel⟩
theorem ck_letters_in : chkSs tab N_letters_in (defScope (topS 6)) (fun _ => true) b_letters_in (defBody (topS 6)) = true := by decide +kernel
abbrev N_kinds_of : List Str := ["writer"]
theorem sc_kinds_of : FnScope N_kinds_of ["writer"] (defScope (topS 7)) := ⟨rfl, rfl, rfl, by decide +kernel, rfl, by decide +kernel, by decide +kernel⟩
theorem ck_kinds_of : chkSs tab N_kinds_of (defScope (topS 7)) (fun _ => true) b_kinds_of (defBody (topS 7)) = true := by decide +kernel
abbrev N_is_small : List Str := ["writer", "begins", "rules", "ends", "entries", "text", "row", "entry", "state", "fills", "end"]
theorem sc_is_small : FnScope N_is_small ["writer"] (defScope (topS 8)) := ⟨rfl, rfl, rfl, by decide +kernel, rfl, by decide +kernel, by decide +kernel⟩
theorem ck_is_small : chkSs tab N_is_small (defScope (topS 8)) (fun _ => true) b_is_small (defBody (topS 8)) = true := by decide +kernel
abbrev N_joined : List Str := ["recipes", "found", "recipe", "part"]
theorem sc_joined : FnScope N_joined ["recipes"] (defScope (topS 9)) := ⟨rfl, rfl, rfl, by decide +kernel, rfl, by decide +kernel, by decide +kernel⟩
theorem ck_joined : chkSs tab N_joined (defScope (topS 9)) (fun _ => true) b_joined (defBody (topS 9)) = true := by decide +kernel
abbrev N__law_pen : List Str := ["script"]
theorem sc__law_pen : FnScope N__law_pen ["script"] (defScope (topS 11)) := ⟨rfl, rfl, rfl, by decide +kernel, rfl, by decide +kernel, by decide +kernel⟩
theorem ck__law_pen : chkSs tab N__law_pen (defScope (topS 11)) (fun _ => true) b__law_pen (defBody (topS 11)) = true := by decide +kernel
abbrev N__law_fresh : List Str := ["pen", "place", "cells", "cell", "prime", "state", "found", "lap"]
theorem sc__law_fresh : FnScope N__law_fresh ["pen"] (defScope (topS 12)) := ⟨rfl, rfl, rfl, by decide +kernel, rfl, by decide +kernel, by decide +kernel⟩
theorem ck__law_fresh : chkSs tab N__law_fresh (defScope (topS 12)) (fun _ => true) b__law_fresh (defBody (topS 12)) = true := by decide +kernel
abbrev N__law_draw : List Str := ["pen", "bound", "digit"]
theorem sc__law_draw : FnScope N__law_draw ["pen", "bound"] (defScope (topS 13)) := ⟨rfl, rfl, rfl, by decide +kernel, rfl, by decide +kernel, by decide +kernel⟩
theorem ck__law_draw : chkSs tab N__law_draw (defScope (topS 13)) (fun _ => true) b__law_draw (defBody (topS 13)) = true := by decide +kernel
abbrev N__law_one_of : List Str := ["pen", "rows"]
theorem sc__law_one_of : FnScope N__law_one_of ["pen", "rows"] (defScope (topS 14)) := ⟨rfl, rfl, rfl, by decide +kernel, rfl, by decide +kernel, by decide +kernel⟩
theorem ck__law_one_of : chkSs tab N__law_one_of (defScope (topS 14)) (fun _ => true) b__law_one_of (defBody (topS 14)) = true := by decide +kernel
abbrev N__law_piece : List Str := ["pen", "most", "letters", "lap"]
theorem sc__law_piece : FnScope N__law_piece ["pen", "most"] (defScope (topS 15)) := ⟨rfl, rfl, rfl, by decide +kernel, rfl, by decide +kernel, by decide +kernel⟩
theorem ck__law_piece : chkSs tab N__law_piece (defScope (topS 15)) (fun _ => true) b__law_piece (defBody (topS 15)) = true := by decide +kernel
abbrev N__law_normal : List Str := ["parts", "found", "part"]
theorem sc__law_normal : FnScope N__law_normal ["parts"] (defScope (topS 16)) := ⟨rfl, rfl, rfl, by decide +kernel, rfl, by decide +kernel, by decide +kernel⟩
theorem ck__law_normal : chkSs tab N__law_normal (defScope (topS 16)) (fun _ => true) b__law_normal (defBody (topS 16)) = true := by decide +kernel
abbrev N__law_fill : List Str := ["pen", "left", "own", "parts", "lap", "at"]
theorem sc__law_fill : FnScope N__law_fill ["pen", "left", "own"] (defScope (topS 17)) := ⟨rfl, rfl, rfl, by decide +kernel, rfl, by decide +kernel, by decide +kernel⟩
theorem ck__law_fill : chkSs tab N__law_fill (defScope (topS 17)) (fun _ => true) b__law_fill (defBody (topS 17)) = true := by decide +kernel
abbrev N__law_fills : List Str := ["pen", "buffers", "left", "order", "found", "buffer"]
theorem sc__law_fills : FnScope N__law_fills ["pen", "buffers"] (defScope (topS 18)) := ⟨rfl, rfl, rfl, by decide +kernel, rfl, by decide +kernel, by decide +kernel⟩
theorem ck__law_fills : chkSs tab N__law_fills (defScope (topS 18)) (fun _ => true) b__law_fills (defBody (topS 18)) = true := by decide +kernel
abbrev N__law_end : List Str := ["pen", "buffers"]
theorem sc__law_end : FnScope N__law_end ["pen", "buffers"] (defScope (topS 19)) := ⟨rfl, rfl, rfl, by decide +kernel, rfl, by decide +kernel, by decide +kernel⟩
theorem ck__law_end : chkSs tab N__law_end (defScope (topS 19)) (fun _ => true) b__law_end (defBody (topS 19)) = true := by decide +kernel
abbrev N__law_writer : List Str := ["pen", "count", "states", "buffers", "begins", "rules", "state", "row", "kind", "target", "fills", "ends", "lap"]
theorem sc__law_writer : FnScope N__law_writer ["pen", "count", "states", "buffers"] (defScope (topS 20)) := ⟨rfl, rfl, rfl, by decide +kernel, rfl, by decide +kernel, by decide +kernel⟩
theorem ck__law_writer : chkSs tab N__law_writer (defScope (topS 20)) (fun _ => true) b__law_writer (defBody (topS 20)) = true := by decide +kernel
abbrev N__law_at : List Str := ["rows", "place", "thing"]
theorem sc__law_at : FnScope N__law_at ["rows", "place", "thing"] (defScope (topS 21)) := ⟨rfl, rfl, rfl, by decide +kernel, rfl, by decide +kernel, by decide +kernel⟩
theorem ck__law_at : chkSs tab N__law_at (defScope (topS 21)) (fun _ => true) b__law_at (defBody (topS 21)) = true := by decide +kernel
abbrev N__law_letters : List Str := ["rows", "found", "recipe", "part"]
theorem sc__law_letters : FnScope N__law_letters ["rows"] (defScope (topS 22)) := ⟨rfl, rfl, rfl, by decide +kernel, rfl, by decide +kernel, by decide +kernel⟩
theorem ck__law_letters : chkSs tab N__law_letters (defScope (topS 22)) (fun _ => true) b__law_letters (defBody (topS 22)) = true := by decide +kernel
abbrev N__law_sized : List Str := ["pen", "kinds", "writer", "many", "size", "option", "state", "kind", "half", "fills", "entry"]
theorem sc__law_sized : FnScope N__law_sized ["pen"] (defScope (topS 23)) := ⟨rfl, rfl, rfl, by decide +kernel, rfl, by decide +kernel, by decide +kernel⟩
theorem ck__law_sized : chkSs tab N__law_sized (defScope (topS 23)) (fun _ => true) b__law_sized (defBody (topS 23)) = true := by decide +kernel
abbrev N__law_small : List Str := ["writer", "begins", "rules", "ends", "row", "text", "entry", "end"]
theorem sc__law_small : FnScope N__law_small ["writer"] (defScope (topS 24)) := ⟨rfl, rfl, rfl, by decide +kernel, rfl, by decide +kernel, by decide +kernel⟩
theorem ck__law_small : chkSs tab N__law_small (defScope (topS 24)) (fun _ => true) b__law_small (defBody (topS 24)) = true := by decide +kernel
abbrev N_law : List Str := ["script", "pen", "lap", "writer", "left", "rows", "turn", "parts", "place", "every", "recipe", "found", "due"]
theorem sc_law : FnScope N_law ["script"] (defScope (topS 25)) := ⟨rfl, rfl, rfl, by decide +kernel, rfl, by decide +kernel, by decide +kernel⟩
theorem ck_law : chkSs tab N_law (defScope (topS 25)) (fun _ => true) b_law (defBody (topS 25)) = true := by decide +kernel
abbrev defs : List IFn := (f_pieces_of :: f_letters_in :: f_kinds_of :: f_is_small :: f_joined :: f__law_pen :: f__law_fresh :: f__law_draw :: f__law_one_of :: f__law_piece :: f__law_normal :: f__law_fill :: f__law_fills :: f__law_end :: f__law_writer :: f__law_at :: f__law_letters :: f__law_sized :: f__law_small :: f_law :: [])
abbrev PD : Nat → Option IFn := fun f => defs[f]?
abbrev LG : List PV → M PV := run PD 5000 16 19
section
variable {l : PySem.W.OpenLaw} {w : World} {K : PySem.W.Frag} {h : Heap} {mg : Str → Option Value}
theorem d_pieces_of {f : Addr} {od an : Option Addr} {sl : Array (Option Value)} {oc kV dc pm cd ct : Value} (X : K.In h) (G : h.Ns mainGlobals mg) (a : PySem.W.nsIn K mainGlobals "pieces_of" = some (some (.ref f))) (l : K.lookup f = some ⟨oc, od, .func (PySem.W.fnOf "pieces_of" "pieces_of" (defArgs (topS 5)) (defBody (topS 5)) (defScope (topS 5)) .none kV dc pm an cd ct), sl⟩) (c : PySem.W.codeIn K cd "pieces_of" = true) (k : PySem.W.keepIn K (.ref f) = true) :
    DefOk K tab mg ⟨f_pieces_of, "pieces_of", f, PySem.W.fnOf "pieces_of" "pieces_of" (defArgs (topS 5)) (defBody (topS 5)) (defScope (topS 5)) .none kV dc pm an cd ct, topS 5, N_pieces_of, ["recipe"], "pieces_of"⟩ :=
  .mk0 (fun_mk l c k) sc_pieces_of ck_pieces_of rfl rfl (PySem.W.mg_of X G a) ((fun_mk (st := topS 5) l c k).binds (ps := ["recipe"]) fun _ _ _ _ _ _ us hl => match us, hl with | [_], _ => rfl)
theorem d_letters_in {f : Addr} {od an : Option Addr} {sl : Array (Option Value)} {oc kV dc pm cd ct : Value} (X : K.In h) (G : h.Ns mainGlobals mg) (a : PySem.W.nsIn K mainGlobals "letters_in" = some (some (.ref f))) (l : K.lookup f = some ⟨oc, od, .func (PySem.W.fnOf "letters_in" "letters_in" (defArgs (topS 6)) (defBody (topS 6)) (defScope (topS 6)) .none kV dc pm an cd ct), sl⟩) (c : PySem.W.codeIn K cd "letters_in" = true) (k : PySem.W.keepIn K (.ref f) = true) :
    DefOk K tab mg ⟨f_letters_in, "letters_in", f, PySem.W.fnOf "letters_in" "letters_in" (defArgs (topS 6)) (defBody (topS 6)) (defScope (topS 6)) .none kV dc pm an cd ct, topS 6, N_letters_in, ["recipes"], "letters_in"⟩ :=
  .mk0 (fun_mk l c k) sc_letters_in ck_letters_in rfl rfl (PySem.W.mg_of X G a) ((fun_mk (st := topS 6) l c k).binds (ps := ["recipes"]) fun _ _ _ _ _ _ us hl => match us, hl with | [_], _ => rfl)
theorem d_kinds_of {f : Addr} {od an : Option Addr} {sl : Array (Option Value)} {oc kV dc pm cd ct : Value} (X : K.In h) (G : h.Ns mainGlobals mg) (a : PySem.W.nsIn K mainGlobals "kinds_of" = some (some (.ref f))) (l : K.lookup f = some ⟨oc, od, .func (PySem.W.fnOf "kinds_of" "kinds_of" (defArgs (topS 7)) (defBody (topS 7)) (defScope (topS 7)) .none kV dc pm an cd ct), sl⟩) (c : PySem.W.codeIn K cd "kinds_of" = true) (k : PySem.W.keepIn K (.ref f) = true) :
    DefOk K tab mg ⟨f_kinds_of, "kinds_of", f, PySem.W.fnOf "kinds_of" "kinds_of" (defArgs (topS 7)) (defBody (topS 7)) (defScope (topS 7)) .none kV dc pm an cd ct, topS 7, N_kinds_of, ["writer"], "kinds_of"⟩ :=
  .mk0 (fun_mk l c k) sc_kinds_of ck_kinds_of rfl rfl (PySem.W.mg_of X G a) ((fun_mk (st := topS 7) l c k).binds (ps := ["writer"]) fun _ _ _ _ _ _ us hl => match us, hl with | [_], _ => rfl)
theorem d_is_small {f : Addr} {od an : Option Addr} {sl : Array (Option Value)} {oc kV dc pm cd ct : Value} (X : K.In h) (G : h.Ns mainGlobals mg) (a : PySem.W.nsIn K mainGlobals "is_small" = some (some (.ref f))) (l : K.lookup f = some ⟨oc, od, .func (PySem.W.fnOf "is_small" "is_small" (defArgs (topS 8)) (defBody (topS 8)) (defScope (topS 8)) .none kV dc pm an cd ct), sl⟩) (c : PySem.W.codeIn K cd "is_small" = true) (k : PySem.W.keepIn K (.ref f) = true) :
    DefOk K tab mg ⟨f_is_small, "is_small", f, PySem.W.fnOf "is_small" "is_small" (defArgs (topS 8)) (defBody (topS 8)) (defScope (topS 8)) .none kV dc pm an cd ct, topS 8, N_is_small, ["writer"], "is_small"⟩ :=
  .mk0 (fun_mk l c k) sc_is_small ck_is_small rfl rfl (PySem.W.mg_of X G a) ((fun_mk (st := topS 8) l c k).binds (ps := ["writer"]) fun _ _ _ _ _ _ us hl => match us, hl with | [_], _ => rfl)
theorem d_joined {f : Addr} {od an : Option Addr} {sl : Array (Option Value)} {oc kV dc pm cd ct : Value} (X : K.In h) (G : h.Ns mainGlobals mg) (a : PySem.W.nsIn K mainGlobals "joined" = some (some (.ref f))) (l : K.lookup f = some ⟨oc, od, .func (PySem.W.fnOf "joined" "joined" (defArgs (topS 9)) (defBody (topS 9)) (defScope (topS 9)) .none kV dc pm an cd ct), sl⟩) (c : PySem.W.codeIn K cd "joined" = true) (k : PySem.W.keepIn K (.ref f) = true) :
    (DefOk K tab mg ⟨f_joined, "joined", f, PySem.W.fnOf "joined" "joined" (defArgs (topS 9)) (defBody (topS 9)) (defScope (topS 9)) .none kV dc pm an cd ct, topS 9, N_joined, ["recipes"], "joined"⟩ ∨ (stars.any fun q => decide (q.1 = ("joined" : Str))) = true) ∧ mg "joined" = some (.ref f) ∧ DefB K tab ⟨f_joined, "joined", f, PySem.W.fnOf "joined" "joined" (defArgs (topS 9)) (defBody (topS 9)) (defScope (topS 9)) .none kV dc pm an cd ct, topS 9, N_joined, ["recipes"], "joined"⟩ f_joined ∧ StarB (PySem.W.fnOf "joined" "joined" (defArgs (topS 9)) (defBody (topS 9)) (defScope (topS 9)) .none kV dc pm an cd ct) ["recipes"] 0 :=
  ⟨.inr rfl, PySem.W.mg_of X G a, ⟨.ofFun (fun_mk l c k), sc_joined, ck_joined, rfl, rfl⟩, ⟨rfl, fun us rest h => match us, h, rest with | [], _, [] => rfl | [], _, _ :: _ => rfl⟩⟩
theorem d__law_pen {f : Addr} {od an : Option Addr} {sl : Array (Option Value)} {oc kV dc pm cd ct : Value} (X : K.In h) (G : h.Ns mainGlobals mg) (a : PySem.W.nsIn K mainGlobals "_law_pen" = some (some (.ref f))) (l : K.lookup f = some ⟨oc, od, .func (PySem.W.fnOf "_law_pen" "_law_pen" (defArgs (topS 11)) (defBody (topS 11)) (defScope (topS 11)) .none kV dc pm an cd ct), sl⟩) (c : PySem.W.codeIn K cd "_law_pen" = true) (k : PySem.W.keepIn K (.ref f) = true) :
    DefOk K tab mg ⟨f__law_pen, "_law_pen", f, PySem.W.fnOf "_law_pen" "_law_pen" (defArgs (topS 11)) (defBody (topS 11)) (defScope (topS 11)) .none kV dc pm an cd ct, topS 11, N__law_pen, ["script"], "_law_pen"⟩ :=
  .mk0 (fun_mk l c k) sc__law_pen ck__law_pen rfl rfl (PySem.W.mg_of X G a) ((fun_mk (st := topS 11) l c k).binds (ps := ["script"]) fun _ _ _ _ _ _ us hl => match us, hl with | [_], _ => rfl)
theorem d__law_fresh {f : Addr} {od an : Option Addr} {sl : Array (Option Value)} {oc kV dc pm cd ct : Value} (X : K.In h) (G : h.Ns mainGlobals mg) (a : PySem.W.nsIn K mainGlobals "_law_fresh" = some (some (.ref f))) (l : K.lookup f = some ⟨oc, od, .func (PySem.W.fnOf "_law_fresh" "_law_fresh" (defArgs (topS 12)) (defBody (topS 12)) (defScope (topS 12)) .none kV dc pm an cd ct), sl⟩) (c : PySem.W.codeIn K cd "_law_fresh" = true) (k : PySem.W.keepIn K (.ref f) = true) :
    DefOk K tab mg ⟨f__law_fresh, "_law_fresh", f, PySem.W.fnOf "_law_fresh" "_law_fresh" (defArgs (topS 12)) (defBody (topS 12)) (defScope (topS 12)) .none kV dc pm an cd ct, topS 12, N__law_fresh, ["pen"], "_law_fresh"⟩ :=
  .mk0 (fun_mk l c k) sc__law_fresh ck__law_fresh rfl rfl (PySem.W.mg_of X G a) ((fun_mk (st := topS 12) l c k).binds (ps := ["pen"]) fun _ _ _ _ _ _ us hl => match us, hl with | [_], _ => rfl)
theorem d__law_draw {f : Addr} {od an : Option Addr} {sl : Array (Option Value)} {oc kV dc pm cd ct : Value} (X : K.In h) (G : h.Ns mainGlobals mg) (a : PySem.W.nsIn K mainGlobals "_law_draw" = some (some (.ref f))) (l : K.lookup f = some ⟨oc, od, .func (PySem.W.fnOf "_law_draw" "_law_draw" (defArgs (topS 13)) (defBody (topS 13)) (defScope (topS 13)) .none kV dc pm an cd ct), sl⟩) (c : PySem.W.codeIn K cd "_law_draw" = true) (k : PySem.W.keepIn K (.ref f) = true) :
    DefOk K tab mg ⟨f__law_draw, "_law_draw", f, PySem.W.fnOf "_law_draw" "_law_draw" (defArgs (topS 13)) (defBody (topS 13)) (defScope (topS 13)) .none kV dc pm an cd ct, topS 13, N__law_draw, ["pen", "bound"], "_law_draw"⟩ :=
  .mk0 (fun_mk l c k) sc__law_draw ck__law_draw rfl rfl (PySem.W.mg_of X G a) ((fun_mk (st := topS 13) l c k).binds (ps := ["pen", "bound"]) fun _ _ _ _ _ _ us hl => match us, hl with | [_, _], _ => rfl)
theorem d__law_one_of {f : Addr} {od an : Option Addr} {sl : Array (Option Value)} {oc kV dc pm cd ct : Value} (X : K.In h) (G : h.Ns mainGlobals mg) (a : PySem.W.nsIn K mainGlobals "_law_one_of" = some (some (.ref f))) (l : K.lookup f = some ⟨oc, od, .func (PySem.W.fnOf "_law_one_of" "_law_one_of" (defArgs (topS 14)) (defBody (topS 14)) (defScope (topS 14)) .none kV dc pm an cd ct), sl⟩) (c : PySem.W.codeIn K cd "_law_one_of" = true) (k : PySem.W.keepIn K (.ref f) = true) :
    DefOk K tab mg ⟨f__law_one_of, "_law_one_of", f, PySem.W.fnOf "_law_one_of" "_law_one_of" (defArgs (topS 14)) (defBody (topS 14)) (defScope (topS 14)) .none kV dc pm an cd ct, topS 14, N__law_one_of, ["pen", "rows"], "_law_one_of"⟩ :=
  .mk0 (fun_mk l c k) sc__law_one_of ck__law_one_of rfl rfl (PySem.W.mg_of X G a) ((fun_mk (st := topS 14) l c k).binds (ps := ["pen", "rows"]) fun _ _ _ _ _ _ us hl => match us, hl with | [_, _], _ => rfl)
theorem d__law_piece {f : Addr} {od an : Option Addr} {sl : Array (Option Value)} {oc kV dc pm cd ct : Value} (X : K.In h) (G : h.Ns mainGlobals mg) (a : PySem.W.nsIn K mainGlobals "_law_piece" = some (some (.ref f))) (l : K.lookup f = some ⟨oc, od, .func (PySem.W.fnOf "_law_piece" "_law_piece" (defArgs (topS 15)) (defBody (topS 15)) (defScope (topS 15)) .none kV dc pm an cd ct), sl⟩) (c : PySem.W.codeIn K cd "_law_piece" = true) (k : PySem.W.keepIn K (.ref f) = true) :
    DefOk K tab mg ⟨f__law_piece, "_law_piece", f, PySem.W.fnOf "_law_piece" "_law_piece" (defArgs (topS 15)) (defBody (topS 15)) (defScope (topS 15)) .none kV dc pm an cd ct, topS 15, N__law_piece, ["pen", "most"], "_law_piece"⟩ :=
  .mk0 (fun_mk l c k) sc__law_piece ck__law_piece rfl rfl (PySem.W.mg_of X G a) ((fun_mk (st := topS 15) l c k).binds (ps := ["pen", "most"]) fun _ _ _ _ _ _ us hl => match us, hl with | [_, _], _ => rfl)
theorem d__law_normal {f : Addr} {od an : Option Addr} {sl : Array (Option Value)} {oc kV dc pm cd ct : Value} (X : K.In h) (G : h.Ns mainGlobals mg) (a : PySem.W.nsIn K mainGlobals "_law_normal" = some (some (.ref f))) (l : K.lookup f = some ⟨oc, od, .func (PySem.W.fnOf "_law_normal" "_law_normal" (defArgs (topS 16)) (defBody (topS 16)) (defScope (topS 16)) .none kV dc pm an cd ct), sl⟩) (c : PySem.W.codeIn K cd "_law_normal" = true) (k : PySem.W.keepIn K (.ref f) = true) :
    DefOk K tab mg ⟨f__law_normal, "_law_normal", f, PySem.W.fnOf "_law_normal" "_law_normal" (defArgs (topS 16)) (defBody (topS 16)) (defScope (topS 16)) .none kV dc pm an cd ct, topS 16, N__law_normal, ["parts"], "_law_normal"⟩ :=
  .mk0 (fun_mk l c k) sc__law_normal ck__law_normal rfl rfl (PySem.W.mg_of X G a) ((fun_mk (st := topS 16) l c k).binds (ps := ["parts"]) fun _ _ _ _ _ _ us hl => match us, hl with | [_], _ => rfl)
theorem d__law_fill {f : Addr} {od an : Option Addr} {sl : Array (Option Value)} {oc kV dc pm cd ct : Value} (X : K.In h) (G : h.Ns mainGlobals mg) (a : PySem.W.nsIn K mainGlobals "_law_fill" = some (some (.ref f))) (l : K.lookup f = some ⟨oc, od, .func (PySem.W.fnOf "_law_fill" "_law_fill" (defArgs (topS 17)) (defBody (topS 17)) (defScope (topS 17)) .none kV dc pm an cd ct), sl⟩) (c : PySem.W.codeIn K cd "_law_fill" = true) (k : PySem.W.keepIn K (.ref f) = true) :
    DefOk K tab mg ⟨f__law_fill, "_law_fill", f, PySem.W.fnOf "_law_fill" "_law_fill" (defArgs (topS 17)) (defBody (topS 17)) (defScope (topS 17)) .none kV dc pm an cd ct, topS 17, N__law_fill, ["pen", "left", "own"], "_law_fill"⟩ :=
  .mk0 (fun_mk l c k) sc__law_fill ck__law_fill rfl rfl (PySem.W.mg_of X G a) ((fun_mk (st := topS 17) l c k).binds (ps := ["pen", "left", "own"]) fun _ _ _ _ _ _ us hl => match us, hl with | [_, _, _], _ => rfl)
theorem d__law_fills {f : Addr} {od an : Option Addr} {sl : Array (Option Value)} {oc kV dc pm cd ct : Value} (X : K.In h) (G : h.Ns mainGlobals mg) (a : PySem.W.nsIn K mainGlobals "_law_fills" = some (some (.ref f))) (l : K.lookup f = some ⟨oc, od, .func (PySem.W.fnOf "_law_fills" "_law_fills" (defArgs (topS 18)) (defBody (topS 18)) (defScope (topS 18)) .none kV dc pm an cd ct), sl⟩) (c : PySem.W.codeIn K cd "_law_fills" = true) (k : PySem.W.keepIn K (.ref f) = true) :
    DefOk K tab mg ⟨f__law_fills, "_law_fills", f, PySem.W.fnOf "_law_fills" "_law_fills" (defArgs (topS 18)) (defBody (topS 18)) (defScope (topS 18)) .none kV dc pm an cd ct, topS 18, N__law_fills, ["pen", "buffers"], "_law_fills"⟩ :=
  .mk0 (fun_mk l c k) sc__law_fills ck__law_fills rfl rfl (PySem.W.mg_of X G a) ((fun_mk (st := topS 18) l c k).binds (ps := ["pen", "buffers"]) fun _ _ _ _ _ _ us hl => match us, hl with | [_, _], _ => rfl)
theorem d__law_end {f : Addr} {od an : Option Addr} {sl : Array (Option Value)} {oc kV dc pm cd ct : Value} (X : K.In h) (G : h.Ns mainGlobals mg) (a : PySem.W.nsIn K mainGlobals "_law_end" = some (some (.ref f))) (l : K.lookup f = some ⟨oc, od, .func (PySem.W.fnOf "_law_end" "_law_end" (defArgs (topS 19)) (defBody (topS 19)) (defScope (topS 19)) .none kV dc pm an cd ct), sl⟩) (c : PySem.W.codeIn K cd "_law_end" = true) (k : PySem.W.keepIn K (.ref f) = true) :
    DefOk K tab mg ⟨f__law_end, "_law_end", f, PySem.W.fnOf "_law_end" "_law_end" (defArgs (topS 19)) (defBody (topS 19)) (defScope (topS 19)) .none kV dc pm an cd ct, topS 19, N__law_end, ["pen", "buffers"], "_law_end"⟩ :=
  .mk0 (fun_mk l c k) sc__law_end ck__law_end rfl rfl (PySem.W.mg_of X G a) ((fun_mk (st := topS 19) l c k).binds (ps := ["pen", "buffers"]) fun _ _ _ _ _ _ us hl => match us, hl with | [_, _], _ => rfl)
theorem d__law_writer {f : Addr} {od an : Option Addr} {sl : Array (Option Value)} {oc kV dc pm cd ct : Value} (X : K.In h) (G : h.Ns mainGlobals mg) (a : PySem.W.nsIn K mainGlobals "_law_writer" = some (some (.ref f))) (l : K.lookup f = some ⟨oc, od, .func (PySem.W.fnOf "_law_writer" "_law_writer" (defArgs (topS 20)) (defBody (topS 20)) (defScope (topS 20)) .none kV dc pm an cd ct), sl⟩) (c : PySem.W.codeIn K cd "_law_writer" = true) (k : PySem.W.keepIn K (.ref f) = true) :
    DefOk K tab mg ⟨f__law_writer, "_law_writer", f, PySem.W.fnOf "_law_writer" "_law_writer" (defArgs (topS 20)) (defBody (topS 20)) (defScope (topS 20)) .none kV dc pm an cd ct, topS 20, N__law_writer, ["pen", "count", "states", "buffers"], "_law_writer"⟩ :=
  .mk0 (fun_mk l c k) sc__law_writer ck__law_writer rfl rfl (PySem.W.mg_of X G a) ((fun_mk (st := topS 20) l c k).binds (ps := ["pen", "count", "states", "buffers"]) fun _ _ _ _ _ _ us hl => match us, hl with | [_, _, _, _], _ => rfl)
theorem d__law_at {f : Addr} {od an : Option Addr} {sl : Array (Option Value)} {oc kV dc pm cd ct : Value} (X : K.In h) (G : h.Ns mainGlobals mg) (a : PySem.W.nsIn K mainGlobals "_law_at" = some (some (.ref f))) (l : K.lookup f = some ⟨oc, od, .func (PySem.W.fnOf "_law_at" "_law_at" (defArgs (topS 21)) (defBody (topS 21)) (defScope (topS 21)) .none kV dc pm an cd ct), sl⟩) (c : PySem.W.codeIn K cd "_law_at" = true) (k : PySem.W.keepIn K (.ref f) = true) :
    DefOk K tab mg ⟨f__law_at, "_law_at", f, PySem.W.fnOf "_law_at" "_law_at" (defArgs (topS 21)) (defBody (topS 21)) (defScope (topS 21)) .none kV dc pm an cd ct, topS 21, N__law_at, ["rows", "place", "thing"], "_law_at"⟩ :=
  .mk0 (fun_mk l c k) sc__law_at ck__law_at rfl rfl (PySem.W.mg_of X G a) ((fun_mk (st := topS 21) l c k).binds (ps := ["rows", "place", "thing"]) fun _ _ _ _ _ _ us hl => match us, hl with | [_, _, _], _ => rfl)
theorem d__law_letters {f : Addr} {od an : Option Addr} {sl : Array (Option Value)} {oc kV dc pm cd ct : Value} (X : K.In h) (G : h.Ns mainGlobals mg) (a : PySem.W.nsIn K mainGlobals "_law_letters" = some (some (.ref f))) (l : K.lookup f = some ⟨oc, od, .func (PySem.W.fnOf "_law_letters" "_law_letters" (defArgs (topS 22)) (defBody (topS 22)) (defScope (topS 22)) .none kV dc pm an cd ct), sl⟩) (c : PySem.W.codeIn K cd "_law_letters" = true) (k : PySem.W.keepIn K (.ref f) = true) :
    DefOk K tab mg ⟨f__law_letters, "_law_letters", f, PySem.W.fnOf "_law_letters" "_law_letters" (defArgs (topS 22)) (defBody (topS 22)) (defScope (topS 22)) .none kV dc pm an cd ct, topS 22, N__law_letters, ["rows"], "_law_letters"⟩ :=
  .mk0 (fun_mk l c k) sc__law_letters ck__law_letters rfl rfl (PySem.W.mg_of X G a) ((fun_mk (st := topS 22) l c k).binds (ps := ["rows"]) fun _ _ _ _ _ _ us hl => match us, hl with | [_], _ => rfl)
theorem d__law_sized {f : Addr} {od an : Option Addr} {sl : Array (Option Value)} {oc kV dc pm cd ct : Value} (X : K.In h) (G : h.Ns mainGlobals mg) (a : PySem.W.nsIn K mainGlobals "_law_sized" = some (some (.ref f))) (l : K.lookup f = some ⟨oc, od, .func (PySem.W.fnOf "_law_sized" "_law_sized" (defArgs (topS 23)) (defBody (topS 23)) (defScope (topS 23)) .none kV dc pm an cd ct), sl⟩) (c : PySem.W.codeIn K cd "_law_sized" = true) (k : PySem.W.keepIn K (.ref f) = true) :
    DefOk K tab mg ⟨f__law_sized, "_law_sized", f, PySem.W.fnOf "_law_sized" "_law_sized" (defArgs (topS 23)) (defBody (topS 23)) (defScope (topS 23)) .none kV dc pm an cd ct, topS 23, N__law_sized, ["pen"], "_law_sized"⟩ :=
  .mk0 (fun_mk l c k) sc__law_sized ck__law_sized rfl rfl (PySem.W.mg_of X G a) ((fun_mk (st := topS 23) l c k).binds (ps := ["pen"]) fun _ _ _ _ _ _ us hl => match us, hl with | [_], _ => rfl)
theorem d__law_small {f : Addr} {od an : Option Addr} {sl : Array (Option Value)} {oc kV dc pm cd ct : Value} (X : K.In h) (G : h.Ns mainGlobals mg) (a : PySem.W.nsIn K mainGlobals "_law_small" = some (some (.ref f))) (l : K.lookup f = some ⟨oc, od, .func (PySem.W.fnOf "_law_small" "_law_small" (defArgs (topS 24)) (defBody (topS 24)) (defScope (topS 24)) .none kV dc pm an cd ct), sl⟩) (c : PySem.W.codeIn K cd "_law_small" = true) (k : PySem.W.keepIn K (.ref f) = true) :
    DefOk K tab mg ⟨f__law_small, "_law_small", f, PySem.W.fnOf "_law_small" "_law_small" (defArgs (topS 24)) (defBody (topS 24)) (defScope (topS 24)) .none kV dc pm an cd ct, topS 24, N__law_small, ["writer"], "_law_small"⟩ :=
  .mk0 (fun_mk l c k) sc__law_small ck__law_small rfl rfl (PySem.W.mg_of X G a) ((fun_mk (st := topS 24) l c k).binds (ps := ["writer"]) fun _ _ _ _ _ _ us hl => match us, hl with | [_], _ => rfl)
theorem d_law {f : Addr} {od an : Option Addr} {sl : Array (Option Value)} {oc kV dc pm cd ct : Value} (X : K.In h) (G : h.Ns mainGlobals mg) (a : PySem.W.nsIn K mainGlobals "law" = some (some (.ref f))) (l : K.lookup f = some ⟨oc, od, .func (PySem.W.fnOf "law" "law" (defArgs (topS 25)) (defBody (topS 25)) (defScope (topS 25)) .none kV dc pm an cd ct), sl⟩) (c : PySem.W.codeIn K cd "law" = true) (k : PySem.W.keepIn K (.ref f) = true) :
    DefOk K tab mg ⟨f_law, "law", f, PySem.W.fnOf "law" "law" (defArgs (topS 25)) (defBody (topS 25)) (defScope (topS 25)) .none kV dc pm an cd ct, topS 25, N_law, ["script"], "law"⟩ :=
  .mk0 (fun_mk l c k) sc_law ck_law rfl rfl (PySem.W.mg_of X G a) ((fun_mk (st := topS 25) l c k).binds (ps := ["script"]) fun _ _ _ _ _ _ us hl => match us, hl with | [_], _ => rfl)
theorem all_mk {fa : Addr} (htr : l.prog.given.tree = none) (X : K.In h) (G : h.Ns mainGlobals mg) (hfa : mg "law" = some (.ref fa))
    {f0 : Addr} {od0 an0 : Option Addr} {sl0 : Array (Option Value)} {oc0 kV0 dc0 pm0 cd0 ct0 : Value} (a0 : PySem.W.nsIn K mainGlobals "pieces_of" = some (some (.ref f0))) (l0 : K.lookup f0 = some ⟨oc0, od0, .func (PySem.W.fnOf "pieces_of" "pieces_of" (defArgs (topS 5)) (defBody (topS 5)) (defScope (topS 5)) .none kV0 dc0 pm0 an0 cd0 ct0), sl0⟩) (c0 : PySem.W.codeIn K cd0 "pieces_of" = true) (k0 : PySem.W.keepIn K (.ref f0) = true)
    {f1 : Addr} {od1 an1 : Option Addr} {sl1 : Array (Option Value)} {oc1 kV1 dc1 pm1 cd1 ct1 : Value} (a1 : PySem.W.nsIn K mainGlobals "letters_in" = some (some (.ref f1))) (l1 : K.lookup f1 = some ⟨oc1, od1, .func (PySem.W.fnOf "letters_in" "letters_in" (defArgs (topS 6)) (defBody (topS 6)) (defScope (topS 6)) .none kV1 dc1 pm1 an1 cd1 ct1), sl1⟩) (c1 : PySem.W.codeIn K cd1 "letters_in" = true) (k1 : PySem.W.keepIn K (.ref f1) = true)
    {f2 : Addr} {od2 an2 : Option Addr} {sl2 : Array (Option Value)} {oc2 kV2 dc2 pm2 cd2 ct2 : Value} (a2 : PySem.W.nsIn K mainGlobals "kinds_of" = some (some (.ref f2))) (l2 : K.lookup f2 = some ⟨oc2, od2, .func (PySem.W.fnOf "kinds_of" "kinds_of" (defArgs (topS 7)) (defBody (topS 7)) (defScope (topS 7)) .none kV2 dc2 pm2 an2 cd2 ct2), sl2⟩) (c2 : PySem.W.codeIn K cd2 "kinds_of" = true) (k2 : PySem.W.keepIn K (.ref f2) = true)
    {f3 : Addr} {od3 an3 : Option Addr} {sl3 : Array (Option Value)} {oc3 kV3 dc3 pm3 cd3 ct3 : Value} (a3 : PySem.W.nsIn K mainGlobals "is_small" = some (some (.ref f3))) (l3 : K.lookup f3 = some ⟨oc3, od3, .func (PySem.W.fnOf "is_small" "is_small" (defArgs (topS 8)) (defBody (topS 8)) (defScope (topS 8)) .none kV3 dc3 pm3 an3 cd3 ct3), sl3⟩) (c3 : PySem.W.codeIn K cd3 "is_small" = true) (k3 : PySem.W.keepIn K (.ref f3) = true)
    {f4 : Addr} {od4 an4 : Option Addr} {sl4 : Array (Option Value)} {oc4 kV4 dc4 pm4 cd4 ct4 : Value} (a4 : PySem.W.nsIn K mainGlobals "joined" = some (some (.ref f4))) (l4 : K.lookup f4 = some ⟨oc4, od4, .func (PySem.W.fnOf "joined" "joined" (defArgs (topS 9)) (defBody (topS 9)) (defScope (topS 9)) .none kV4 dc4 pm4 an4 cd4 ct4), sl4⟩) (c4 : PySem.W.codeIn K cd4 "joined" = true) (k4 : PySem.W.keepIn K (.ref f4) = true)
    {f5 : Addr} {od5 an5 : Option Addr} {sl5 : Array (Option Value)} {oc5 kV5 dc5 pm5 cd5 ct5 : Value} (a5 : PySem.W.nsIn K mainGlobals "_law_pen" = some (some (.ref f5))) (l5 : K.lookup f5 = some ⟨oc5, od5, .func (PySem.W.fnOf "_law_pen" "_law_pen" (defArgs (topS 11)) (defBody (topS 11)) (defScope (topS 11)) .none kV5 dc5 pm5 an5 cd5 ct5), sl5⟩) (c5 : PySem.W.codeIn K cd5 "_law_pen" = true) (k5 : PySem.W.keepIn K (.ref f5) = true)
    {f6 : Addr} {od6 an6 : Option Addr} {sl6 : Array (Option Value)} {oc6 kV6 dc6 pm6 cd6 ct6 : Value} (a6 : PySem.W.nsIn K mainGlobals "_law_fresh" = some (some (.ref f6))) (l6 : K.lookup f6 = some ⟨oc6, od6, .func (PySem.W.fnOf "_law_fresh" "_law_fresh" (defArgs (topS 12)) (defBody (topS 12)) (defScope (topS 12)) .none kV6 dc6 pm6 an6 cd6 ct6), sl6⟩) (c6 : PySem.W.codeIn K cd6 "_law_fresh" = true) (k6 : PySem.W.keepIn K (.ref f6) = true)
    {f7 : Addr} {od7 an7 : Option Addr} {sl7 : Array (Option Value)} {oc7 kV7 dc7 pm7 cd7 ct7 : Value} (a7 : PySem.W.nsIn K mainGlobals "_law_draw" = some (some (.ref f7))) (l7 : K.lookup f7 = some ⟨oc7, od7, .func (PySem.W.fnOf "_law_draw" "_law_draw" (defArgs (topS 13)) (defBody (topS 13)) (defScope (topS 13)) .none kV7 dc7 pm7 an7 cd7 ct7), sl7⟩) (c7 : PySem.W.codeIn K cd7 "_law_draw" = true) (k7 : PySem.W.keepIn K (.ref f7) = true)
    {f8 : Addr} {od8 an8 : Option Addr} {sl8 : Array (Option Value)} {oc8 kV8 dc8 pm8 cd8 ct8 : Value} (a8 : PySem.W.nsIn K mainGlobals "_law_one_of" = some (some (.ref f8))) (l8 : K.lookup f8 = some ⟨oc8, od8, .func (PySem.W.fnOf "_law_one_of" "_law_one_of" (defArgs (topS 14)) (defBody (topS 14)) (defScope (topS 14)) .none kV8 dc8 pm8 an8 cd8 ct8), sl8⟩) (c8 : PySem.W.codeIn K cd8 "_law_one_of" = true) (k8 : PySem.W.keepIn K (.ref f8) = true)
    {f9 : Addr} {od9 an9 : Option Addr} {sl9 : Array (Option Value)} {oc9 kV9 dc9 pm9 cd9 ct9 : Value} (a9 : PySem.W.nsIn K mainGlobals "_law_piece" = some (some (.ref f9))) (l9 : K.lookup f9 = some ⟨oc9, od9, .func (PySem.W.fnOf "_law_piece" "_law_piece" (defArgs (topS 15)) (defBody (topS 15)) (defScope (topS 15)) .none kV9 dc9 pm9 an9 cd9 ct9), sl9⟩) (c9 : PySem.W.codeIn K cd9 "_law_piece" = true) (k9 : PySem.W.keepIn K (.ref f9) = true)
    {f10 : Addr} {od10 an10 : Option Addr} {sl10 : Array (Option Value)} {oc10 kV10 dc10 pm10 cd10 ct10 : Value} (a10 : PySem.W.nsIn K mainGlobals "_law_normal" = some (some (.ref f10))) (l10 : K.lookup f10 = some ⟨oc10, od10, .func (PySem.W.fnOf "_law_normal" "_law_normal" (defArgs (topS 16)) (defBody (topS 16)) (defScope (topS 16)) .none kV10 dc10 pm10 an10 cd10 ct10), sl10⟩) (c10 : PySem.W.codeIn K cd10 "_law_normal" = true) (k10 : PySem.W.keepIn K (.ref f10) = true)
    {f11 : Addr} {od11 an11 : Option Addr} {sl11 : Array (Option Value)} {oc11 kV11 dc11 pm11 cd11 ct11 : Value} (a11 : PySem.W.nsIn K mainGlobals "_law_fill" = some (some (.ref f11))) (l11 : K.lookup f11 = some ⟨oc11, od11, .func (PySem.W.fnOf "_law_fill" "_law_fill" (defArgs (topS 17)) (defBody (topS 17)) (defScope (topS 17)) .none kV11 dc11 pm11 an11 cd11 ct11), sl11⟩) (c11 : PySem.W.codeIn K cd11 "_law_fill" = true) (k11 : PySem.W.keepIn K (.ref f11) = true)
    {f12 : Addr} {od12 an12 : Option Addr} {sl12 : Array (Option Value)} {oc12 kV12 dc12 pm12 cd12 ct12 : Value} (a12 : PySem.W.nsIn K mainGlobals "_law_fills" = some (some (.ref f12))) (l12 : K.lookup f12 = some ⟨oc12, od12, .func (PySem.W.fnOf "_law_fills" "_law_fills" (defArgs (topS 18)) (defBody (topS 18)) (defScope (topS 18)) .none kV12 dc12 pm12 an12 cd12 ct12), sl12⟩) (c12 : PySem.W.codeIn K cd12 "_law_fills" = true) (k12 : PySem.W.keepIn K (.ref f12) = true)
    {f13 : Addr} {od13 an13 : Option Addr} {sl13 : Array (Option Value)} {oc13 kV13 dc13 pm13 cd13 ct13 : Value} (a13 : PySem.W.nsIn K mainGlobals "_law_end" = some (some (.ref f13))) (l13 : K.lookup f13 = some ⟨oc13, od13, .func (PySem.W.fnOf "_law_end" "_law_end" (defArgs (topS 19)) (defBody (topS 19)) (defScope (topS 19)) .none kV13 dc13 pm13 an13 cd13 ct13), sl13⟩) (c13 : PySem.W.codeIn K cd13 "_law_end" = true) (k13 : PySem.W.keepIn K (.ref f13) = true)
    {f14 : Addr} {od14 an14 : Option Addr} {sl14 : Array (Option Value)} {oc14 kV14 dc14 pm14 cd14 ct14 : Value} (a14 : PySem.W.nsIn K mainGlobals "_law_writer" = some (some (.ref f14))) (l14 : K.lookup f14 = some ⟨oc14, od14, .func (PySem.W.fnOf "_law_writer" "_law_writer" (defArgs (topS 20)) (defBody (topS 20)) (defScope (topS 20)) .none kV14 dc14 pm14 an14 cd14 ct14), sl14⟩) (c14 : PySem.W.codeIn K cd14 "_law_writer" = true) (k14 : PySem.W.keepIn K (.ref f14) = true)
    {f15 : Addr} {od15 an15 : Option Addr} {sl15 : Array (Option Value)} {oc15 kV15 dc15 pm15 cd15 ct15 : Value} (a15 : PySem.W.nsIn K mainGlobals "_law_at" = some (some (.ref f15))) (l15 : K.lookup f15 = some ⟨oc15, od15, .func (PySem.W.fnOf "_law_at" "_law_at" (defArgs (topS 21)) (defBody (topS 21)) (defScope (topS 21)) .none kV15 dc15 pm15 an15 cd15 ct15), sl15⟩) (c15 : PySem.W.codeIn K cd15 "_law_at" = true) (k15 : PySem.W.keepIn K (.ref f15) = true)
    {f16 : Addr} {od16 an16 : Option Addr} {sl16 : Array (Option Value)} {oc16 kV16 dc16 pm16 cd16 ct16 : Value} (a16 : PySem.W.nsIn K mainGlobals "_law_letters" = some (some (.ref f16))) (l16 : K.lookup f16 = some ⟨oc16, od16, .func (PySem.W.fnOf "_law_letters" "_law_letters" (defArgs (topS 22)) (defBody (topS 22)) (defScope (topS 22)) .none kV16 dc16 pm16 an16 cd16 ct16), sl16⟩) (c16 : PySem.W.codeIn K cd16 "_law_letters" = true) (k16 : PySem.W.keepIn K (.ref f16) = true)
    {f17 : Addr} {od17 an17 : Option Addr} {sl17 : Array (Option Value)} {oc17 kV17 dc17 pm17 cd17 ct17 : Value} (a17 : PySem.W.nsIn K mainGlobals "_law_sized" = some (some (.ref f17))) (l17 : K.lookup f17 = some ⟨oc17, od17, .func (PySem.W.fnOf "_law_sized" "_law_sized" (defArgs (topS 23)) (defBody (topS 23)) (defScope (topS 23)) .none kV17 dc17 pm17 an17 cd17 ct17), sl17⟩) (c17 : PySem.W.codeIn K cd17 "_law_sized" = true) (k17 : PySem.W.keepIn K (.ref f17) = true)
    {f18 : Addr} {od18 an18 : Option Addr} {sl18 : Array (Option Value)} {oc18 kV18 dc18 pm18 cd18 ct18 : Value} (a18 : PySem.W.nsIn K mainGlobals "_law_small" = some (some (.ref f18))) (l18 : K.lookup f18 = some ⟨oc18, od18, .func (PySem.W.fnOf "_law_small" "_law_small" (defArgs (topS 24)) (defBody (topS 24)) (defScope (topS 24)) .none kV18 dc18 pm18 an18 cd18 ct18), sl18⟩) (c18 : PySem.W.codeIn K cd18 "_law_small" = true) (k18 : PySem.W.keepIn K (.ref f18) = true)
    {f19 : Addr} {od19 an19 : Option Addr} {sl19 : Array (Option Value)} {oc19 kV19 dc19 pm19 cd19 ct19 : Value} (a19 : PySem.W.nsIn K mainGlobals "law" = some (some (.ref f19))) (l19 : K.lookup f19 = some ⟨oc19, od19, .func (PySem.W.fnOf "law" "law" (defArgs (topS 25)) (defBody (topS 25)) (defScope (topS 25)) .none kV19 dc19 pm19 an19 cd19 ct19), sl19⟩) (c19 : PySem.W.codeIn K cd19 "law" = true) (k19 : PySem.W.keepIn K (.ref f19) = true)
    {c0_t0 : Tok} {c1_t0 : Tok} {c2_t0 : Tok} {c3_t0 : Tok}
    (c0_g : PySem.W.nsIn K mainGlobals "SMALL_BUFFERS" = some (some (.int (2) c0_t0)))
    (c1_g : PySem.W.nsIn K mainGlobals "SMALL_KINDS" = some (some (.int (3) c1_t0)))
    (c2_g : PySem.W.nsIn K mainGlobals "SMALL_LETTERS" = some (some (.int (24) c2_t0)))
    (c3_g : PySem.W.nsIn K mainGlobals "SMALL_STATES" = some (some (.int (4) c3_t0)))
    (z0 : PySem.W.nsIn K mainGlobals "any" = some none)
    (z1 : PySem.W.nsIn K mainGlobals "int" = some none)
    (z2 : PySem.W.nsIn K mainGlobals "isinstance" = some none)
    (z3 : PySem.W.nsIn K mainGlobals "len" = some none)
    (z4 : PySem.W.nsIn K mainGlobals "list" = some none)
    (z5 : PySem.W.nsIn K mainGlobals "max" = some none)
    (z6 : PySem.W.nsIn K mainGlobals "range" = some none)
    (z7 : PySem.W.nsIn K mainGlobals "repr" = some none)
    (z8 : PySem.W.nsIn K mainGlobals "str" = some none)
    (z9 : PySem.W.nsIn K mainGlobals "sum" = some none)
    (z10 : PySem.W.nsIn K mainGlobals "tuple" = some none)
    : ∃ fd : FuncData, (∀ (s : Shared) (v : Value), BindsTo s fd ⟨[v], []⟩ [("script", v)]) ∧ ∀ base : Heap, K.In base → base.Ns mainGlobals mg → base.NoSeer → FnG l.prog w K mg base 16 fa fd ["script"] LG := by
  have e := hfa.symm.trans (PySem.W.mg_of X G a19)
  cases e
  have tx : TextOk K tab mg _ := text_ok (ks := keys) (kws := kwds) (d2 := twos) (sts := stars) rfl (fc (.inl (d_pieces_of X G a0 l0 c0 k0)) (fc (.inl (d_letters_in X G a1 l1 c1 k1)) (fc (.inl (d_kinds_of X G a2 l2 c2 k2)) (fc (.inl (d_is_small X G a3 l3 c3 k3)) (fc (d_joined X G a4 l4 c4 k4).1 (fc (.inl (d__law_pen X G a5 l5 c5 k5)) (fc (.inl (d__law_fresh X G a6 l6 c6 k6)) (fc (.inl (d__law_draw X G a7 l7 c7 k7)) (fc (.inl (d__law_one_of X G a8 l8 c8 k8)) (fc (.inl (d__law_piece X G a9 l9 c9 k9)) (fc (.inl (d__law_normal X G a10 l10 c10 k10)) (fc (.inl (d__law_fill X G a11 l11 c11 k11)) (fc (.inl (d__law_fills X G a12 l12 c12 k12)) (fc (.inl (d__law_end X G a13 l13 c13 k13)) (fc (.inl (d__law_writer X G a14 l14 c14 k14)) (fc (.inl (d__law_at X G a15 l15 c15 k15)) (fc (.inl (d__law_letters X G a16 l16 c16 k16)) (fc (.inl (d__law_sized X G a17 l17 c17 k17)) (fc (.inl (d__law_small X G a18 l18 c18 k18)) (fc (.inl (d_law X G a19 l19 c19 k19)) fn0)))))))))))))))))))) (fc (KRep.cst (p := g_SMALL_BUFFERS) (show KRep K (.int (2) c0_t0) _ g_SMALL_BUFFERS from (.int _ _)) (PySem.W.mg_of X G c0_g)) (fc (KRep.cst (p := g_SMALL_KINDS) (show KRep K (.int (3) c1_t0) _ g_SMALL_KINDS from (.int _ _)) (PySem.W.mg_of X G c1_g)) (fc (KRep.cst (p := g_SMALL_LETTERS) (show KRep K (.int (24) c2_t0) _ g_SMALL_LETTERS from (.int _ _)) (PySem.W.mg_of X G c2_g)) (fc (KRep.cst (p := g_SMALL_STATES) (show KRep K (.int (4) c3_t0) _ g_SMALL_STATES from (.int _ _)) (PySem.W.mg_of X G c3_g)) fn0)))) (fc (PySem.W.mg_none_of X G z0) (fc (PySem.W.mg_none_of X G z1) (fc (PySem.W.mg_none_of X G z2) (fc (PySem.W.mg_none_of X G z3) (fc (PySem.W.mg_none_of X G z4) (fc (PySem.W.mg_none_of X G z5) (fc (PySem.W.mg_none_of X G z6) (fc (PySem.W.mg_none_of X G z7) (fc (PySem.W.mg_none_of X G z8) (fc (PySem.W.mg_none_of X G z9) (fc (PySem.W.mg_none_of X G z10) fn0))))))))))) (PySem.W.mg_none_of X G z2) fn0 fn0 fn0 (fc ⟨_, rfl, (d_joined X G a4 l4 c4 k4).2⟩ fn0)
  exact ⟨_, fun s v => .of_eq rfl, fun base _ _ hse => all_fnG (W := 5000) hse htr tx 16 19 _ rfl ⟨.ofFun (fun_mk l19 c19 k19), sc_law, ck_law, rfl, rfl⟩⟩
end
end L_k02


set_option Elab.async false
set_option linter.all false
set_option maxRecDepth 100000
set_option maxHeartbeats 4000000
set_option autoImplicit false
namespace L_k02
open Dp
abbrev ix : Ix := ⟨6, 7, 8, 9, 10, 11, 12, 13, 14, 0⟩
theorem hasE : HasE PD ix := ⟨⟨⟨rfl, rfl, rfl⟩, rfl, rfl, rfl, rfl⟩, rfl, rfl⟩
theorem hLaw : PD 19 = some (Gf_law 5 17 7 3 18 10 4 9) := rfl
theorem hPen : PD 5 = some Gf_L_pen := rfl
variable {d p c : Nat} {s : Sto}
theorem law_ok {ns : List Int} (hq : s.lstAt 0 = some (ns.map PV.int)) (hs : 0 < s.nxt) (hl : ns.length ≤ 63) : Ok (run PD 5000 (d + 10) 19 [.loc 0] s) fun v s' => v = .bl true := by
  refine ok_run hLaw rfl fun b hb => ?_
  simp_arith only [hb, Glaw]
  refine (pen_ok hPen hq hs hl).mono ?_
  rintro v s1 ⟨p, c, rfl, hp1, f1⟩
  try simp_arith only [ok_ok]
  rw [x_rngN (by decide) (by decide)]
  refine ok_for (I := fun i r s' => PenS s' p c ∧ ∃ e2 e3 e4 e5 e6 e7 e8 e9 e10 e11 e12, r = [some (.loc 0), some (.loc p), e2, e3, e4, e5, e6, e7, e8, e9, e10, e11, e12]) ?_ ?_ _ 0 _ _ (Nat.zero_le _) (by show _ < 0 + ((upto 0 4).length + 1); exact Nat.lt_of_lt_of_le (Nat.lt_succ_self _) (by simp)) ⟨hp1, _, _, _, _, _, _, _, _, _, _, _, rfl⟩
  · rintro i y r s' hy ⟨hp, e2, e3, e4, e5, e6, e7, e8, e9, e10, e11, e12, rfl⟩
    refine ⟨_, setT_nm, ?_⟩
    try simp_arith only [ok_ok]
    refine (k02_b4 (d := d) (x := ix) (j := 15) (j1 := 2) (j2 := 1) (j3 := 0) (j4 := 16) rfl hasE rfl rfl rfl rfl rfl rfl rfl rfl rfl hp).mono ?_
    rintro o s2 ⟨e3, e4, e5, e6, e7, e8, e9, e10, e11, e12, rfl, hp2⟩
    exact ⟨hp2, _, _, _, _, _, _, _, _, _, _, _, rfl⟩
  · rintro r s' ⟨hp, e2, e3, e4, e5, e6, e7, e8, e9, e10, e11, e12, rfl⟩
    try simp_arith only [ok_ok]
theorem law_holds (ns : List Int) (h1 : ns.length ≤ 63) : ∃ st, LG [.loc 0] (sto0 ns) = .ok (.bl true) st := by
  obtain ⟨v, st, e, rfl⟩ := (law_ok (d := 6) (s := sto0 ns) (ns := ns) rfl (Nat.lt_succ_self 0) h1).get
  exact ⟨st, e⟩
end L_k02


namespace L_k02
open PySem PySem.Spec PyProof.Rows L2 Dp
theorem law_true (ns : List Int) (h1 : ns.length ≤ 63) (h2 : ∀ z ∈ ns, Builtin.Int.intBits z ≤ 1048576) : ∃ st, LG [.loc 0] (sto0 ns) = .ok (.bl true) st := by
  exact law_holds ns h1
end L_k02
open PySem PySem.W PyProof.Rows
set_option maxHeartbeats 0 in
theorem PySem.Challenge.cw_fewtests_k02_small_writers_and_recipes_j_holds : PySem.Challenge.rw_fewtests_k02_small_writers_and_recipes_j.Holds := by
  w_on; o_law; k_head; (case hw => w_witness2)
  k_fill
  refine Dp.walk_ofG (l := PySem.Challenge.rw_fewtests_k02_small_writers_and_recipes_j) (n := 63) (k := 16) (x := "script") (g := L_k02.LG) rfl (by decide) rfl ⟨rfl, by decide, by decide⟩ (by decide +kernel) (fun w h Y => PySem.W.kIn_of Y) ?F (fun ns h1 h2 => L_k02.law_true ns h1 h2)
  case F =>
    intro w mg fa h KX G hmg
    refine' L_k02.all_mk (by first | rfl | decide +kernel) KX G hmg ?a0 ?l0 ?c0 ?k0 ?a1 ?l1 ?c1 ?k1 ?a2 ?l2 ?c2 ?k2 ?a3 ?l3 ?c3 ?k3 ?a4 ?l4 ?c4 ?k4 ?a5 ?l5 ?c5 ?k5 ?a6 ?l6 ?c6 ?k6 ?a7 ?l7 ?c7 ?k7 ?a8 ?l8 ?c8 ?k8 ?a9 ?l9 ?c9 ?k9 ?a10 ?l10 ?c10 ?k10 ?a11 ?l11 ?c11 ?k11 ?a12 ?l12 ?c12 ?k12 ?a13 ?l13 ?c13 ?k13 ?a14 ?l14 ?c14 ?k14 ?a15 ?l15 ?c15 ?k15 ?a16 ?l16 ?c16 ?k16 ?a17 ?l17 ?c17 ?k17 ?a18 ?l18 ?c18 ?k18 ?a19 ?l19 ?c19 ?k19 ?c0_g ?c1_g ?c2_g ?c3_g ?z0 ?z1 ?z2 ?z3 ?z4 ?z5 ?z6 ?z7 ?z8 ?z9 ?z10
    case a0 => k_is
    case l0 => k_is
    case c0 => k_is
    case k0 => k_is
    case a1 => k_is
    case l1 => k_is
    case c1 => k_is
    case k1 => k_is
    case a2 => k_is
    case l2 => k_is
    case c2 => k_is
    case k2 => k_is
    case a3 => k_is
    case l3 => k_is
    case c3 => k_is
    case k3 => k_is
    case a4 => k_is
    case l4 => k_is
    case c4 => k_is
    case k4 => k_is
    case a5 => k_is
    case l5 => k_is
    case c5 => k_is
    case k5 => k_is
    case a6 => k_is
    case l6 => k_is
    case c6 => k_is
    case k6 => k_is
    case a7 => k_is
    case l7 => k_is
    case c7 => k_is
    case k7 => k_is
    case a8 => k_is
    case l8 => k_is
    case c8 => k_is
    case k8 => k_is
    case a9 => k_is
    case l9 => k_is
    case c9 => k_is
    case k9 => k_is
    case a10 => k_is
    case l10 => k_is
    case c10 => k_is
    case k10 => k_is
    case a11 => k_is
    case l11 => k_is
    case c11 => k_is
    case k11 => k_is
    case a12 => k_is
    case l12 => k_is
    case c12 => k_is
    case k12 => k_is
    case a13 => k_is
    case l13 => k_is
    case c13 => k_is
    case k13 => k_is
    case a14 => k_is
    case l14 => k_is
    case c14 => k_is
    case k14 => k_is
    case a15 => k_is
    case l15 => k_is
    case c15 => k_is
    case k15 => k_is
    case a16 => k_is
    case l16 => k_is
    case c16 => k_is
    case k16 => k_is
    case a17 => k_is
    case l17 => k_is
    case c17 => k_is
    case k17 => k_is
    case a18 => k_is
    case l18 => k_is
    case c18 => k_is
    case k18 => k_is
    case a19 => k_is
    case l19 => k_is
    case c19 => k_is
    case k19 => k_is
    case c0_g => k_is
    case c1_g => k_is
    case c2_g => k_is
    case c3_g => k_is
    case z0 => k_is
    case z1 => k_is
    case z2 => k_is
    case z3 => k_is
    case z4 => k_is
    case z5 => k_is
    case z6 => k_is
    case z7 => k_is
    case z8 => k_is
    case z9 => k_is
    case z10 => k_is


