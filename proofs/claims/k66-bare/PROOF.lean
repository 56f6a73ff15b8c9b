import PyProof.Rows.All
import Wide.All
import OpenK.AllK
import Wide.FinOn
import HandS.ForMost
import HandS.ForExc
import HandS.Wide
import HandS.More
import HandS.SortInts
import HandS.Walk
import HandS.IsInst
import HandS.TupAny
import HandS.Style
import KE.BitLaws
import KE.OsArith
import HandS.WideBits
import HandS.Text
import PySem.Challenge.RW_sureplans_k66_bare_trees
set_option Elab.async false
set_option linter.all false
set_option maxRecDepth 100000
namespace VL
open PySem
abbrev D := PyData

/-- how a run ends: stuck (nothing is said), an exception of a numbered class, a value -/
inductive Out (α : Type) where
  | stuck | raise (c : Nat) | ok (a : α)

@[inline] def Out.bind {α β : Type} : Out α → (α → Out β) → Out β
  | .ok a, f => f a
  | .raise c, _ => .raise c
  | .stuck, _ => .stuck
instance : Monad Out := { pure := .ok, bind := Out.bind }
section
variable {α β γ : Type}
@[simp] theorem ok_bind (a : α) (f : α → Out β) : (Out.ok a >>= f) = f a := rfl
@[simp] theorem raise_bind (c : Nat) (f : α → Out β) : ((Out.raise c : Out α) >>= f) = .raise c := rfl
@[simp] theorem stuck_bind (f : α → Out β) : ((Out.stuck : Out α) >>= f) = .stuck := rfl
@[simp] theorem pure_ok (a : α) : (pure a : Out α) = .ok a := rfl
theorem bind_assoc (x : Out α) (f : α → Out β) (g : β → Out γ) : ((x >>= f) >>= g) = (x >>= fun a => f a >>= g) := by cases x <;> rfl
end

/-- how a value is held: frozen; frozen, its object laid since the def's entry; owned alone; only to be looked at -/
inductive Kd where
  | fz | nw | ow | pk | mv
  deriving DecidableEq
/-- a slot: unset, frozen, frozen and new, owned -/
inductive Sl where
  | un | fz (d : D) | nw (d : D) | ow (d : D)
abbrev Ta := List Sl

inductive Bop where
  | add | sub | mul | fdiv | mod | pow | shl | shr | band | bor | bxor
  deriving DecidableEq
inductive Cop where
  | eq | ne | lt | le | gt | ge | isN | notN | inn | nin
  deriving DecidableEq
inductive BI where
  | len | max | min | int | str | list | tuple | sorted | dict | abs | sum | all | any
  deriving DecidableEq
inductive ME where
  | index | get1 | get2
  deriving DecidableEq
/-- the built-in types that isinstance is asked about -/
inductive Ty where
  | tuple | list | int | bool | str
  deriving DecidableEq

inductive E where
  | var (i : Nat) | pk (i : Nat) | tk (i : Nat)
  | cst (d : D) | glb (j : Nat)
  | nil | one (a : E) | cons (a r : E) | conp (a r : E)
  | tup (r : E) | lst (r : E) | dic
  | bin (o : Bop) (a b : E) | rep (r b : E) | neg (a : E)
  | cmp (o : Cop) (a b : E)
  | and (a b : E) | or (a b : E) | not (a : E)
  | ife (c a b : E)
  | ix (a b : E) | sl (a lo hi : E)
  | call (j : Nat) (r : E) | bi (b : BI) (r : E) | me (m : ME) (o r : E)
  | isi (a : E) (ts : List Ty)
  | rng1 (a : E) | rng2 (a b : E) | enum (a : E)
  | lc (vs : List Nat) (one : Bool) (it c e : E)
  | lend (is : List Nat) (e : E)
  | rev (a : E)

def mulOk (i j : Int) : Bool := decide (-(2 ^ 64) < i ∧ i < 2 ^ 64) || decide (-(2 ^ 64) < j ∧ j < 2 ^ 64) || (decide (i.natAbs < 2 ^ 4000) && decide (j.natAbs < 2 ^ 4000))
def line : Nat := 16777216
def repL (xs : List D) (k : Int) : List D := (List.replicate k.toNat xs).flatten
def binD : Bop → D → D → Out (Kd × D)
  | .add, .int i, .int j => .ok (.fz, .int (i + j))
  | .add, .str x, .str y => if x.length + y.length ≤ line then .ok (.fz, .str (x ++ y)) else .stuck
  | .add, .list xs, .list ys => if xs.length + ys.length ≤ line then .ok (.ow, .list (xs ++ ys)) else .stuck
  | .add, .tuple xs, .tuple ys => if xs.length + ys.length ≤ line then .ok (.fz, .tuple (xs ++ ys)) else .stuck
  | .sub, .int i, .int j => .ok (.fz, .int (i - j))
  | .mul, .int i, .int j => if mulOk i j then .ok (.fz, .int (i * j)) else .stuck
  | .fdiv, .int i, .int j => if 0 < j ∧ j.natAbs.log2 < 9000 then .ok (.fz, .int (i / j)) else .stuck
  | .mod, .int i, .int j => if 0 < j then .ok (.fz, .int (i % j)) else .stuck
  | .pow, .int i, .int j => if 0 ≤ j ∧ j ≤ 1000000 ∧ i.natAbs < 2 ^ 64 then .ok (.fz, .int (i ^ j.toNat)) else .stuck
  | .shl, .int i, .int j => if 0 ≤ j ∧ j ≤ 1000000 ∧ i.natAbs < 2 ^ 64 then .ok (.fz, .int (i * 2 ^ j.toNat)) else .stuck
  | .shr, .int i, .int j => if 0 ≤ j then .ok (.fz, .int (i / 2 ^ j.toNat)) else .stuck
  | .band, .int i, .int j => .ok (.fz, .int (Builtin.bitAnd i j))
  | .bor, .int i, .int j => .ok (.fz, .int (Builtin.bitOr i j))
  | .bxor, .int i, .int j => .ok (.fz, .int (Builtin.bitXor i j))
  | _, _, _ => .stuck

def flatD : D → Bool
  | .none | .bool _ | .int _ | .str _ => true
  | _ => false
def keyD : D → Bool
  | .int _ | .str _ => true
  | _ => false
def hasD (kvs : List (D × D)) (k : D) : Bool := kvs.any fun p => PyData.eqv p.1 k
def getD (kvs : List (D × D)) (k : D) : Option D := (kvs.find? fun p => PyData.eqv p.1 k).map (·.2)
def putD (kvs : List (D × D)) (k v : D) : List (D × D) :=
  if hasD kvs k then kvs.map (fun p => if PyData.eqv p.1 k then (p.1, v) else p) else kvs ++ [(k, v)]
def inD (x : D) (xs : List D) : Bool := xs.any fun y => PyData.eqv y x
def seqOf : D → Option (List D)
  | .list xs => some xs
  | .tuple xs => some xs
  | _ => none
def cmpD : Cop → D → D → Out (Kd × D)
  | .eq, d, e => if SeqAt.shaped d && SeqAt.shaped e then .ok (.fz, .bool (PyData.eqv d e)) else .stuck
  | .ne, d, e => if SeqAt.shaped d && SeqAt.shaped e then .ok (.fz, .bool (!PyData.eqv d e)) else .stuck
  | .lt, .int i, .int j => .ok (.fz, .bool (decide (i < j)))
  | .le, .int i, .int j => .ok (.fz, .bool (decide (i ≤ j)))
  | .gt, .int i, .int j => .ok (.fz, .bool (decide (j < i)))
  | .ge, .int i, .int j => .ok (.fz, .bool (decide (j ≤ i)))
  | .isN, .none, .none => .ok (.fz, .bool true)
  | .isN, _, .none => .ok (.fz, .bool false)
  | .notN, .none, .none => .ok (.fz, .bool false)
  | .notN, _, .none => .ok (.fz, .bool true)
  | .inn, x, .list xs => if flatD x && xs.all flatD then .ok (.fz, .bool (inD x xs)) else .stuck
  | .inn, x, .tuple xs => if flatD x && xs.all flatD then .ok (.fz, .bool (inD x xs)) else .stuck
  | .inn, x, .dict kvs => if keyD x then .ok (.fz, .bool (hasD kvs x)) else .stuck
  | .nin, x, .list xs => if flatD x && xs.all flatD then .ok (.fz, .bool (!inD x xs)) else .stuck
  | .nin, x, .tuple xs => if flatD x && xs.all flatD then .ok (.fz, .bool (!inD x xs)) else .stuck
  | .nin, x, .dict kvs => if keyD x then .ok (.fz, .bool (!hasD kvs x)) else .stuck
  | _, _, _ => .stuck

def ixD : D → D → Out (Kd × D)
  | .list xs, .int i => match L2.atI xs i with | some d => .ok (.fz, d) | none => .stuck
  | .tuple xs, .int i => match L2.atI xs i with | some d => .ok (.fz, d) | none => .stuck
  | .dict kvs, k => if keyD k then (match getD kvs k with | some d => .ok (.fz, d) | none => .stuck) else .stuck
  | _, _ => .stuck
def cutD (xs : List D) (lo hi : Option Int) : List D := (xs.drop (HT.sIx xs.length 0 lo)).take (HT.sIx xs.length xs.length hi - HT.sIx xs.length 0 lo)
def slD : D → Option Int → Option Int → Out (Kd × D)
  | .list xs, lo, hi => .ok (.ow, .list (cutD xs lo hi))
  | .tuple xs, lo, hi => .ok (.fz, .tuple (cutD xs lo hi))
  | _, _, _ => .stuck

def revD : D → Out (Kd × D)
  | .list xs => .ok (.ow, .list xs.reverse)
  | _ => .stuck

def intsOf : List D → Option (List Int)
  | [] => some []
  | .int i :: r => (intsOf r).map (i :: ·)
  | _ :: _ => none
def boolsOf : List D → Option (List Bool)
  | [] => some []
  | .bool i :: r => (boolsOf r).map (i :: ·)
  | _ :: _ => none
def sortI (ns : List Int) : List Int := ns.mergeSort fun a b => decide (a ≤ b)
def pairsOf : List D → Option (List (D × D))
  | [] => some []
  | .tuple [k, v] :: r => if keyD k then (pairsOf r).map ((k, v) :: ·) else none
  | _ :: _ => none
def mergeD (kvs more : List (D × D)) : List (D × D) := more.foldl (fun acc kv => putD acc kv.1 kv.2) kvs
def biD : BI → List D → Out (Kd × D)
  | .len, [.list xs] => .ok (.fz, .int xs.length)
  | .len, [.tuple xs] => .ok (.fz, .int xs.length)
  | .len, [.dict kvs] => .ok (.fz, .int kvs.length)
  | .max, [.int i, .int j] => .ok (.fz, .int (if j > i then j else i))
  | .min, [.int i, .int j] => .ok (.fz, .int (if j < i then j else i))
  | .int, [.int i] => .ok (.fz, .int i)
  | .int, [.bool b] => .ok (.fz, .int (if b then 1 else 0))
  | .list, [.list xs] => .ok (.ow, .list xs)
  | .list, [.tuple xs] => .ok (.ow, .list xs)
  | .tuple, [.list xs] => .ok (.fz, .tuple xs)
  | .tuple, [.tuple xs] => .ok (.fz, .tuple xs)
  | .sorted, [.list xs] => match intsOf xs with | some ns => .ok (.ow, .list ((sortI ns).map .int)) | none => .stuck
  | .sorted, [.dict kvs] => match intsOf (kvs.map (·.1)) with | some ns => if ns.length < 64 then .ok (.ow, .list ((sortI ns).map .int)) else .stuck | none => .stuck
  | .dict, [.list xs] => match pairsOf xs with | some kvs => .ok (.ow, .dict (mergeD [] kvs)) | none => .stuck
  | .abs, [.int i] => .ok (.fz, .int (if i < 0 then -i else i))
  | .sum, [.list xs] => match intsOf xs with | some ns => .ok (.fz, .int ns.sum) | none => .stuck
  | .all, [.list xs] => match boolsOf xs with | some ns => .ok (.fz, .bool (ns.all id)) | none => .stuck
  | .any, [.list xs] => match boolsOf xs with | some ns => .ok (.fz, .bool (ns.any id)) | none => .stuck
  | _, _ => .stuck
def idxD (x : D) : List D → Nat → Option Nat
  | [], _ => none
  | y :: r, n => if PyData.eqv y x then some n else idxD x r (n + 1)
def meD : ME → D → List D → Out (Kd × D)
  | .index, .list xs, [x] => if flatD x && xs.all flatD then (match idxD x xs 0 with | some n => .ok (.fz, .int (n : Nat)) | none => .stuck) else .stuck
  | .get1, .dict kvs, [k] => if keyD k then .ok (.fz, (getD kvs k).getD .none) else .stuck
  | .get2, .dict kvs, [k, x] => if keyD k then .ok (.fz, (getD kvs k).getD x) else .stuck
  | _, _, _ => .stuck
def meTy : ME → D → Bool
  | .index, .list _ => true
  | .get1, .dict _ => true
  | .get2, .dict _ => true
  | _, _ => false
def isTy : Ty → D → Bool
  | .tuple, .tuple _ => true
  | .list, .list _ => true
  | .int, .int _ => true
  | .int, .bool _ => true
  | .bool, .bool _ => true
  | .str, .str _ => true
  | _, _ => false

/-- a value that may be kept -/
def keep : Kd × D → Out D
  | (.pk, _) => .stuck
  | (.mv, _) => .stuck
  | (_, d) => .ok d
def asBool : Kd × D → Out Bool
  | (_, .bool b) => .ok b
  | _ => .stuck
def rngD (a b : Int) : List D := (List.range (b - a).toNat).map fun i => .int (a + (i : Nat))
def rngOk (a b : Int) : Bool := decide (-(2 ^ 62) ≤ a ∧ a < 2 ^ 62 ∧ -(2 ^ 62) ≤ b ∧ b < 2 ^ 62)
def enumD (n : Nat) : List D → List D
  | [] => []
  | d :: r => .tuple [.int (n : Nat), d] :: enumD (n + 1) r
/-- a target is set -/
def setAll : List Nat → List D → Ta → Option Ta
  | [], [], τ => some τ
  | i :: is, d :: ds, τ => setAll is ds (τ.set i (.fz d))
  | _, _, _ => none
def bindT (vs : List Nat) (one : Bool) (d : D) (τ : Ta) : Option Ta :=
  match one, vs with
  | true, [i] => some (τ.set i (.fz d))
  | false, _ => match d with
    | .tuple ds => setAll vs ds τ
    | _ => none
  | _, _ => none
/-- the turns of a comprehension -/
def lcGo (f : D → Out (Option D)) : List D → Out (List D)
  | [] => .ok []
  | d :: r => match f d with
    | .ok (some x) => (lcGo f r).bind fun xs => .ok (x :: xs)
    | .ok none => lcGo f r
    | _ => .stuck
def optInt : Kd × D → Out (Option Int)
  | (_, .int i) => .ok (some i)
  | _ => .stuck

section
variable (cl : Nat → List D → Out (Bool × D)) (gc : Nat → D)
def listOf : Kd × D → Out (List D)
  | (.pk, _) => .stuck
  | (.mv, _) => .stuck
  | (_, .list ds) => .ok ds
  | (_, .tuple ds) => .ok ds
  | _ => .stuck
def ownK (b : Bool) : Kd := if b then .ow else .fz
def wipeT : List Nat → Ta → Ta
  | [], τ => τ
  | v :: vs, τ => (wipeT vs τ).set v .un
def frzT (is : List Nat) (τ : Ta) : Ta := is.foldl (fun (τ : Ta) i => match τ[i]? with | some (Sl.ow d) => τ.set i (Sl.nw d) | _ => τ) τ
/-- the value of an expression; of nil and cons the list of their values -/
def ev : E → Ta → Out (Kd × D)
  | .var i, τ => match τ[i]? with | some (.fz d) => .ok (.fz, d) | some (.nw d) => .ok (.nw, d) | _ => .stuck
  | .pk i, τ => match τ[i]? with | some (.fz d) => .ok (.pk, d) | some (.nw d) => .ok (.pk, d) | some (.ow d) => .ok (.pk, d) | _ => .stuck
  | .tk i, τ => match τ[i]? with | some (.fz d) => .ok (.fz, d) | some (.nw d) => .ok (.nw, d) | some (.ow d) => .ok (.mv, d) | _ => .stuck
  | .cst d, _ => .ok (.fz, d)
  | .glb j, _ => .ok (.fz, gc j)
  | .nil, _ => .ok (.fz, .list [])
  | .one a, τ => ev a τ
  | .cons a r, τ => (ev a τ).bind fun x => (keep x).bind fun d => (ev r τ).bind fun y => match y with | (.fz, .list ds) => .ok (.fz, .list (d :: ds)) | _ => .stuck
  | .conp a r, τ => (ev a τ).bind fun x => (ev r τ).bind fun y => match y with | (_, .list ds) => .ok (.pk, .list (x.2 :: ds)) | _ => .stuck
  | .tup r, τ => (ev r τ).bind fun y => match y with | (.fz, .list ds) => if ds.length ≤ line then .ok (.fz, .tuple ds) else .stuck | _ => .stuck
  | .lst r, τ => (ev r τ).bind fun y => match y with | (.fz, .list ds) => if ds.length ≤ line then .ok (.ow, .list ds) else .stuck | _ => .stuck
  | .dic, _ => .ok (.ow, .dict [])
  | .bin o a b, τ => (ev a τ).bind fun x => (ev b τ).bind fun y => binD o x.2 y.2
  | .rep r b, τ => (ev r τ).bind fun x => match x with | (.fz, .list xs) => if xs.length ≤ line then (ev b τ).bind fun y => (match y.2 with | .int k => if True ∧ -(2 ^ 63) ≤ k ∧ k < 2 ^ 63 ∧ xs.length * k.toNat ≤ line then .ok (.ow, .list (repL xs k)) else .stuck | _ => .stuck) else .stuck | _ => .stuck
  | .neg a, τ => (ev a τ).bind fun x => match x.2 with | .int i => .ok (.fz, .int (-i)) | _ => .stuck
  | .cmp o a b, τ => (ev a τ).bind fun x => (ev b τ).bind fun y => cmpD o x.2 y.2
  | .and a b, τ => (ev a τ).bind fun x => (asBool x).bind fun c => if c then ev b τ else .ok (.fz, .bool false)
  | .or a b, τ => (ev a τ).bind fun x => (asBool x).bind fun c => if c then .ok (.fz, .bool true) else ev b τ
  | .not a, τ => (ev a τ).bind fun x => (asBool x).bind fun c => .ok (.fz, .bool (!c))
  | .ife c a b, τ => (ev c τ).bind fun x => (asBool x).bind fun c => if c then ev a τ else ev b τ
  | .ix a b, τ => (ev a τ).bind fun x => (ev b τ).bind fun y => ixD x.2 y.2
  | .sl a lo hi, τ => (ev a τ).bind fun x => (match lo with | .one b => (ev b τ).bind optInt | _ => .ok none).bind fun l => (match hi with | .one b => (ev b τ).bind optInt | _ => .ok none).bind fun h => slD x.2 l h
  | .call j r, τ => (ev r τ).bind fun y => match y with | (.fz, .list ds) => (cl j ds).bind fun z => .ok (ownK z.1, z.2) | _ => .stuck
  | .bi b r, τ => (ev r τ).bind fun y => match y with | (_, .list ds) => biD b ds | _ => .stuck
  | .me m o r, τ => (ev o τ).bind fun x => if meTy m x.2 then (ev r τ).bind fun y => (match y with | (.fz, .list ds) => meD m x.2 ds | _ => .stuck) else .stuck
  | .isi a ts, τ => (ev a τ).bind fun x => .ok (.fz, .bool (ts.any fun t => isTy t x.2))
  | .rng1 _, _ => .stuck
  | .rng2 _ _, _ => .stuck
  | .enum _, _ => .stuck
  | .lc vs one it c e, τ => (match it with
      | .rng1 a => (ev a τ).bind fun x => match x.2 with | .int n => if rngOk 0 n && decide (n ≤ line) then .ok (rngD 0 n) else .stuck | _ => .stuck
      | .rng2 a b => (ev a τ).bind fun x => (ev b τ).bind fun y => match x.2, y.2 with | .int m, .int n => if rngOk m n && decide (n - m ≤ line) then .ok (rngD m n) else .stuck | _, _ => .stuck
      | .enum a => (ev a τ).bind fun x => match x with | (.pk, _) => .stuck | (.mv, _) => .stuck | (_, .list ds) => .ok (enumD 0 ds) | _ => .stuck
      | .one a => (ev a τ).bind listOf
      | _ => .stuck).bind fun xs =>
        (lcGo (fun d => match bindT vs one d (wipeT vs τ) with
          | some τ' => (ev c τ').bind fun x => (asBool x).bind fun b => if b then (ev e τ').bind fun y => (keep y).bind fun z => .ok (some z) else .ok none
          | none => .stuck) xs).bind fun ys => .ok (.ow, .list ys)
  | .lend is e, τ => (ev e (frzT is τ)).bind fun x => if flatD x.2 then .ok (.fz, x.2) else .stuck
  | .rev a, τ => (ev a τ).bind fun x => revD x.2
end
end VL
namespace VL
open PySem

inductive S where
  | nil | seq (a r : S)
  | asg (i : Nat) (e : E) | asz (i : Nat) (e : E)
  | unp (is : List Nat) (e : E)
  | app (i : Nat) (e : E) | ext (i : Nat) (e : E) | ins (i : Nat) (a b : E)
  | pop (j i : Nat) | popu (is : List Nat) (i : Nat)
  | sti (i : Nat) (k v : E)
  | aug (i : Nat) (o : Bop) (e : E)
  | exx (e : E)
  | ife (c : E) (a b : S)
  | whl (c : E) (b : S) (ks : List Nat)
  | forr (vs : List Nat) (one : Bool) (it : E) (b : S) (ks : List Nat)
  | ret (e : E) | retn | rai (c : Nat) | brk | cnt
  | frz (is : List Nat) (a : S)
  | wip (is : List Nat) (a : S)

inductive Fl where
  | nx (τ : Ta) | bk (τ : Ta) | ct (τ : Ta) | rt (own : Bool) (d : D)

def slK : Kd → D → Option Sl
  | .fz, d => some (.fz d)
  | .nw, d => some (.nw d)
  | .ow, d => some (.ow d)
  | _, _ => none
def slZ : Kd → D → Option Sl
  | .fz, d => some (.fz d)
  | .nw, d => some (.nw d)
  | .ow, d => some (.nw d)
  | _, _ => none
def tupOf : Kd × D → Out (List D)
  | (.pk, _) => .stuck
  | (.mv, _) => .stuck
  | (_, .tuple ds) => .ok ds
  | _ => .stuck

def forGo (f : Ta → Out Fl) (set : D → Ta → Option Ta) (ks : List Nat) : List D → Ta → Out Fl
  | [], τ => .ok (.nx τ)
  | d :: ds, τ => match set d τ with
    | none => .stuck
    | some τ1 => (f τ1).bind fun r => match r with
      | .nx τ2 => forGo f set ks ds (wipeT ks τ2)
      | .ct τ2 => forGo f set ks ds (wipeT ks τ2)
      | .bk τ2 => .ok (.nx (wipeT ks τ2))
      | .rt o d => .ok (.rt o d)
def whlGo (c : Ta → Out Bool) (f : Ta → Out Fl) (ks : List Nat) : Nat → Ta → Out Fl
  | 0, _ => .stuck
  | n + 1, τ => (c τ).bind fun b => if b then (f τ).bind fun r => match r with
      | .nx τ2 => whlGo c f ks n (wipeT ks τ2)
      | .ct τ2 => whlGo c f ks n (wipeT ks τ2)
      | .bk τ2 => .ok (.nx (wipeT ks τ2))
      | .rt o d => .ok (.rt o d)
    else .ok (.nx τ)

section
variable (cl : Nat → List D → Out (Bool × D)) (gc : Nat → D) (g : Nat)
def evB (e : E) (τ : Ta) : Out Bool := (ev cl gc e τ).bind asBool
def evD (e : E) (τ : Ta) : Out D := (ev cl gc e τ).bind keep
def evIt : E → Ta → Out (List D)
  | .rng1 a, τ => (ev cl gc a τ).bind fun x => match x.2 with | .int n => if rngOk 0 n && decide (n ≤ line) then .ok (rngD 0 n) else .stuck | _ => .stuck
  | .rng2 a b, τ => (ev cl gc a τ).bind fun x => (ev cl gc b τ).bind fun y => match x.2, y.2 with | .int m, .int n => if rngOk m n && decide (n - m ≤ line) then .ok (rngD m n) else .stuck | _, _ => .stuck
  | .enum a, τ => (ev cl gc a τ).bind fun x => match x with | (.pk, _) => .stuck | (.mv, _) => .stuck | (_, .list ds) => .ok (enumD 0 ds) | _ => .stuck
  | .one a, τ => (ev cl gc a τ).bind listOf
  | _, _ => .stuck
theorem ev_lc (vs : List Nat) (one : Bool) (it c e : E) (τ : Ta) : ev cl gc (.lc vs one it c e) τ = (evIt cl gc it τ).bind fun xs =>
        (lcGo (fun d => match bindT vs one d (wipeT vs τ) with
          | some τ' => (ev cl gc c τ').bind fun x => (asBool x).bind fun b => if b then (ev cl gc e τ').bind fun y => (keep y).bind fun z => .ok (some z) else .ok none
          | none => .stuck) xs).bind fun ys => .ok (.ow, .list ys) := by cases it <;> rfl

def run : S → Ta → Out Fl
  | .nil, τ => .ok (.nx τ)
  | .seq a r, τ => (run a τ).bind fun f => match f with | .nx τ' => run r τ' | f => .ok f
  | .asg i e, τ => (ev cl gc e τ).bind fun x => match slK x.1 x.2 with | some s => .ok (.nx (τ.set i s)) | none => .stuck
  | .asz i e, τ => (ev cl gc e τ).bind fun x => match slZ x.1 x.2 with | some s => .ok (.nx (τ.set i s)) | none => .stuck
  | .unp is e, τ => (ev cl gc e τ).bind fun x => (tupOf x).bind fun ds => match setAll is ds τ with | some τ' => .ok (.nx τ') | none => .stuck
  | .app i e, τ => match τ[i]? with
    | some (.ow (.list xs)) => (evD cl gc e τ).bind fun d => if xs.length < line then .ok (.nx (τ.set i (.ow (.list (xs ++ [d]))))) else .stuck
    | _ => .stuck
  | .ext i e, τ => match τ[i]? with
    | some (.ow (.list xs)) => (ev cl gc e τ).bind fun x => match x.2 with
      | .list ys => if xs.length + ys.length ≤ line then .ok (.nx (τ.set i (.ow (.list (xs ++ ys))))) else .stuck
      | _ => .stuck
    | _ => .stuck
  | .ins i a b, τ => match τ[i]? with
    | some (.ow (.list xs)) => (ev cl gc a τ).bind fun x => (evD cl gc b τ).bind fun d => match x.2 with
      | .int k => if xs.length < line ∧ 0 ≤ k ∧ k < 2 ^ 63 then .ok (.nx (τ.set i (.ow (.list (xs.take k.toNat ++ [d] ++ xs.drop k.toNat))))) else .stuck
      | _ => .stuck
    | _ => .stuck
  | .pop j i, τ => match τ[i]? with
    | some (.ow (.list xs)) => match xs[xs.length - 1]? with
      | some d => .ok (.nx ((τ.set i (.ow (.list xs.dropLast))).set j (.fz d)))
      | none => .stuck
    | _ => .stuck
  | .popu is i, τ => match τ[i]? with
    | some (.ow (.list xs)) => match xs[xs.length - 1]? with
      | some (.tuple ds) => match setAll is ds (τ.set i (.ow (.list xs.dropLast))) with
        | some τ' => .ok (.nx τ')
        | none => .stuck
      | _ => .stuck
    | _ => .stuck
  | .sti i k v, τ => match τ[i]? with
    | some (.ow (.dict kvs)) => (evD cl gc v τ).bind fun d => (ev cl gc k τ).bind fun x => if keyD x.2 && decide (kvs.length < line) then .ok (.nx (τ.set i (.ow (.dict (putD kvs x.2 d))))) else .stuck
    | some (.ow (.list xs)) => (evD cl gc v τ).bind fun d => (ev cl gc k τ).bind fun x => match x.2 with
      | .int n => match L2.ixN xs.length n with
        | some j => .ok (.nx (τ.set i (.ow (.list (xs.set j d)))))
        | none => .stuck
      | _ => .stuck
    | _ => .stuck
  | .aug i o e, τ => match τ[i]? with
    | some (.fz (.int n)) => (ev cl gc e τ).bind fun x => match o, x.2 with
      | .add, .int m => .ok (.nx (τ.set i (.fz (.int (n + m)))))
      | .sub, .int m => .ok (.nx (τ.set i (.fz (.int (n - m)))))
      | _, _ => .stuck
    | _ => .stuck
  | .exx e, τ => (ev cl gc e τ).bind fun _ => .ok (.nx τ)
  | .ife c a b, τ => (evB cl gc c τ).bind fun k => if k then run a τ else run b τ
  | .whl c b ks, τ => whlGo (evB cl gc c) (fun τ => run b τ) ks g τ
  | .forr vs one it b ks, τ => (evIt cl gc it τ).bind fun xs => forGo (fun τ => run b τ) (bindT vs one) ks xs τ
  | .ret e, τ => (ev cl gc e τ).bind fun x => match x with | (.pk, _) => .stuck | (k, d) => .ok (.rt (decide (k ≠ .fz)) d)
  | .retn, _ => .ok (.rt false .none)
  | .rai c, _ => .raise c
  | .brk, τ => .ok (.bk τ)
  | .cnt, τ => .ok (.ct τ)
  | .frz is a, τ => run a (frzT is τ)
  | .wip is a, τ => run a (wipeT is τ)

/-- a def: its parameters' number, its slots' number, its body -/
structure Def where
  np : Nat
  ns : Nat
  body : S
def start (d : Def) (ds : List D) : Ta := ds.map .fz ++ List.replicate (d.ns - ds.length) .un
def runDef (d : Def) (ds : List D) : Out (Bool × D) :=
  if ds.length = d.np then (run cl gc g d.body (start d ds)).bind fun f => match f with
    | .nx _ => .ok (false, .none)
    | .rt o v => .ok (o, v)
    | _ => .stuck
  else .stuck
end
/-- the defs of a table, n calls deep -/
def call (Φ : Nat → Option Def) (gc : Nat → D) (g : Nat) : Nat → Nat → List D → Out (Bool × D)
  | 0, _, _ => .stuck
  | n + 1, j, ds => match Φ j with
    | some d => runDef (call Φ gc g n) gc g d ds
    | none => .stuck

/-! ### that such a text is the program's -/
structure Gam where
  N : List Str
  fn : List (Str × Nat)
  gl : List (Str × Nat)
  ex : List (Str × Nat)
def okn (x : Str) : Bool := !(x == ("__debug__" : Str)) && !(x == ("__classdict__" : Str)) && !(x == ("__name__" : Str))
def visB (sc : Scope) (x : Str) : Bool := match sc.names.lookup x with | some .local => true | some .cell => true | some .free => true | _ => false
def locB (sc : Scope) (x : Str) : Bool := match sc.names.lookup x with | some .local => true | some .cell => true | _ => false
def lcB (sc : Scope) (x : Str) : Bool := match sc.names.lookup x with | some .local => true | _ => false
def glB (sc : Scope) (x : Str) : Bool := match sc.names.lookup x with | some .globalImplicit => true | _ => false
def nameAt (Γ : Gam) (i : Nat) (x : Str) : Bool := decide (Γ.N[i]? = some x) && okn x
def constIs : D → Const → Bool
  | .none, .none => true
  | .bool a, .bool b => a == b
  | .int i, .int j => i == j
  | .str x, .str y => decide (x = y)
  | _, _ => false
def opIs : Bop → Operator → Bool
  | .add, .Add => true | .sub, .Sub => true | .mul, .Mult => true | .fdiv, .FloorDiv => true | .mod, .Mod => true | .pow, .Pow => true
  | .shl, .LShift => true | .shr, .RShift => true | .band, .BitAnd => true | .bor, .BitOr => true | .bxor, .BitXor => true
  | _, _ => false
def copIs : Cop → CmpOp → Bool
  | .eq, .Eq => true | .ne, .NotEq => true | .lt, .Lt => true | .le, .LtE => true | .gt, .Gt => true | .ge, .GtE => true
  | .isN, .Is => true | .notN, .IsNot => true | .inn, .In => true | .nin, .NotIn => true
  | _, _ => false
def biName : BI → Str
  | .len => "len" | .max => "max" | .min => "min" | .int => "int" | .str => "str" | .list => "list" | .tuple => "tuple" | .sorted => "sorted" | .dict => "dict"
  | .abs => "abs" | .sum => "sum" | .all => "all" | .any => "any"
def meName : ME → Str
  | .index => "index" | .get1 => "get" | .get2 => "get"
def meArgs : ME → Nat
  | .index => 1 | .get1 => 1 | .get2 => 2
def tyName : Ty → Str
  | .tuple => "tuple" | .list => "list" | .int => "int" | .bool => "bool" | .str => "str"
def isSlice : Expr → Bool
  | .Slice _ _ _ _ => true
  | _ => false
def isIfE : Expr → Bool
  | .IfExp _ _ _ _ => true
  | _ => false
def call0 : Expr → Bool
  | .Call _ [] [] _ => true
  | _ => false
def tgB (Γ : Gam) (loc : Str → Bool) : List Nat → List Expr → Bool
  | [], [] => true
  | i :: is, .Name x _ :: r => nameAt Γ i x && loc x && tgB Γ loc is r
  | _, _ => false
def tgtB (Γ : Gam) (loc : Str → Bool) (vs : List Nat) (one : Bool) : Expr → Bool
  | .Name x _ => one && tgB Γ loc vs [.Name x ⟨0, 0, 0, 0⟩] 
  | .Tuple es _ _ => !one && tgB Γ loc vs es
  | _ => false
def tysB (sc : Scope) : List Ty → Expr → Bool
  | [t], .Name x _ => glB sc x && decide (x = tyName t)
  | ts, .Tuple es _ _ => go ts es
  | _, _ => false
where go : List Ty → List Expr → Bool
  | [], [] => true
  | t :: ts, .Name x _ :: es => glB sc x && decide (x = tyName t) && go ts es
  | _, _ => false
def consE : E → Bool
  | .nil => true
  | .cons _ r => consE r
  | _ => false
def revB : Expr → Bool
  | .Slice none none (some (.UnaryOp .USub (.Constant (.int i) _ _) _)) _ => decide (i = 1)
  | _ => false
def isEn : E → Bool
  | .enum _ => true
  | _ => false
def ownOf (N : List Str) (vs : List Nat) : List (Str × Nat) := vs.filterMap fun i => N[i]?.map fun x => (x, i)
variable (Γ : Gam)
mutual
def chkE : E → Scope → Expr → Bool
  | .var i, sc, .Name x _ => nameAt Γ i x && visB sc x
  | .pk i, sc, .Name x _ => nameAt Γ i x && visB sc x
  | .tk i, sc, .Name x _ => nameAt Γ i x && visB sc x
  | .cst d, _, .Constant c _ _ => constIs d c
  | .glb j, sc, .Name x _ => okn x && glB sc x && decide (Γ.gl.lookup x = some j)
  | .tup r, sc, .Tuple es _ _ => chkA r sc es
  | .lst r, sc, .List es _ => chkA r sc es
  | .dic, _, .Dict [] [] _ => true
  | .bin o a b, sc, .BinOp a' o' b' _ => opIs o o' && chkE a sc a' && chkE b sc b'
  | .rep r b, sc, .BinOp (.List es _) .Mult b' _ => chkA r sc es && chkE b sc b'
  | .neg a, sc, .UnaryOp .USub a' _ => chkE a sc a'
  | .not a, sc, .UnaryOp .Not a' _ => chkE a sc a' && !isIfE a'
  | .cmp o a b, sc, .Compare a' [o'] [b'] _ => copIs o o' && chkE a sc a' && chkE b sc b'
  | .and a b, sc, .BoolOp .And (a' :: b' :: r) _ => chkE a sc a' && !isIfE a' && chkB .And b sc (b' :: r)
  | .or a b, sc, .BoolOp .Or (a' :: b' :: r) _ => chkE a sc a' && !isIfE a' && chkB .Or b sc (b' :: r)
  | .ife c a b, sc, .IfExp c' a' b' _ => chkE c sc c' && !isIfE c' && chkE a sc a' && chkE b sc b'
  | .ix a b, sc, .Subscript a' b' _ => chkE a sc a' && chkE b sc b' && !isSlice b'
  | .sl a lo hi, sc, .Subscript a' (.Slice lo' hi' none _) _ => chkE a sc a' && chkO lo sc lo' && chkO hi sc hi'
  | .call j r, sc, .Call (.Name x _) es [] _ => okn x && glB sc x && decide (Γ.fn.lookup x = some j) && chkA r sc es
  | .bi b r, sc, .Call (.Name x _) (e :: es) [] _ => glB sc x && decide (x = biName b) && chkA r sc (e :: es)
  | .me m o r, sc, .Call (.Attribute o' x apos) (e :: es) [] cpos => decide (x = meName m) && decide (meArgs m = es.length + 1) && (apos.endLine == cpos.line) && !call0 o' && consE r && chkE o sc o' && chkA r sc (e :: es)
  | .isi a ts, sc, .Call (.Name x _) [a', t'] [] _ => glB sc x && decide (x = ("isinstance" : Str)) && chkE a sc a' && tysB sc ts t' && decide (ts.length ≤ 100)
  | .lc vs one it c e, sc, .ListComp e' [⟨tg, it', ifs, 0⟩] scope _ =>
      L2.blkC Γ.N sc scope (ownOf Γ.N vs) && chkI it sc it' && tgtB Γ (lcB (L2.relS scope sc)) vs one tg && (!isEn it || !one) && chkC c (L2.relS scope sc) ifs && chkE e (L2.relS scope sc) e'
  | .rev a, sc, .Subscript a' b' _ => revB b' && chkE a sc a'
  | .lend _ e, sc, .Call f as ks p => chkE e sc (.Call f as ks p)
  | _, _, _ => false
def chkA : E → Scope → List Expr → Bool
  | .nil, _, [] => true
  | .cons a r, sc, e :: es => chkE a sc e && chkA r sc es
  | .conp a r, sc, e :: es => chkE a sc e && chkA r sc es
  | _, _, _ => false
def chkB (op : BoolOp) : E → Scope → List Expr → Bool
  | .one e, sc, [x] => chkE e sc x && !isIfE x
  | .and a b, sc, x :: y :: r => op == .And && chkE a sc x && !isIfE x && chkB op b sc (y :: r)
  | .or a b, sc, x :: y :: r => op == .Or && chkE a sc x && !isIfE x && chkB op b sc (y :: r)
  | _, _, _ => false
def chkO : E → Scope → Option Expr → Bool
  | .nil, _, none => true
  | .one e, sc, some x => chkE e sc x
  | _, _, _ => false
def chkC : E → Scope → List Expr → Bool
  | .cst (.bool true), _, [] => true
  | .one e, sc, [x] => chkE e sc x && !isIfE x
  | _, _, _ => false
def chkI : E → Scope → Expr → Bool
  | .rng1 a, sc, .Call (.Name x _) [a'] [] _ => glB sc x && decide (x = ("range" : Str)) && chkE a sc a'
  | .rng2 a b, sc, .Call (.Name x _) [a', b'] [] _ => glB sc x && decide (x = ("range" : Str)) && chkE a sc a' && chkE b sc b'
  | .enum a, sc, .Call (.Name x _) [a'] [] _ => glB sc x && decide (x = ("enumerate" : Str)) && chkE a sc a'
  | .one e, sc, x => chkE e sc x
  | _, _, _ => false
end
end VL
namespace VL
open PySem PySem.Spec L2

def kD : Key → D
  | .inl i => .int i
  | .inr x => .str x
mutual
/-- a value stands for data, all of it within F -/
inductive Rp (K : PySem.W.Frag) (F : Hp) : V → D → Prop
  | non : Rp K F .non .none
  | bl (b : Bool) : Rp K F (.bl b) (.bool b)
  | int (i : Int) : Rp K F (.int i) (.int i)
  | str (x : Str) : Rp K F (.str x) (.str x)
  | lst {a : Addr} {xs : List V} {ds : List D} : Rd F a (.lst xs) → xs.length ≤ line → RpA K F xs ds → Rp K F (.ref a) (.list ds)
  | tup {a : Addr} {xs : List V} {ds : List D} : SqT K F a xs → xs.length ≤ line → RpA K F xs ds → Rp K F (.ref a) (.tuple ds)
  | dic {a : Addr} {es : List (Key × V)} {kvs : List (D × D)} : Rd F a (.dK es) → es.length ≤ line → RpK K F es kvs → Rp K F (.ref a) (.dict kvs)
inductive RpA (K : PySem.W.Frag) (F : Hp) : List V → List D → Prop
  | nil : RpA K F [] []
  | cons {v : V} {vs : List V} {d : D} {ds : List D} : Rp K F v d → RpA K F vs ds → RpA K F (v :: vs) (d :: ds)
inductive RpK (K : PySem.W.Frag) (F : Hp) : List (Key × V) → List (D × D) → Prop
  | nil : RpK K F [] []
  | cons {k : Key} {v : V} {d : D} {es : List (Key × V)} {kvs : List (D × D)} : Rp K F v d → RpK K F es kvs → RpK K F ((k, v) :: es) ((kD k, d) :: kvs)
end
theorem Same.sqL {K : PySem.W.Frag} {F F' : Hp} {a : Addr} {xs : List V} (e : Same F F') (h : SqL K F a xs) : SqL K F' a xs := Same.seq e h
theorem Same.sqT {K : PySem.W.Frag} {F F' : Hp} {a : Addr} {xs : List V} (e : Same F F') (h : SqT K F a xs) : SqT K F' a xs := by
  rcases h with (h | ⟨o, h⟩) | h
  · exact .inl (.inl (e _ _ h))
  · exact .inl (.inr ⟨o, e _ _ h⟩)
  · exact .inr h
theorem Same.rd {F F' : Hp} {a : Addr} {u : HO} (e : Same F F') (h : Rd F a u) : Rd F' a u := by
  rcases h with h | ⟨o, h⟩
  · exact .inl (e _ _ h)
  · exact .inr ⟨o, e _ _ h⟩
section
variable {K : PySem.W.Frag} {F F' : Hp}
mutual
theorem Rp.mono (e : Same F F') : ∀ {v : V} {d : D}, Rp K F v d → Rp K F' v d
  | _, _, .non => .non
  | _, _, .bl b => .bl b
  | _, _, .int b => .int b
  | _, _, .str b => .str b
  | _, _, .lst h z r => .lst (Same.rd e h) z (RpA.mono e r)
  | _, _, .tup h z r => .tup (Same.sqT e h) z (RpA.mono e r)
  | _, _, .dic h z r => .dic (Same.rd e h) z (RpK.mono e r)
theorem RpA.mono (e : Same F F') : ∀ {v : List V} {d : List D}, RpA K F v d → RpA K F' v d
  | _, _, .nil => .nil
  | _, _, .cons a r => .cons (Rp.mono e a) (RpA.mono e r)
theorem RpK.mono (e : Same F F') : ∀ {v : List (Key × V)} {d : List (D × D)}, RpK K F v d → RpK K F' v d
  | _, _, .nil => .nil
  | _, _, .cons a r => .cons (Rp.mono e a) (RpK.mono e r)
end
theorem RpA.length : ∀ {vs : List V} {ds : List D}, RpA K F vs ds → vs.length = ds.length
  | _, _, .nil => rfl
  | _, _, .cons _ r => by rw [List.length_cons, List.length_cons, RpA.length r]
theorem RpA.get : ∀ {vs : List V} {ds : List D} {i : Nat} {d : D}, RpA K F vs ds → ds[i]? = some d → ∃ v, vs[i]? = some v ∧ Rp K F v d
  | _, _, _, _, .nil, e => by simp at e
  | _, _, 0, _, .cons a _, e => by simp at e; subst e; exact ⟨_, rfl, a⟩
  | _, _, i + 1, _, .cons _ r, e => by
    obtain ⟨v, h, q⟩ := RpA.get (i := i) r (by simpa using e)
    exact ⟨v, by simpa using h, q⟩
theorem RpA.get' : ∀ {vs : List V} {ds : List D} {i : Nat} {v : V}, RpA K F vs ds → vs[i]? = some v → ∃ d, ds[i]? = some d ∧ Rp K F v d
  | _, _, _, _, .nil, e => by simp at e
  | _, _, 0, _, .cons a _, e => by simp at e; subst e; exact ⟨_, rfl, a⟩
  | _, _, i + 1, _, .cons _ r, e => by
    obtain ⟨v, h, q⟩ := RpA.get' (i := i) r (by simpa using e)
    exact ⟨v, by simpa using h, q⟩
theorem RpA.append : ∀ {vs ws : List V} {ds es : List D}, RpA K F vs ds → RpA K F ws es → RpA K F (vs ++ ws) (ds ++ es)
  | _, _, _, _, .nil, s => s
  | _, _, _, _, .cons a r, s => .cons a (RpA.append r s)
theorem RpA.take : ∀ {vs : List V} {ds : List D} (n : Nat), RpA K F vs ds → RpA K F (vs.take n) (ds.take n)
  | _, _, 0, _ => .nil
  | _, _, _ + 1, .nil => .nil
  | _, _, n + 1, .cons a r => .cons a (RpA.take n r)
theorem RpA.drop : ∀ {vs : List V} {ds : List D} (n : Nat), RpA K F vs ds → RpA K F (vs.drop n) (ds.drop n)
  | _, _, 0, r => r
  | _, _, _ + 1, .nil => .nil
  | _, _, n + 1, .cons _ r => RpA.drop n r
theorem RpA.set : ∀ {vs : List V} {ds : List D} {v : V} {d : D} (n : Nat), Rp K F v d → RpA K F vs ds → RpA K F (vs.set n v) (ds.set n d)
  | _, _, _, _, _, _, .nil => .nil
  | _, _, _, _, 0, q, .cons _ r => .cons q r
  | _, _, _, _, n + 1, q, .cons a r => .cons a (RpA.set n q r)
theorem RpA.dropLast {vs : List V} {ds : List D} (h : RpA K F vs ds) : RpA K F vs.dropLast ds.dropLast := by
  rw [List.dropLast_eq_take, List.dropLast_eq_take, h.length]
  exact h.take _
theorem RpA.reverse : ∀ {vs : List V} {ds : List D}, RpA K F vs ds → RpA K F vs.reverse ds.reverse
  | _, _, .nil => .nil
  | _, _, .cons a r => by
    rw [List.reverse_cons, List.reverse_cons]
    exact (RpA.reverse r).append (.cons a .nil)
theorem RpA.rep {vs : List V} {ds : List D} (h : RpA K F vs ds) : ∀ n : Nat, RpA K F (List.replicate n vs).flatten (List.replicate n ds).flatten
  | 0 => .nil
  | n + 1 => by
    rw [List.replicate_succ, List.replicate_succ, List.flatten_cons, List.flatten_cons]
    exact h.append (RpA.rep h n)
theorem RpK.length : ∀ {vs : List (Key × V)} {ds : List (D × D)}, RpK K F vs ds → vs.length = ds.length
  | _, _, .nil => rfl
  | _, _, .cons _ r => by rw [List.length_cons, List.length_cons, RpK.length r]
end

/-- the list or dict d at l, its items within F -/
def OwnC (K : PySem.W.Frag) (F H : Hp) (l : Addr) (d : D) : Prop := match d with
  | .list ds => ∃ vs, H l = some (.lst vs) ∧ vs.length ≤ line ∧ RpA K F vs ds
  | .dict kvs => ∃ es, H l = some (.dK es) ∧ es.length ≤ line ∧ RpK K F es kvs
  | _ => False
def Pk (K : PySem.W.Frag) (F H : Hp) (v : V) (d : D) : Prop := Rp K F v d ∨ ∃ l, v = .ref l ∧ OwnC K F H l d
inductive PkA (K : PySem.W.Frag) (F H : Hp) : List V → List D → Prop
  | nil : PkA K F H [] []
  | cons {v : V} {vs : List V} {d : D} {ds : List D} : Pk K F H v d → PkA K F H vs ds → PkA K F H (v :: vs) (d :: ds)
/-- what an evaluation does to the frozen part F and the heap H -/
structure Ext (F H F' H' : Hp) : Prop where
  same : Same H H'
  le : Same F F'
  sub : Same F' H'
  new : ∀ a o, F' a = some o → F a = some o ∨ H a = none
theorem Ext.refl {F H : Hp} (h : Same F H) : Ext F H F H := ⟨Same.refl _, Same.refl _, h, fun _ _ e => .inl e⟩
theorem Ext.trans {F H F1 H1 F2 H2 : Hp} (a : Ext F H F1 H1) (b : Ext F1 H1 F2 H2) : Ext F H F2 H2 :=
  ⟨a.same.trans b.same, a.le.trans b.le, b.sub, fun x o e => by
    rcases b.new x o e with q | q
    · exact a.new x o q
    · exact .inr (a.same.free q)⟩
section
variable {K : PySem.W.Frag} {F F' H H' : Hp} {l : Addr} {v : V} {d : D}
theorem OwnC.mono (e : Same F F') (h : H' l = H l) (o : OwnC K F H l d) : OwnC K F' H' l d := by
  cases d with
  | list ds => obtain ⟨vs, a, z, r⟩ := o; exact ⟨vs, h.trans a, z, r.mono e⟩
  | dict ds => obtain ⟨vs, a, z, r⟩ := o; exact ⟨vs, h.trans a, z, r.mono e⟩
  | _ => exact o.elim
theorem OwnC.some (o : OwnC K F H l d) : ∃ u, H l = some u := by
  cases d with
  | list ds => obtain ⟨vs, a, z, r⟩ := o; exact ⟨_, a⟩
  | dict ds => obtain ⟨vs, a, z, r⟩ := o; exact ⟨_, a⟩
  | _ => exact o.elim
theorem OwnC.ext (e : Ext F H F' H') (o : OwnC K F H l d) : OwnC K F' H' l d := by
  obtain ⟨u, q⟩ := o.some
  exact o.mono e.le (by rw [q]; exact e.same _ _ q)
theorem Pk.ext (e : Ext F H F' H') (p : Pk K F H v d) : Pk K F' H' v d := by
  rcases p with p | ⟨l, h, o⟩
  · exact .inl (p.mono e.le)
  · exact .inr ⟨l, h, o.ext e⟩
theorem PkA.ext (e : Ext F H F' H') : ∀ {vs : List V} {ds : List D}, PkA K F H vs ds → PkA K F' H' vs ds
  | _, _, .nil => .nil
  | _, _, .cons a r => .cons (a.ext e) (PkA.ext e r)
theorem RpA.pk : ∀ {vs : List V} {ds : List D}, RpA K F vs ds → PkA K F H vs ds
  | _, _, .nil => .nil
  | _, _, .cons a r => .cons (.inl a) (RpA.pk r)
/-- an owned cell is frozen -/
theorem OwnC.rp (o : OwnC K F H l d) (h : F' l = H l) (e : Same F F') : Rp K F' (.ref l) d := by
  cases d with
  | list ds => obtain ⟨vs, a, z, r⟩ := o; exact .lst (.inl (h.trans a)) z (r.mono e)
  | dict ds => obtain ⟨vs, a, z, r⟩ := o; exact .dic (.inl (h.trans a)) z (r.mono e)
  | _ => exact o.elim
end

/-- a frozen cell whose items don't lean on it -/
def NwC (K : PySem.W.Frag) (F : Hp) (l : Addr) (d : D) : Prop := ∃ F1, Same F1 F ∧ F1 l = none ∧ OwnC K F1 F l d
theorem NwC.mono {K : PySem.W.Frag} {F F' : Hp} {l : Addr} {d : D} (s : Same F F') (h : NwC K F l d) : NwC K F' l d := by
  obtain ⟨F1, a, b, c⟩ := h
  obtain ⟨u, hu⟩ := c.some
  exact ⟨F1, a.trans s, b, c.mono (Same.refl _) (by rw [hu]; exact s _ _ hu)⟩
theorem NwC.rp {K : PySem.W.Frag} {F : Hp} {l : Addr} {d : D} (h : NwC K F l d) : Rp K F (.ref l) d := by
  obtain ⟨F1, a, b, c⟩ := h
  exact c.rp rfl a
/-- the frozen part without one address -/
def cutA (F : Hp) (l : Addr) : Hp := fun a => if a = l then none else F a
theorem cutA_le {F : Hp} {l : Addr} : Same (cutA F l) F := fun a o h => by
  unfold cutA at h
  split at h
  · cases h
  · exact h
theorem cutA_self {F : Hp} {l : Addr} : cutA F l l = none := if_pos rfl
theorem cutA_of {F G : Hp} {l : Addr} (s : Same G F) (h : G l = none) : Same G (cutA F l) := fun a o e => by
  unfold cutA
  rw [if_neg (ne_of_none e h)]
  exact s _ _ e
/-- .. taken out of the frozen part again -/
theorem NwC.own {K : PySem.W.Frag} {F H : Hp} {l : Addr} {d : D} (h : NwC K F l d) (s : Same F H) : OwnC K (cutA F l) H l d := by
  obtain ⟨F1, a, b, c⟩ := h
  obtain ⟨u, hu⟩ := c.some
  exact c.mono (cutA_of a b) (by rw [hu]; exact s _ _ hu)

/-! ### the state of a body -/
def SlOk (K : PySem.W.Frag) (H0 F H : Hp) (o : Option (Option V)) : Sl → Prop
  | .un => True
  | .fz d => ∃ v, o = some (some v) ∧ Rp K F v d
  | .nw d => ∃ l, o = some (some (.ref l)) ∧ H0 l = none ∧ NwC K F l d
  | .ow d => ∃ l, o = some (some (.ref l)) ∧ H0 l = none ∧ F l = none ∧ OwnC K F H l d
structure Good (K : PySem.W.Frag) (H0 F0 F : Hp) (σ : L2.St) (τ : Ta) (H : Hp) : Prop where
  sub0 : Same F0 H0
  sub : Same F H
  base : Same H0 H
  ext : Same F0 F
  new : ∀ a o, F a = some o → F0 a = some o ∨ H0 a = none
  len : τ.length = σ.length
  slot : ∀ (i : Nat) (s : Sl), τ[i]? = some s → SlOk K H0 F H (σ[i]?) s
  dist : ∀ (i j : Nat) (d e : D) (l : Addr), τ[i]? = some (.ow d) → τ[j]? = some (.ow e) → σ[i]? = some (some (.ref l)) → σ[j]? = some (some (.ref l)) → i = j
/-- what an expression hands on -/
def Res (K : PySem.W.Frag) (H0 H F' H' : Hp) (v : V) (d : D) : Kd → Prop
  | .fz => Rp K F' v d
  | .nw => ∃ l, v = .ref l ∧ H0 l = none ∧ NwC K F' l d
  | .ow => ∃ l, v = .ref l ∧ H l = none ∧ F' l = none ∧ OwnC K F' H' l d
  | .pk => Pk K F' H' v d
  | .mv => ∃ l, v = .ref l ∧ H0 l = none ∧ F' l = none ∧ OwnC K F' H' l d
section
variable {K : PySem.W.Frag} {H0 F0 F F' F1 H H' H1 : Hp} {σ : L2.St} {τ : Ta} {v : V} {d : D} {k : Kd}
theorem Good.step (g : Good K H0 F0 F σ τ H) (e : Ext F H F' H') : Good K H0 F0 F' σ τ H' where
  sub0 := g.sub0
  sub := e.sub
  base := g.base.trans e.same
  ext := g.ext.trans e.le
  new := fun a o h => by
    rcases e.new a o h with q | q
    · exact g.new a o q
    · exact .inr (g.base.free q)
  len := g.len
  slot := fun i s h => by
    have q := g.slot i s h
    cases s with
    | un => trivial
    | fz d => obtain ⟨v, a, r⟩ := q; exact ⟨v, a, r.mono e.le⟩
    | nw d => obtain ⟨v, a, z, r⟩ := q; exact ⟨v, a, z, r.mono e.le⟩
    | ow d =>
      obtain ⟨l, a, z, n, r⟩ := q
      refine ⟨l, a, z, ?_, r.ext e⟩
      cases q : F' l with
      | none => rfl
      | some o =>
        obtain ⟨u, hu⟩ := r.some
        rcases e.new l o q with z | z
        · rw [n] at z; cases z
        · rw [hu] at z; cases z
  dist := g.dist
theorem Res.pk (r : Res K H0 H F' H' v d k) : Pk K F' H' v d := by
  cases k with
  | fz => exact .inl r
  | nw => obtain ⟨l, a, _, q⟩ := r; exact .inl (by rw [a]; exact q.rp)
  | ow => obtain ⟨l, a, _, _, q⟩ := r; exact .inr ⟨l, a, q⟩
  | pk => exact r
  | mv => obtain ⟨l, a, _, _, q⟩ := r; exact .inr ⟨l, a, q⟩
/-- a new cell is frozen -/
theorem Ext.freeze {l : Addr} {u : HO} (e : Ext F H F' H') (hn : H l = none) (hf : F' l = none) (hu : H' l = some u) : Ext F H (upd F' l u) H' where
  same := e.same
  le := (e.le).trans fun a o h => by rw [upd_ne (ne_of_none h hf)]; exact h
  sub := fun a o h => by
    by_cases ha : a = l
    · subst ha; rw [upd_same] at h; cases h; exact hu
    · rw [upd_ne ha] at h; exact e.sub _ _ h
  new := fun a o h => by
    by_cases ha : a = l
    · subst ha; exact .inr hn
    · rw [upd_ne ha] at h; exact e.new _ _ h
theorem Res.keep (r : Res K H0 H F' H' v d k) (e : Ext F H F' H') (hk : VL.keep (k, d) = .ok d) : ∃ F'', Ext F H F'' H' ∧ Same F' F'' ∧ Rp K F'' v d := by
  cases k with
  | fz => exact ⟨F', e, Same.refl _, r⟩
  | nw => obtain ⟨l, a, _, q⟩ := r; exact ⟨F', e, Same.refl _, by rw [a]; exact q.rp⟩
  | ow =>
    obtain ⟨l, a, n, f, q⟩ := r
    obtain ⟨u, hu⟩ := q.some
    refine ⟨upd F' l u, e.freeze n f hu, fun b o h => by rw [upd_ne (ne_of_none h f)]; exact h, ?_⟩
    rw [a]
    exact q.rp (by rw [upd_same, hu]) (fun b o h => by rw [upd_ne (ne_of_none h f)]; exact h)
  | pk => cases hk
  | mv => cases hk
theorem keep_ok {x : Kd × D} {d : D} (h : keep x = .ok d) : x.2 = d ∧ keep (x.1, d) = .ok d := by
  obtain ⟨k, e⟩ := x
  cases k <;> first | (cases h; exact ⟨rfl, rfl⟩) | cases h
end

/-! ### the judgements, by the evaluator -/
section
variable (K : PySem.W.Frag) (H0 F0 : Hp) (cv : Nat → Value) (W : WX)
def OkE (σ : L2.St) (F H : Hp) (Q : VK) : Out (Kd × D) → Prop
  | .ok (k, d) => ∀ v F' H', Ext F H F' H' → Res K H0 H F' H' v d k → Q v H'
  | .raise c => ∀ H', Same H H' → W (cv c) none σ H'
  | .stuck => False
def OkB (σ : L2.St) (F H : Hp) (Q : Bool → Hp → Prop) : Out Bool → Prop
  | .ok b => ∀ F' H', Ext F H F' H' → Q b H'
  | .raise c => ∀ H', Same H H' → W (cv c) none σ H'
  | .stuck => False
def OkA (σ : L2.St) (F H : Hp) (Q : List V → Hp → Prop) : Out (Kd × D) → Prop
  | .ok (k, .list ds) => ∀ vs F' H', Ext F H F' H' → PkA K F' H' vs ds → (k = .fz → RpA K F' vs ds) → Q vs H'
  | .ok _ => False
  | .raise c => ∀ H', Same H H' → W (cv c) none σ H'
  | .stuck => False
def OkO (σ : L2.St) (F H : Hp) (Q : Option Int → Hp → Prop) : Out (Option Int) → Prop
  | .ok b => ∀ F' H', Ext F H F' H' → Q b H'
  | .raise c => ∀ H', Same H H' → W (cv c) none σ H'
  | .stuck => False
def tOf (m : Ta → Out (Kd × D)) : TE := fun σ H Q => ∃ F τ, Good K H0 F0 F σ τ H ∧ OkE K H0 cv W σ F H Q (m τ)
def tTe (m : Ta → Out Bool) : TT := fun σ H Q => ∃ F τ, Good K H0 F0 F σ τ H ∧ OkB cv W σ F H Q (m τ)
def tAs (m : Ta → Out (Kd × D)) : TA := fun σ H Q => ∃ F τ, Good K H0 F0 F σ τ H ∧ OkA K cv W σ F H Q (m τ)
def tOo (m : Ta → Out (Option Int)) : TO := fun σ H Q => ∃ F τ, Good K H0 F0 F σ τ H ∧ OkO cv W σ F H Q (m τ)
end
section
variable {K : PySem.W.Frag} {H0 F0 : Hp} {cv : Nat → Value} {W : WX} {σ : L2.St} {F H F1 H1 : Hp} {Q : VK}
theorem Res.back {v : V} {d : D} {k : Kd} {F' H' : Hp} (s : Same H H1) (r : Res K H0 H1 F' H' v d k) : Res K H0 H F' H' v d k := by
  cases k with
  | fz => exact r
  | nw => exact r
  | ow => obtain ⟨l, a, b, c, d⟩ := r; exact ⟨l, a, s.free b, c, d⟩
  | pk => exact r
  | mv => exact r
theorem OkE.after (e : Ext F H F1 H1) {x : Out (Kd × D)} (h : OkE K H0 cv W σ F H Q x) : OkE K H0 cv W σ F1 H1 Q x := by
  cases x with
  | ok y => exact fun v F' H' e' r => h v F' H' (e.trans e') (r.back e.same)
  | raise c => exact fun H' s => h H' (e.same.trans s)
  | stuck => exact h
theorem OkB.after (e : Ext F H F1 H1) {Q : Bool → Hp → Prop} {x : Out Bool} (h : OkB cv W σ F H Q x) : OkB cv W σ F1 H1 Q x := by
  cases x with
  | ok y => exact fun F' H' e' => h F' H' (e.trans e')
  | raise c => exact fun H' s => h H' (e.same.trans s)
  | stuck => exact h
theorem OkO.after (e : Ext F H F1 H1) {Q : Option Int → Hp → Prop} {x : Out (Option Int)} (h : OkO cv W σ F H Q x) : OkO cv W σ F1 H1 Q x := by
  cases x with
  | ok y => exact fun F' H' e' => h F' H' (e.trans e')
  | raise c => exact fun H' s => h H' (e.same.trans s)
  | stuck => exact h
theorem OkA.after (e : Ext F H F1 H1) {Q : List V → Hp → Prop} {x : Out (Kd × D)} (h : OkA K cv W σ F H Q x) : OkA K cv W σ F1 H1 Q x := by
  cases x with
  | ok y =>
    obtain ⟨k, d⟩ := y
    cases d with
    | list ds => exact fun v F' H' e' r r' => h v F' H' (e.trans e') r r'
    | _ => exact h
  | raise c => exact fun H' s => h H' (e.same.trans s)
  | stuck => exact h
/-- an evaluation, then the rest of it -/
theorem OkE.then {x : Out (Kd × D)} {f : Kd × D → Out (Kd × D)} (h : OkE K H0 cv W σ F H Q (x.bind f)) {R : VK}
    (hR : ∀ k d, x = .ok (k, d) → ∀ v F1 H1, Ext F H F1 H1 → Res K H0 H F1 H1 v d k → OkE K H0 cv W σ F1 H1 Q (f (k, d)) → R v H1) : OkE K H0 cv W σ F H R x := by
  cases x with
  | ok y => exact fun v F' H' e r => hR y.1 y.2 rfl v F' H' e r (OkE.after e h)
  | raise c => exact h
  | stuck => exact h
end
theorem PE.weak {X : Cx} {e : Expr} {t t' : TE} (h : PE X e t) (w : ∀ σ H Q, t' σ H Q → t σ H Q) : PE X e t' := ⟨fun pins s σ H Q I q => h.run pins s σ H Q I (w σ H Q q)⟩
theorem PT.weak {X : Cx} {e : Expr} {t t' : TT} (h : PT X e t) (w : ∀ σ H Q, t' σ H Q → t σ H Q) : PT X e t' := ⟨fun pins s σ H Q I q => h.run pins s σ H Q I (w σ H Q q)⟩
theorem PW.weak {X : Cx} {e : Expr} {t t' : TT} (h : PW X e t) (w : ∀ σ H Q, t' σ H Q → t σ H Q) : PW X e t' := ⟨fun wh pins s σ H Q I q => h.run wh pins s σ H Q I (w σ H Q q)⟩
theorem PA.weak {X : Cx} {e : List Expr} {t t' : TA} (h : PA X e t) (w : ∀ σ H Q, t' σ H Q → t σ H Q) : PA X e t' := ⟨fun pos pins s σ H Q I q => h.run pos pins s σ H Q I (w σ H Q q)⟩
theorem PS.weak {X : Cx} {e : Stmt} {t t' : TS} (h : PS X e t) (w : ∀ D σ H, t' D σ H → t D σ H) : PS X e t' := ⟨fun pins s σ H D I q => h.run pins s σ H D I (w D σ H q)⟩
theorem PSs.weak {X : Cx} {e : List Stmt} {t t' : TS} (h : PSs X e t) (w : ∀ D σ H, t' D σ H → t D σ H) : PSs X e t' := ⟨fun pins s σ H D I q => h.run pins s σ H D I (w D σ H q)⟩
end VL
namespace VL
open PySem PySem.Spec L2

theorem line_eq : line = sizeLine := by decide
section
variable {K : PySem.W.Frag} {F H H0 : Hp} {v : V}
theorem Pk.int {i : Int} (p : Pk K F H v (.int i)) : v = .int i := by
  rcases p with p | ⟨l, _, o⟩
  · cases p; rfl
  · exact o.elim
theorem Pk.str {i : Str} (p : Pk K F H v (.str i)) : v = .str i := by
  rcases p with p | ⟨l, _, o⟩
  · cases p; rfl
  · exact o.elim
theorem Pk.bl {i : Bool} (p : Pk K F H v (.bool i)) : v = .bl i := by
  rcases p with p | ⟨l, _, o⟩
  · cases p; rfl
  · exact o.elim
theorem Pk.non (p : Pk K F H v .none) : v = .non := by
  rcases p with p | ⟨l, _, o⟩
  · cases p; rfl
  · exact o.elim
theorem Pk.list {ds : List D} (s : Same F H) (p : Pk K F H v (.list ds)) : ∃ a xs, v = .ref a ∧ Rd H a (.lst xs) ∧ xs.length ≤ line ∧ RpA K F xs ds := by
  rcases p with p | ⟨l, e, xs, h, z, r⟩
  · cases p with
    | lst h z r => exact ⟨_, _, rfl, Same.rd s h, z, r⟩
  · exact ⟨l, xs, e, .inl h, z, r⟩
theorem Pk.tuple {ds : List D} (s : Same F H) (p : Pk K F H v (.tuple ds)) : ∃ a xs, v = .ref a ∧ SqT K H a xs ∧ xs.length ≤ line ∧ RpA K F xs ds := by
  rcases p with p | ⟨l, e, o⟩
  · cases p with
    | tup h z r => exact ⟨_, _, rfl, Same.sqT s h, z, r⟩
  · exact o.elim
theorem Pk.dict {ds : List (D × D)} (s : Same F H) (p : Pk K F H v (.dict ds)) : ∃ a xs, v = .ref a ∧ Rd H a (.dK xs) ∧ xs.length ≤ line ∧ RpK K F xs ds := by
  rcases p with p | ⟨l, e, xs, h, z, r⟩
  · cases p with
    | dic h z r => exact ⟨_, _, rfl, Same.rd s h, z, r⟩
  · exact ⟨l, xs, e, .inl h, z, r⟩
/-- a new list, owned -/
theorem own_new {xs : List V} {ds : List D} {p : Addr} (s : Same F H) (hp : H p = none) (z : xs.length ≤ line) (r : RpA K F xs ds) :
    Ext F H F (upd H p (.lst xs)) ∧ Res K H0 H F (upd H p (.lst xs)) (.ref p) (.list ds) .ow := by
  have sm : Same H (upd H p (.lst xs)) := fun b o e => by rw [upd_ne (ne_of_none e hp)]; exact e
  exact ⟨⟨sm, Same.refl _, s.trans sm, fun _ _ e => .inl e⟩, p, rfl, hp, s.free hp, xs, upd_same, z, r⟩
theorem own_newD {xs : List (Key × V)} {ds : List (D × D)} {p : Addr} (s : Same F H) (hp : H p = none) (z : xs.length ≤ line) (r : RpK K F xs ds) :
    Ext F H F (upd H p (.dK xs)) ∧ Res K H0 H F (upd H p (.dK xs)) (.ref p) (.dict ds) .ow := by
  have sm : Same H (upd H p (.dK xs)) := fun b o e => by rw [upd_ne (ne_of_none e hp)]; exact e
  exact ⟨⟨sm, Same.refl _, s.trans sm, fun _ _ e => .inl e⟩, p, rfl, hp, s.free hp, xs, upd_same, z, r⟩
/-- a new tuple -/
theorem tup_new {xs : List V} {ds : List D} {p : Addr} (s : Same F H) (hp : H p = none) (z : xs.length ≤ line) (r : RpA K F xs ds) :
    Ext F H (upd F p (.tup xs)) (upd H p (.tup xs)) ∧ Rp K (upd F p (.tup xs)) (.ref p) (.tuple ds) := by
  have sm : Same H (upd H p (.tup xs)) := fun b o e => by rw [upd_ne (ne_of_none e hp)]; exact e
  have sf : Same F (upd F p (.tup xs)) := fun b o e => by rw [upd_ne (ne_of_none e (s.free hp))]; exact e
  refine ⟨⟨sm, sf, fun b o e => ?_, fun b o e => ?_⟩, .tup (.inl (.inl upd_same)) z (r.mono sf)⟩
  · by_cases hb : b = p
    · subst hb; rw [upd_same] at e ⊢; exact e
    · rw [upd_ne hb] at e ⊢; exact s _ _ e
  · by_cases hb : b = p
    · subst hb; exact .inr hp
    · rw [upd_ne hb] at e; exact .inl e
end
/-- a list that is read stands in the heap -/
theorem Inv.rdL {X : Cx} {pins : List (Addr × Obj)} {σ : L2.St} {H : Hp} {s : Shared} {a : Addr} {xs : List V} (I : L2.Inv X pins σ H s) (h : Rd H a (.lst xs)) :
    xs.length ≤ sizeLine ∧ ∃ (its : List Value) (n : Nat), Vals xs its ∧ xs.length = its.length ∧ s.heap.get? a = some { cls := .type "list", data := .seq its.toArray n } := by
  obtain ⟨z, its, n, r, e⟩ := h.ok I.hok
  exact ⟨z, its, n, r, r.length, e⟩
theorem rd_sq {K : PySem.W.Frag} {H : Hp} {a : Addr} {xs : List V} (h : Rd H a (.lst xs)) : SqL K H a xs := .inl h

/-! ### two operands -/
def Post (K : PySem.W.Frag) (H0 F H : Hp) (Q : VK) : Out (Kd × D) → Prop
  | .ok (k, r) => ∀ v F' H', Ext F H F' H' → Res K H0 H F' H' v r k → Q v H'
  | _ => False
def r2D (K : PySem.W.Frag) (H0 : Hp) (f : D → D → Out (Kd × D)) : R2 := fun x y H Q => ∃ F d e, Same F H ∧ Pk K F H x d ∧ Pk K F H y e ∧ Post K H0 F H Q (f d e)
def r1D (K : PySem.W.Frag) (H0 : Hp) (f : D → Out (Kd × D)) : V → Hp → VK → Prop := fun x H Q => ∃ F d, Same F H ∧ Pk K F H x d ∧ Post K H0 F H Q (f d)
def rsD (K : PySem.W.Frag) (H0 : Hp) (f : List D → Out (Kd × D)) : List V → Hp → VK → Prop := fun xs H Q => ∃ F ds, Same F H ∧ PkA K F H xs ds ∧ Post K H0 F H Q (f ds)
section
variable {X : Cx} {H0 : Hp}
theorem catL : OpR X (binaryOp .Add) (fun x y H Q => ∃ l b xs zs, x = .ref l ∧ y = .ref b ∧ Rd H l (.lst xs) ∧ Rd H b (.lst zs) ∧ xs.length + zs.length ≤ sizeLine ∧ ∀ p, H p = none → Q (.ref p) (upd H p (.lst (xs ++ zs)))) := by
  rintro pins s σ H x y v u Q I rx ry ⟨l, b, xs, zs, rfl, rfl, hl, hb, hz, q⟩
  cases rx; cases ry
  obtain ⟨_, its, n, r, el, e⟩ := Inv.rdL I hl
  obtain ⟨_, jts, m, r', el', e'⟩ := Inv.rdL I hb
  refine PySem.P.add_list e e' ?_ (by rw [List.size_toArray, List.size_toArray]; omega)
  rw [show its.toArray ++ jts.toArray = (its ++ jts).toArray by simp]
  refine ⟨.ref _, upd H s.heap.objs.size (.lst (xs ++ zs)), I.lnew (t' := s.toks) (r.append r') ?_, rfl, q _ I.fresh⟩
  rw [List.length_append]; exact hz
theorem or_add : OpR X (binaryOp .Add) (r2D X.K H0 (binD .add)) := by
  rintro pins s σ H x y v u Q I rx ry ⟨F, d, e, sm, px, py, h⟩
  cases d <;> cases e <;> try exact h.elim
  case int.int i j =>
    obtain rfl := px.int; obtain rfl := py.int
    exact op_add pins s σ H _ _ v u Q I rx ry ⟨i, j, rfl, rfl, h _ _ _ (Ext.refl sm) (.int _)⟩
  case str.str i j =>
    obtain rfl := px.str; obtain rfl := py.str
    simp only [binD] at h
    split at h
    · rename_i hl
      exact op_add_str pins s σ H _ _ v u Q I rx ry ⟨i, j, rfl, rfl, by rw [← line_eq]; exact hl, h _ _ _ (Ext.refl sm) (.str _)⟩
    · exact h.elim
  case list.list ds es =>
    obtain ⟨a, xs, rfl, hx, zx, rx'⟩ := px.list sm
    obtain ⟨b, ys, rfl, hy, zy, ry'⟩ := py.list sm
    simp only [binD] at h
    split at h
    · rename_i hl
      have hz : xs.length + ys.length ≤ line := by rw [rx'.length, ry'.length]; exact hl
      refine catL pins s σ H _ _ v u Q I rx ry ⟨a, b, xs, ys, rfl, rfl, hx, hy, by rw [← line_eq]; exact hz, fun p hp => ?_⟩
      obtain ⟨ex, rs⟩ := own_new (H0 := H0) sm hp (by rw [List.length_append]; exact hz) (rx'.append ry')
      exact h _ _ _ ex rs
    · exact h.elim
  case tuple.tuple ds es =>
    obtain ⟨a, xs, rfl, hx, zx, rx'⟩ := px.tuple sm
    obtain ⟨b, ys, rfl, hy, zy, ry'⟩ := py.tuple sm
    simp only [binD] at h
    split at h
    · rename_i hl
      have hz : xs.length + ys.length ≤ line := by rw [rx'.length, ry'.length]; exact hl
      refine op_catA pins s σ H _ _ v u Q I rx ry ⟨a, b, xs, ys, rfl, rfl, hx, hy, by rw [← line_eq]; exact hz, fun e => ?_, fun _ e => ?_, fun _ _ p hp => ?_⟩
      · subst e; cases rx'
        rcases py with py | ⟨_, _, o⟩
        · exact h _ _ _ (Ext.refl sm) (show Rp X.K F (.ref b) (.tuple ([] ++ es)) from py)
        · exact o.elim
      · subst e; cases ry'
        rcases px with px | ⟨_, _, o⟩
        · exact h _ _ _ (Ext.refl sm) (show Rp X.K F (.ref a) (.tuple (ds ++ [])) from by rw [List.append_nil]; exact px)
        · exact o.elim
      · obtain ⟨ex, rs⟩ := tup_new sm hp (by rw [List.length_append]; exact hz) (rx'.append ry')
        exact h _ _ _ ex rs
    · exact h.elim

/-- an operator on two ints -/
theorem or_ii {op : Operator} {f : D → D → Out (Kd × D)} {C : Int → Int → Prop} {G : Int → Int → Int} (ho : OpR X (binaryOp op) (rI C fun i j => .int (G i j)))
    (hf : ∀ d e, (∃ i j, d = .int i ∧ e = .int j ∧ C i j ∧ f d e = .ok (.fz, .int (G i j))) ∨ f d e = .stuck) : OpR X (binaryOp op) (r2D X.K H0 f) := by
  rintro pins s σ H x y v u Q I rx ry ⟨F, d, e, sm, px, py, h⟩
  rcases hf d e with ⟨i, j, rfl, rfl, c, q⟩ | q
  · obtain rfl := px.int; obtain rfl := py.int
    rw [q] at h
    exact ho pins s σ H _ _ v u Q I rx ry ⟨i, j, rfl, rfl, c, h _ _ _ (Ext.refl sm) (Rp.int _)⟩
  · rw [q] at h; exact h.elim
theorem rI_of {G : Int → Int → V} {f : Value → Value → Sem Value} (h : OpR X f (rI0 G)) : OpR X f (rI (fun _ _ => True) G) :=
  fun pins s σ H x y v u Q I rx ry ⟨i, j, a, b, _, q⟩ => h pins s σ H x y v u Q I rx ry ⟨i, j, a, b, q⟩
theorem two_log {i : Int} (h : i.natAbs < 2 ^ 4000) : i.natAbs.log2 < 4000 := PySem.Flt.log2_lt_of (by decide) h
theorem or_mulA : OpR X (binaryOp .Mult) (rI (fun i j => mulOk i j = true) fun i j => .int (i * j)) := by
  rintro pins s σ H x y v u Q I rx ry ⟨i, j, a, b, c, q⟩
  simp only [mulOk, Bool.or_eq_true, Bool.and_eq_true, decide_eq_true_eq] at c
  rcases c with (c | c) | c
  · exact op_mul pins s σ H x y v u Q I rx ry ⟨i, j, a, b, .inl c, q⟩
  · exact op_mul pins s σ H x y v u Q I rx ry ⟨i, j, a, b, .inr c, q⟩
  · refine op_mulW pins s σ H x y v u Q I rx ry ⟨i, j, a, b, ?_, q⟩
    have h1 := two_log c.1
    have h2 := two_log c.2
    unfold CMulW
    omega
/-- one case of an operator's table -/
theorem bin_sub : OpR X (binaryOp .Sub) (r2D X.K H0 (binD .sub)) := or_ii (rI_of op_sub) fun d e => by
  cases d <;> cases e <;> first | exact .inr rfl | exact .inl ⟨_, _, rfl, rfl, trivial, rfl⟩
theorem bin_and : OpR X (binaryOp .BitAnd) (r2D X.K H0 (binD .band)) := or_ii (rI_of op_and) fun d e => by
  cases d <;> cases e <;> first | exact .inr rfl | exact .inl ⟨_, _, rfl, rfl, trivial, rfl⟩
theorem bin_or : OpR X (binaryOp .BitOr) (r2D X.K H0 (binD .bor)) := or_ii (rI_of op_or) fun d e => by
  cases d <;> cases e <;> first | exact .inr rfl | exact .inl ⟨_, _, rfl, rfl, trivial, rfl⟩
theorem bin_xor : OpR X (binaryOp .BitXor) (r2D X.K H0 (binD .bxor)) := or_ii (rI_of op_xor) fun d e => by
  cases d <;> cases e <;> first | exact .inr rfl | exact .inl ⟨_, _, rfl, rfl, trivial, rfl⟩
theorem bin_mul : OpR X (binaryOp .Mult) (r2D X.K H0 (binD .mul)) := or_ii or_mulA fun d e => by
  cases d <;> cases e <;> first | exact .inr rfl | (rename_i i j; by_cases c : mulOk i j = true; exact .inl ⟨i, j, rfl, rfl, c, if_pos c⟩; exact .inr (if_neg c))
theorem bin_fdiv : OpR X (binaryOp .FloorDiv) (r2D X.K H0 (binD .fdiv)) := or_ii op_fdivW fun d e => by
  cases d <;> cases e <;> first | exact .inr rfl | (rename_i i j; by_cases c : 0 < j ∧ j.natAbs.log2 < 9000; exact .inl ⟨i, j, rfl, rfl, c, if_pos c⟩; exact .inr (if_neg c))
theorem bin_mod : OpR X (binaryOp .Mod) (r2D X.K H0 (binD .mod)) := or_ii op_mod fun d e => by
  cases d <;> cases e <;> first | exact .inr rfl | (rename_i i j; by_cases c : 0 < j; exact .inl ⟨i, j, rfl, rfl, c, if_pos c⟩; exact .inr (if_neg c))
theorem bin_pow : OpR X (binaryOp .Pow) (r2D X.K H0 (binD .pow)) := or_ii op_pow fun d e => by
  cases d <;> cases e <;> first | exact .inr rfl | (rename_i i j; by_cases c : 0 ≤ j ∧ j ≤ 1000000 ∧ i.natAbs < 2 ^ 64; exact .inl ⟨i, j, rfl, rfl, c, if_pos c⟩; exact .inr (if_neg c))
theorem bin_shl : OpR X (binaryOp .LShift) (r2D X.K H0 (binD .shl)) := or_ii op_shl fun d e => by
  cases d <;> cases e <;> first | exact .inr rfl | (rename_i i j; by_cases c : 0 ≤ j ∧ j ≤ 1000000 ∧ i.natAbs < 2 ^ 64; exact .inl ⟨i, j, rfl, rfl, c, if_pos c⟩; exact .inr (if_neg c))
theorem bin_shr : OpR X (binaryOp .RShift) (r2D X.K H0 (binD .shr)) := or_ii op_shr fun d e => by
  cases d <;> cases e <;> first | exact .inr rfl | (rename_i i j; by_cases c : 0 ≤ j; exact .inl ⟨i, j, rfl, rfl, c, if_pos c⟩; exact .inr (if_neg c))
theorem bin_ok {o : Bop} {op : Operator} (h : opIs o op = true) : OpR X (binaryOp op) (r2D X.K H0 (binD o)) := by
  cases o
  case add => cases op <;> first | exact absurd h Bool.false_ne_true | exact or_add
  case sub => cases op <;> first | exact absurd h Bool.false_ne_true | exact bin_sub
  case mul => cases op <;> first | exact absurd h Bool.false_ne_true | exact bin_mul
  case fdiv => cases op <;> first | exact absurd h Bool.false_ne_true | exact bin_fdiv
  case mod => cases op <;> first | exact absurd h Bool.false_ne_true | exact bin_mod
  case pow => cases op <;> first | exact absurd h Bool.false_ne_true | exact bin_pow
  case shl => cases op <;> first | exact absurd h Bool.false_ne_true | exact bin_shl
  case shr => cases op <;> first | exact absurd h Bool.false_ne_true | exact bin_shr
  case band => cases op <;> first | exact absurd h Bool.false_ne_true | exact bin_and
  case bor => cases op <;> first | exact absurd h Bool.false_ne_true | exact bin_or
  case bxor => cases op <;> first | exact absurd h Bool.false_ne_true | exact bin_xor

/-! ### comparisons -/
mutual
theorem Rp.dp {K : PySem.W.Frag} {F : Hp} : ∀ {d : D} {v : V}, PyData.canLay0 d = true → Rp K F v d → Dp K F v d
  | .none, _, _, .non => .non
  | .bool _, _, _, .bl b => .bl b
  | .int _, _, _, .int b => .int b
  | .str _, _, _, .str b => .str b
  | .list _, _, c, .lst h _ r => .lst (rd_sq h) (RpA.dp (by simpa [PyData.canLay0] using c) r)
  | .tuple _, _, c, .tup h _ r => .tup h (RpA.dp (by simpa [PyData.canLay0] using c) r)
  | .dict _, _, c, _ => by simp [PyData.canLay0] at c
theorem RpA.dp {K : PySem.W.Frag} {F : Hp} : ∀ {d : List D} {v : List V}, PyData.canLayAll0 d = true → RpA K F v d → DpAll K F v d
  | [], _, _, .nil => .nil
  | x :: xs, _, c, .cons a r => by
    have c' : PyData.canLay0 x = true ∧ PyData.canLayAll0 xs = true := by simpa [PyData.canLayAll0] using c
    exact .cons (Rp.dp c'.1 a) (RpA.dp c'.2 r)
end
mutual
theorem Dp.mono {K : PySem.W.Frag} {F H : Hp} (e : Same F H) : ∀ {d : D} {v : V}, Dp K F v d → Dp K H v d
  | .none, _, .non => .non
  | .bool _, _, .bl b => .bl b
  | .int _, _, .int b => .int b
  | .str _, _, .str b => .str b
  | .list _, _, .lst h r => .lst (Same.sqL e h) (DpAll.mono e r)
  | .tuple _, _, .tup h r => .tup (Same.sqT e h) (DpAll.mono e r)
theorem DpAll.mono {K : PySem.W.Frag} {F H : Hp} (e : Same F H) : ∀ {d : List D} {v : List V}, DpAll K F v d → DpAll K H v d
  | [], _, .nil => .nil
  | _ :: _, _, .cons a r => .cons (Dp.mono e a) (DpAll.mono e r)
end
theorem Pk.dp {K : PySem.W.Frag} {F H : Hp} {v : V} {d : D} (e : Same F H) (c : SeqAt.shaped d = true) (p : Pk K F H v d) : Dp K H v d := by
  have c' := SeqAt.canLay_of_shaped c
  rcases p with p | ⟨l, rfl, o⟩
  · exact Dp.mono e (p.dp c')
  · cases d with
    | list ds =>
      obtain ⟨vs, h, _, r⟩ := o
      exact .lst (.inl (.inl h)) (DpAll.mono e (r.dp (by simpa [PyData.canLay0] using c')))
    | dict ds => simp [PyData.canLay0] at c'
    | _ => exact o.elim
theorem cmp_eq (hu : X.A.units + 64 < cLine) : OpR X (compareOp .Eq) (r2D X.K H0 (cmpD .eq)) := by
  rintro pins s σ H x y v u Q I rx ry ⟨F, d, e, sm, px, py, h⟩
  by_cases c : (SeqAt.shaped d && SeqAt.shaped e) = true
  · have h' : Post X.K H0 F H Q (.ok (.fz, .bool (PyData.eqv d e))) := by
      have q : cmpD .eq d e = .ok (.fz, .bool (PyData.eqv d e)) := by unfold cmpD; exact if_pos c
      rw [← q]; exact h
    rw [Bool.and_eq_true] at c
    exact op_eqD hu pins s σ H _ _ v u Q I rx ry ⟨d, e, px.dp sm c.1, py.dp sm c.2, c.1, c.2, h' _ _ _ (Ext.refl sm) (Rp.bl _)⟩
  · have q : cmpD .eq d e = .stuck := by unfold cmpD; exact if_neg c
    rw [q] at h; exact h.elim
theorem cmp_ne (hu : X.A.units + 64 < cLine) : OpR X (compareOp .NotEq) (r2D X.K H0 (cmpD .ne)) := by
  rintro pins s σ H x y v u Q I rx ry ⟨F, d, e, sm, px, py, h⟩
  by_cases c : (SeqAt.shaped d && SeqAt.shaped e) = true
  · have h' : Post X.K H0 F H Q (.ok (.fz, .bool (!PyData.eqv d e))) := by
      have q : cmpD .ne d e = .ok (.fz, .bool (!PyData.eqv d e)) := by unfold cmpD; exact if_pos c
      rw [← q]; exact h
    rw [Bool.and_eq_true] at c
    exact op_neD hu pins s σ H _ _ v u Q I rx ry ⟨d, e, px.dp sm c.1, py.dp sm c.2, c.1, c.2, h' _ _ _ (Ext.refl sm) (Rp.bl _)⟩
  · have q : cmpD .ne d e = .stuck := by unfold cmpD; exact if_neg c
    rw [q] at h; exact h.elim
theorem cmp_ii {op : CmpOp} {f : D → D → Out (Kd × D)} {G : Int → Int → Bool} (ho : OpR X (compareOp op) (rI0 fun i j => .bl (G i j)))
    (hf : ∀ d e, (∃ i j, d = .int i ∧ e = .int j ∧ f d e = .ok (.fz, .bool (G i j))) ∨ f d e = .stuck) : OpR X (compareOp op) (r2D X.K H0 f) := by
  rintro pins s σ H x y v u Q I rx ry ⟨F, d, e, sm, px, py, h⟩
  rcases hf d e with ⟨i, j, rfl, rfl, q⟩ | q
  · obtain rfl := px.int; obtain rfl := py.int
    rw [q] at h
    exact ho pins s σ H _ _ v u Q I rx ry ⟨i, j, rfl, rfl, h _ _ _ (Ext.refl sm) (Rp.bl _)⟩
  · rw [q] at h; exact h.elim
theorem cmp_lt : OpR X (compareOp .Lt) (r2D X.K H0 (cmpD .lt)) := cmp_ii op_lt fun d e => by
  cases d <;> cases e <;> first | exact .inr rfl | exact .inl ⟨_, _, rfl, rfl, rfl⟩
theorem cmp_le : OpR X (compareOp .LtE) (r2D X.K H0 (cmpD .le)) := cmp_ii op_le fun d e => by
  cases d <;> cases e <;> first | exact .inr rfl | exact .inl ⟨_, _, rfl, rfl, rfl⟩
theorem cmp_gt : OpR X (compareOp .Gt) (r2D X.K H0 (cmpD .gt)) := cmp_ii op_gt fun d e => by
  cases d <;> cases e <;> first | exact .inr rfl | exact .inl ⟨_, _, rfl, rfl, rfl⟩
theorem cmp_ge : OpR X (compareOp .GtE) (r2D X.K H0 (cmpD .ge)) := cmp_ii op_ge fun d e => by
  cases d <;> cases e <;> first | exact .inr rfl | exact .inl ⟨_, _, rfl, rfl, rfl⟩
def isNonD : D → Bool
  | .none => true
  | _ => false
theorem Pk.isN {K : PySem.W.Frag} {F H : Hp} {v : V} {d : D} (p : Pk K F H v d) : decide (v = .non) = isNonD d := by
  cases d with
  | none => rw [p.non]; rfl
  | bool b => rw [p.bl]; rfl
  | int b => rw [p.int]; rfl
  | str b => rw [p.str]; rfl
  | list b =>
    rcases p with p | ⟨l, rfl, o⟩
    · cases p; rfl
    · rfl
  | tuple b =>
    rcases p with p | ⟨l, rfl, o⟩
    · cases p; rfl
    · rfl
  | dict b =>
    rcases p with p | ⟨l, rfl, o⟩
    · cases p; rfl
    · rfl
theorem cmp_isN : OpR X (compareOp .Is) (r2D X.K H0 (cmpD .isN)) := by
  rintro pins s σ H x y v u Q I rx ry ⟨F, d, e, sm, px, py, h⟩
  have hy : e = .none := by cases d <;> cases e <;> first | rfl | exact h.elim
  subst hy
  obtain rfl := py.non
  refine op_isN pins s σ H _ _ v u Q I rx ry ⟨rfl, ?_⟩
  rw [px.isN]
  cases d <;> exact h _ _ _ (Ext.refl sm) (Rp.bl _)
theorem cmp_notN : OpR X (compareOp .IsNot) (r2D X.K H0 (cmpD .notN)) := by
  rintro pins s σ H x y v u Q I rx ry ⟨F, d, e, sm, px, py, h⟩
  have hy : e = .none := by cases d <;> cases e <;> first | rfl | exact h.elim
  subst hy
  obtain rfl := py.non
  refine op_notN pins s σ H _ _ v u Q I rx ry ⟨rfl, ?_⟩
  rw [px.isN]
  cases d <;> exact h _ _ _ (Ext.refl sm) (Rp.bl _)
end
end VL
namespace VL
open PySem PySem.Spec L2

/-! ### flat values, keys -/
section
variable {K : PySem.W.Frag} {F H H0 : Hp}
theorem flat_of {v : V} {d : D} (f : flatD d = true) (p : Pk K F H v d) : flatV v = true := by
  cases d with
  | none => rw [p.non]; rfl
  | bool b => rw [p.bl]; rfl
  | int b => rw [p.int]; rfl
  | str b => rw [p.str]; rfl
  | _ => cases f
theorem eq_flat {v w : V} {d e : D} (f : flatD d = true) (g : flatD e = true) (p : Pk K F H v d) (q : Pk K F H w e) : eqV v w = PyData.eqv d e := by
  cases d with
  | none => rw [p.non]; cases e with
    | none => rw [q.non]; simp [eqV, PyData.eqv]
    | bool b => rw [q.bl]; simp [eqV, PyData.eqv]
    | int b => rw [q.int]; simp [eqV, PyData.eqv]
    | str b => rw [q.str]; simp [eqV, PyData.eqv]
    | _ => cases g
  | bool a => rw [p.bl]; cases e with
    | none => rw [q.non]; simp [eqV, PyData.eqv]
    | bool b => rw [q.bl]; simp [eqV, PyData.eqv]
    | int b => rw [q.int]; simp [eqV, PyData.eqv]
    | str b => rw [q.str]; simp [eqV, PyData.eqv]
    | _ => cases g
  | int a => rw [p.int]; cases e with
    | none => rw [q.non]; simp [eqV, PyData.eqv]
    | bool b => rw [q.bl]; simp [eqV, PyData.eqv]
    | int b => rw [q.int]; simp [eqV, PyData.eqv]
    | str b => rw [q.str]; simp [eqV, PyData.eqv]
    | _ => cases g
  | str a => rw [p.str]; cases e with
    | none => rw [q.non]; simp [eqV, PyData.eqv]
    | bool b => rw [q.bl]; simp [eqV, PyData.eqv]
    | int b => rw [q.int]; simp [eqV, PyData.eqv]
    | str b => rw [q.str]; simp [eqV, PyData.eqv]
    | _ => cases g
  | _ => cases f
theorem all_flat : ∀ {vs : List V} {ds : List D}, ds.all flatD = true → RpA K F vs ds → vs.all flatV = true
  | _, _, _, .nil => rfl
  | _, d :: ds, f, .cons a r => by
    rw [List.all_cons, Bool.and_eq_true] at f ⊢
    exact ⟨flat_of (H := F) f.1 (.inl a), all_flat f.2 r⟩
theorem in_flat {v : V} {d : D} (f : flatD d = true) (p : Pk K F H v d) : ∀ {vs : List V} {ds : List D}, ds.all flatD = true → RpA K F vs ds → inV v vs = inD d ds
  | _, _, _, .nil => rfl
  | _, e :: ds, g, .cons a r => by
    rw [List.all_cons, Bool.and_eq_true] at g
    have ih := in_flat f p g.2 r
    unfold inV inD at ih ⊢
    rw [List.any_cons, List.any_cons, ih, eq_flat g.1 f (.inl a) p]
theorem key_of {v : V} {d : D} (f : keyD d = true) (p : Pk K F H v d) : ∃ k, v = kV k ∧ d = kD k := by
  cases d with
  | int b => exact ⟨.inl b, p.int, rfl⟩
  | str b => exact ⟨.inr b, p.str, rfl⟩
  | _ => cases f
theorem eqv_key (a b : Key) : PyData.eqv (kD a) (kD b) = decide (a = b) := by
  cases a <;> cases b <;> simp [kD, PyData.eqv] <;> exact Bool.beq_eq_decide_eq _ _
theorem val_of (k : Key) : ∀ {es : List (Key × V)} {kvs : List (D × D)}, RpK K F es kvs →
    (valV es k = none ∧ getD kvs (kD k) = none ∧ hasD kvs (kD k) = false) ∨ ∃ v d, valV es k = some v ∧ getD kvs (kD k) = some d ∧ Rp K F v d ∧ hasD kvs (kD k) = true
  | _, _, .nil => .inl ⟨rfl, rfl, rfl⟩
  | _, _, .cons (k := j) (v := v) (d := d) (es := es) (kvs := kvs) a r => by
    by_cases e : j = k
    · subst e
      refine .inr ⟨v, d, valV_pos rfl, ?_, a, ?_⟩
      · simp [getD, eqv_key]
      · simp [hasD, eqv_key]
    · rcases val_of k r with ⟨h1, h2, h3⟩ | ⟨w, d', h1, h2, h3, h4⟩
      · refine .inl ⟨by rw [valV_neg e]; exact h1, ?_, ?_⟩
        · simpa [getD, eqv_key, e] using h2
        · simpa [hasD, eqv_key, e] using h3
      · refine .inr ⟨w, d', by rw [valV_neg e]; exact h1, ?_, h3, ?_⟩
        · simpa [getD, eqv_key, e] using h2
        · simpa [hasD, eqv_key, e] using h4
theorem RpK.repl (k : Key) {y : V} {d : D} (q : Rp K F y d) : ∀ {es : List (Key × V)} {kvs : List (D × D)}, RpK K F es kvs →
    RpK K F (es.map fun kv => if kv.1 = k then (kv.1, y) else kv) (kvs.map fun p => if PyData.eqv p.1 (kD k) then (p.1, d) else p)
  | _, _, .nil => .nil
  | _, _, .cons (k := j) a r => by
    rw [List.map_cons, List.map_cons]
    by_cases e : j = k
    · have h1 : PyData.eqv (kD j) (kD k) = true := by rw [eqv_key]; exact decide_eq_true e
      simp only [e, if_true, h1] at *
      simp only [h1, if_true]
      exact .cons q (RpK.repl k q r)
    · have h1 : PyData.eqv (kD j) (kD k) = false := by rw [eqv_key]; exact decide_eq_false e
      simp only [e, if_false, h1]
      exact .cons a (RpK.repl k q r)
theorem RpK.snoc (k : Key) {y : V} {d : D} (q : Rp K F y d) : ∀ {es : List (Key × V)} {kvs : List (D × D)}, RpK K F es kvs → RpK K F (es ++ [(k, y)]) (kvs ++ [(kD k, d)])
  | _, _, .nil => .cons q .nil
  | _, _, .cons a r => .cons a (RpK.snoc k q r)
theorem RpK.put (k : Key) {y : V} {d : D} (q : Rp K F y d) {es : List (Key × V)} {kvs : List (D × D)} (r : RpK K F es kvs) : RpK K F (putK es k y) (putD kvs (kD k) d) := by
  have hh : (es.any fun kv => decide (kv.1 = k)) = hasD kvs (kD k) := by
    rw [valV_any]
    rcases val_of k r with ⟨h1, _, h3⟩ | ⟨w, d', h1, _, _, h3⟩
    · rw [h1, h3]; rfl
    · rw [h1, h3]; rfl
  unfold putK putD
  rw [hh]
  split
  · exact r.repl k q
  · exact r.snoc k q
theorem putD_len (kvs : List (D × D)) (k v : D) : (putD kvs k v).length ≤ kvs.length + 1 := by
  unfold putD
  split
  · rw [List.length_map]; omega
  · rw [List.length_append]; exact Nat.le_refl _
end

/-! ### in, not in -/
section
variable {X : Cx} {H0 : Hp}
theorem cmp_inn (hu : X.A.units + 1 < cLine) : OpR X (compareOp .In) (r2D X.K H0 (cmpD .inn)) := by
  rintro pins s σ H x y v u Q I rx ry ⟨F, d, e, sm, px, py, h⟩
  cases e with
  | list ds =>
    have q : cmpD .inn d (.list ds) = if (flatD d && ds.all flatD) = true then .ok (.fz, .bool (inD d ds)) else .stuck := by cases d <;> rfl
    rw [q] at h
    split at h
    · rename_i c
      rw [Bool.and_eq_true] at c
      obtain ⟨a, xs, rfl, hx, _, r⟩ := py.list sm
      refine op_in_seq pins s σ H _ _ v u Q I rx ry ⟨a, xs, rfl, .inl (rd_sq hx), flat_of c.1 px, all_flat c.2 r, ?_⟩
      exact h _ _ _ (Ext.refl sm) (show Rp X.K F (.bl (inV x xs)) (.bool (inD d ds)) from by rw [in_flat c.1 px c.2 r]; exact .bl _)
    · exact h.elim
  | tuple ds =>
    have q : cmpD .inn d (.tuple ds) = if (flatD d && ds.all flatD) = true then .ok (.fz, .bool (inD d ds)) else .stuck := by cases d <;> rfl
    rw [q] at h
    split at h
    · rename_i c
      rw [Bool.and_eq_true] at c
      obtain ⟨a, xs, rfl, hx, _, r⟩ := py.tuple sm
      refine op_in_seq pins s σ H _ _ v u Q I rx ry ⟨a, xs, rfl, .inr hx, flat_of c.1 px, all_flat c.2 r, ?_⟩
      exact h _ _ _ (Ext.refl sm) (show Rp X.K F (.bl (inV x xs)) (.bool (inD d ds)) from by rw [in_flat c.1 px c.2 r]; exact .bl _)
    · exact h.elim
  | dict ds =>
    have q : cmpD .inn d (.dict ds) = if keyD d = true then .ok (.fz, .bool (hasD ds d)) else .stuck := by cases d <;> rfl
    rw [q] at h
    split at h
    · rename_i c
      obtain ⟨a, xs, rfl, hx, _, r⟩ := py.dict sm
      obtain ⟨k, rfl, rfl⟩ := key_of c px
      obtain rfl : u = Value.ref a := ry
      have g : DGet H a (kV k) (valV xs k) := .inl ⟨xs, k, hx, rfl, rfl⟩
      refine d_in hu I g rx fun s3 I3 => ⟨.bl (valV xs k).isSome, H, I3, rfl, ?_⟩
      refine h _ _ _ (Ext.refl sm) (show Rp X.K F (.bl (valV xs k).isSome) (.bool (hasD ds (kD k))) from ?_)
      rcases val_of k r with ⟨h1, _, h3⟩ | ⟨w, d', h1, _, _, h3⟩ <;> (rw [h1, h3]; exact .bl _)
    · exact h.elim
  | none => cases d <;> exact h.elim
  | bool _ => cases d <;> exact h.elim
  | int _ => cases d <;> exact h.elim
  | str _ => cases d <;> exact h.elim
theorem cmp_nin (hu : X.A.units + 1 < cLine) : OpR X (compareOp .NotIn) (r2D X.K H0 (cmpD .nin)) := by
  rintro pins s σ H x y v u Q I rx ry ⟨F, d, e, sm, px, py, h⟩
  cases e with
  | list ds =>
    have q : cmpD .nin d (.list ds) = if (flatD d && ds.all flatD) = true then .ok (.fz, .bool (!inD d ds)) else .stuck := by cases d <;> rfl
    rw [q] at h
    split at h
    · rename_i c
      rw [Bool.and_eq_true] at c
      obtain ⟨a, xs, rfl, hx, _, r⟩ := py.list sm
      refine op_notIn_seq pins s σ H _ _ v u Q I rx ry ⟨a, xs, rfl, .inl (rd_sq hx), flat_of c.1 px, all_flat c.2 r, ?_⟩
      exact h _ _ _ (Ext.refl sm) (show Rp X.K F (.bl (!inV x xs)) (.bool (!inD d ds)) from by rw [in_flat c.1 px c.2 r]; exact .bl _)
    · exact h.elim
  | tuple ds =>
    have q : cmpD .nin d (.tuple ds) = if (flatD d && ds.all flatD) = true then .ok (.fz, .bool (!inD d ds)) else .stuck := by cases d <;> rfl
    rw [q] at h
    split at h
    · rename_i c
      rw [Bool.and_eq_true] at c
      obtain ⟨a, xs, rfl, hx, _, r⟩ := py.tuple sm
      refine op_notIn_seq pins s σ H _ _ v u Q I rx ry ⟨a, xs, rfl, .inr hx, flat_of c.1 px, all_flat c.2 r, ?_⟩
      exact h _ _ _ (Ext.refl sm) (show Rp X.K F (.bl (!inV x xs)) (.bool (!inD d ds)) from by rw [in_flat c.1 px c.2 r]; exact .bl _)
    · exact h.elim
  | dict ds =>
    have q : cmpD .nin d (.dict ds) = if keyD d = true then .ok (.fz, .bool (!hasD ds d)) else .stuck := by cases d <;> rfl
    rw [q] at h
    split at h
    · rename_i c
      obtain ⟨a, xs, rfl, hx, _, r⟩ := py.dict sm
      obtain ⟨k, rfl, rfl⟩ := key_of c px
      obtain rfl : u = Value.ref a := ry
      have g : DGet H a (kV k) (valV xs k) := .inl ⟨xs, k, hx, rfl, rfl⟩
      refine d_notIn hu I g rx fun s3 I3 => ⟨.bl (!(valV xs k).isSome), H, I3, rfl, ?_⟩
      refine h _ _ _ (Ext.refl sm) (show Rp X.K F (.bl (!(valV xs k).isSome)) (.bool (!hasD ds (kD k))) from ?_)
      rcases val_of k r with ⟨h1, _, h3⟩ | ⟨w, d', h1, _, _, h3⟩ <;> (rw [h1, h3]; exact .bl _)
    · exact h.elim
  | none => cases d <;> exact h.elim
  | bool _ => cases d <;> exact h.elim
  | int _ => cases d <;> exact h.elim
  | str _ => cases d <;> exact h.elim
theorem cmp_ok {o : Cop} {op : CmpOp} (hu : X.A.units + 64 < cLine) (h : copIs o op = true) : OpR X (compareOp op) (r2D X.K H0 (cmpD o)) := by
  cases o
  case eq => cases op <;> first | exact absurd h Bool.false_ne_true | exact cmp_eq hu
  case ne => cases op <;> first | exact absurd h Bool.false_ne_true | exact cmp_ne hu
  case lt => cases op <;> first | exact absurd h Bool.false_ne_true | exact cmp_lt
  case le => cases op <;> first | exact absurd h Bool.false_ne_true | exact cmp_le
  case gt => cases op <;> first | exact absurd h Bool.false_ne_true | exact cmp_gt
  case ge => cases op <;> first | exact absurd h Bool.false_ne_true | exact cmp_ge
  case isN => cases op <;> first | exact absurd h Bool.false_ne_true | exact cmp_isN
  case notN => cases op <;> first | exact absurd h Bool.false_ne_true | exact cmp_notN
  case inn => cases op <;> first | exact absurd h Bool.false_ne_true | exact cmp_inn (by omega)
  case nin => cases op <;> first | exact absurd h Bool.false_ne_true | exact cmp_nin (by omega)

/-! ### items, slices -/
theorem atI_rp {K : PySem.W.Frag} {F : Hp} {vs : List V} {ds : List D} {i : Int} {d : D} (r : RpA K F vs ds) (h : atI ds i = some d) : ∃ v, atI vs i = some v ∧ Rp K F v d := by
  unfold atI at h ⊢
  rw [← r.length] at h
  cases q : ixN vs.length i with
  | none => rw [q] at h; simp at h
  | some j =>
    rw [q] at h
    obtain ⟨v, hv, rv⟩ := r.get (i := j) (by simpa using h)
    exact ⟨v, by simpa using hv, rv⟩
theorem ix_ok (hu : X.A.units + 1 < cLine) : IxR X (r2D X.K H0 ixD) := by
  rintro value slice pins s σ H x y v u Q I rx ry ⟨F, d, e, sm, px, py, h⟩ hs
  cases d with
  | list ds =>
    cases e with
    | int i =>
      obtain ⟨a, xs, rfl, hx, _, r⟩ := px.list sm
      obtain rfl := py.int
      simp only [ixD] at h
      split at h
      · rename_i d hd
        obtain ⟨w, hw, rw'⟩ := atI_rp r hd
        exact ix_list value slice pins s σ H _ _ v u Q I rx ry ⟨a, xs, i, w, rfl, rfl, rd_sq hx, hw, h _ _ _ (Ext.refl sm) rw'⟩ hs
      · exact h.elim
    | _ => exact h.elim
  | tuple ds =>
    cases e with
    | int i =>
      obtain ⟨a, xs, rfl, hx, _, r⟩ := px.tuple sm
      obtain rfl := py.int
      simp only [ixD] at h
      split at h
      · rename_i d hd
        obtain ⟨w, hw, rw'⟩ := atI_rp r hd
        exact ix_tup value slice pins s σ H _ _ v u Q I rx ry ⟨a, xs, i, w, rfl, rfl, hx, hw, h _ _ _ (Ext.refl sm) rw'⟩ hs
      · exact h.elim
    | _ => exact h.elim
  | dict ds =>
    have q : ixD (.dict ds) e = if keyD e = true then (match getD ds e with | some d => .ok (.fz, d) | none => .stuck) else .stuck := by cases e <;> rfl
    rw [q] at h
    split at h
    · rename_i c
      obtain ⟨a, xs, rfl, hx, _, r⟩ := px.dict sm
      obtain ⟨k, rfl, rfl⟩ := key_of c py
      obtain rfl : v = Value.ref a := rx
      rcases val_of k r with ⟨h1, h2, h3⟩ | ⟨w, d', h1, h2, h3, h4⟩
      · rw [h2] at h; exact h.elim
      · rw [h2] at h
        have g : DGet H a (kV k) (some w) := .inl ⟨xs, k, hx, rfl, h1.symm⟩
        refine PyProof.Rows.tail_any (dict_typeIs I g) PySem.F.slot_dict_getitem.lookup ?_ hs
        exact d_getItem hu I g ry fun w' s3 I3 rw' => ⟨w, H, I3, rw', h _ _ _ (Ext.refl sm) h3⟩
    · exact h.elim
  | none => exact h.elim
  | bool _ => exact h.elim
  | int _ => exact h.elim
  | str _ => exact h.elim
theorem cut_rp {K : PySem.W.Frag} {F : Hp} {vs : List V} {ds : List D} (r : RpA K F vs ds) (lo hi : Option Int) : RpA K F (cutV vs lo hi) (cutD ds lo hi) := by
  unfold cutV cutD
  rw [r.length]
  exact (r.drop _).take _
def rSlD (K : PySem.W.Frag) (H0 : Hp) : V → Option Int → Option Int → Hp → VK → Prop := fun x lo hi H Q => ∃ F d, Same F H ∧ Pk K F H x d ∧ Post K H0 F H Q (slD d lo hi)
theorem sl_ok : SlR X (rSlD X.K H0) := by
  rintro pins s σ H x v vl vu lo hi sl Q I rx hsl hl hh ⟨F, d, sm, px, h⟩
  cases d with
  | list ds =>
    obtain ⟨a, xs, rfl, hx, z, r⟩ := px.list sm
    refine sl_list pins s σ H _ v vl vu lo hi sl Q I rx hsl hl hh ⟨a, xs, rfl, rd_sq hx, fun p hp => ?_⟩
    obtain ⟨ex, rs⟩ := own_new (H0 := H0) sm hp (Nat.le_trans (cutV_length xs lo hi) z) (cut_rp r lo hi)
    exact h _ _ _ ex rs
  | tuple ds =>
    obtain ⟨a, xs, rfl, hx, z, r⟩ := px.tuple sm
    refine sl_tupA pins s σ H _ v vl vu lo hi sl Q I rx hsl hl hh ⟨a, xs, rfl, hx, fun e => ?_, fun _ p hp => ?_⟩
    · have q : cutD ds lo hi = ds := by
        unfold cutD
        rw [← r.length, e.1, e.2, List.drop_zero, Nat.sub_zero, r.length, List.take_length]
      have h' : Post X.K H0 F H Q (.ok (.fz, .tuple ds)) := by rw [← q]; exact h
      rcases px with px | ⟨_, _, o⟩
      · exact h' _ _ _ (Ext.refl sm) px
      · exact o.elim
    · obtain ⟨ex, rs⟩ := tup_new sm hp (Nat.le_trans (cutV_length xs lo hi) z) (cut_rp r lo hi)
      exact h _ _ _ ex rs
  | _ => exact h.elim
end
end VL
namespace VL
open PySem PySem.Spec L2

theorem sortI_unique {ns ms : List Int} (p : ms.Perm ns) (h : ms.Pairwise (· ≤ ·)) : ms = sortI ns := by
  refine List.Perm.eq_of_pairwise (le := (· ≤ ·)) (fun a b _ _ h1 h2 => Int.le_antisymm h1 h2) h ?_ (p.trans (List.mergeSort_perm ns _).symm)
  have q := List.pairwise_mergeSort (le := fun (a b : Int) => decide (a ≤ b)) (fun a b c h1 h2 => by simp only [decide_eq_true_eq] at *; omega) (fun a b => by simp only [Bool.or_eq_true, decide_eq_true_eq]; omega) ns
  exact q.imp fun h => of_decide_eq_true h
theorem sortI_len (ns : List Int) : (sortI ns).length = ns.length := (List.mergeSort_perm ns _).length_eq
section
variable {K : PySem.W.Frag} {F H : Hp}
theorem ints_rp : ∀ {vs : List V} {ds : List D} {ns : List Int}, RpA K F vs ds → intsOf ds = some ns → vs = ns.map V.int
  | _, _, _, .nil, e => by simp [intsOf] at e; subst e; rfl
  | _, d :: ds, ns, .cons a r, e => by
    cases d with
    | int i =>
      simp only [intsOf, Option.map_eq_some_iff] at e
      obtain ⟨ms, h, rfl⟩ := e
      cases a
      rw [List.map_cons, ints_rp r h]
    | _ => cases e
theorem rp_ints : ∀ ns : List Int, RpA K F (ns.map V.int) (ns.map .int)
  | [] => .nil
  | i :: r => .cons (.int i) (rp_ints r)
theorem bools_rp : ∀ {vs : List V} {ds : List D} {ns : List Bool}, RpA K F vs ds → boolsOf ds = some ns → vs = ns.map V.bl
  | _, _, _, .nil, e => by simp [boolsOf] at e; subst e; rfl
  | _, d :: ds, ns, .cons a r, e => by
    cases d with
    | bool i =>
      simp only [boolsOf, Option.map_eq_some_iff] at e
      obtain ⟨ms, h, rfl⟩ := e
      cases a
      rw [List.map_cons, bools_rp r h]
    | _ => cases e
theorem keys_rp : ∀ {es : List (Key × V)} {kvs : List (D × D)} {ns : List Int}, RpK K F es kvs → intsOf (kvs.map (·.1)) = some ns → es.map (·.1) = ns.map Sum.inl
  | _, _, _, .nil, e => by simp [intsOf] at e; subst e; rfl
  | _, _, ns, .cons (k := k) (kvs := kvs) a r, e => by
    cases k with
    | inl i =>
      rw [List.map_cons] at e
      simp only [kD, intsOf, Option.map_eq_some_iff] at e
      obtain ⟨ms, h, rfl⟩ := e
      rw [List.map_cons, List.map_cons, keys_rp r h]
    | inr x => rw [List.map_cons] at e; cases e
theorem pairs_rp (s : Same F H) : ∀ {vs : List V} {ds : List D} {kvs : List (D × D)}, RpA K F vs ds → pairsOf ds = some kvs →
    ∃ (ps : List Addr) (es : List (Key × V)), vs = ps.map V.ref ∧ Paired (fun p kv => SqT K H p [kV kv.1, kv.2]) ps es ∧ RpK K F es kvs
  | _, _, _, .nil, e => by simp [pairsOf] at e; subst e; exact ⟨[], [], rfl, .nil, .nil⟩
  | _, d :: ds, kvs, .cons a r, e => by
    cases d with
    | tuple xs =>
      match xs, a, e with
      | [k, v], a, e =>
        simp only [pairsOf] at e
        split at e
        · rename_i hk
          simp only [Option.map_eq_some_iff] at e
          obtain ⟨ms, h, rfl⟩ := e
          cases a with
          | tup hs z rr =>
            cases rr with
            | cons a1 rr =>
              cases rr with
              | cons a2 rr =>
                cases rr
                obtain ⟨kk, rfl, rfl⟩ := key_of (H := F) hk (.inl a1)
                obtain ⟨ps, es, rfl, hp, hr⟩ := pairs_rp s r h
                exact ⟨_ :: ps, (kk, _) :: es, rfl, .cons (Same.sqT s hs) hp, .cons a2 hr⟩
        · cases e
      | [], a, e => cases e
      | [_], a, e => cases e
      | _ :: _ :: _ :: _, a, e => cases e
    | _ => cases e
theorem merge_rp : ∀ {es : List (Key × V)} {kvs : List (D × D)} {as : List (Key × V)} {bs : List (D × D)}, RpK K F es kvs → RpK K F as bs → RpK K F (mergeK as es) (mergeD bs kvs)
  | _, _, _, _, .nil, r => r
  | _, _, as, bs, .cons (k := k) (v := v) (d := d) (es := es) (kvs := kvs) a r, q => by
    show RpK K F (mergeK (putK as k v) es) (mergeD (putD bs (kD k) d) kvs)
    exact merge_rp r (q.put k a)
end

def biVal : BI → Value
  | .len => .builtin "len" | .max => .builtin "max" | .min => .builtin "min" | .int => .type "int" | .str => .type "str" | .list => .type "list" | .tuple => .type "tuple"
  | .sorted => .builtin "sorted" | .dict => .type "dict" | .abs => .builtin "abs" | .sum => .builtin "sum" | .all => .builtin "all" | .any => .builtin "any"
theorem boot_bi (b : BI) : bootBuiltins (biName b) = some (biVal b) := by cases b <;> decide +kernel
section
variable {X : Cx} {H0 : Hp}
theorem bi_len : CallR X (.builtin "len") (rsD X.K H0 (biD .len)) := by
  rintro pins s σ H vs us Q I r ⟨F, ds, sm, p, h⟩
  match ds, p, h with
  | [], _, h => exact h.elim
  | _ :: _ :: _, _, h => rename_i a b c _; cases a <;> exact h.elim
  | [d], .cons (v := v) p .nil, h =>
    cases d with
    | list ds =>
      obtain ⟨a, xs, rfl, hx, _, rr⟩ := p.list sm
      exact call_len pins s σ H _ us Q I r ⟨_, xs.length, rfl, .inl ⟨xs, rd_sq hx, rfl⟩, h _ _ _ (Ext.refl sm) (show Rp X.K F _ _ from by rw [rr.length]; exact .int _)⟩
    | tuple ds =>
      obtain ⟨a, xs, rfl, hx, _, rr⟩ := p.tuple sm
      exact call_len pins s σ H _ us Q I r ⟨_, xs.length, rfl, .inr ⟨xs, hx, rfl⟩, h _ _ _ (Ext.refl sm) (show Rp X.K F _ _ from by rw [rr.length]; exact .int _)⟩
    | dict ds =>
      obtain ⟨a, xs, rfl, hx, _, rr⟩ := p.dict sm
      obtain ⟨u, rfl, ru⟩ := r.one
      obtain rfl : u = Value.ref a := ru
      exact d_len I hx fun t s' I' => ⟨.int xs.length, H, I', ⟨t, rfl⟩, h _ _ _ (Ext.refl sm) (show Rp X.K F _ _ from by rw [rr.length]; exact .int _)⟩
    | _ => exact h.elim
theorem bi_max (hc : X.calm = true) : CallR X (.builtin "max") (rsD X.K H0 (biD .max)) := by
  rintro pins s σ H vs us Q I r ⟨F, ds, sm, p, h⟩
  match ds, p, h with
  | [], _, h => exact h.elim
  | [d], _, h => cases d <;> exact h.elim
  | [d, e], .cons p (.cons q .nil), h =>
    cases d <;> cases e <;> try exact h.elim
    obtain rfl := p.int; obtain rfl := q.int
    exact call_max2 hc pins s σ H _ us Q I r ⟨_, _, rfl, h _ _ _ (Ext.refl sm) (Rp.int _)⟩
  | a :: b :: _ :: _, _, h => cases a <;> cases b <;> exact h.elim
theorem bi_min (hc : X.calm = true) : CallR X (.builtin "min") (rsD X.K H0 (biD .min)) := by
  rintro pins s σ H vs us Q I r ⟨F, ds, sm, p, h⟩
  match ds, p, h with
  | [], _, h => exact h.elim
  | [d], _, h => cases d <;> exact h.elim
  | [d, e], .cons p (.cons q .nil), h =>
    cases d <;> cases e <;> try exact h.elim
    obtain rfl := p.int; obtain rfl := q.int
    exact call_min2 hc pins s σ H _ us Q I r ⟨_, _, rfl, h _ _ _ (Ext.refl sm) (Rp.int _)⟩
  | a :: b :: _ :: _, _, h => cases a <;> cases b <;> exact h.elim
theorem bi_int : CallR X (.type "int") (rsD X.K H0 (biD .int)) := by
  rintro pins s σ H vs us Q I r ⟨F, ds, sm, p, h⟩
  match ds, p, h with
  | [], _, h => exact h.elim
  | _ :: _ :: _, _, h => rename_i a b c _; cases a <;> exact h.elim
  | [d], .cons (v := v) p .nil, h =>
    cases d with
    | int i => obtain rfl := p.int; exact call_int1 pins s σ H _ us Q I r (.inl ⟨_, rfl, h _ _ _ (Ext.refl sm) (Rp.int _)⟩)
    | bool i => obtain rfl := p.bl; exact call_int1 pins s σ H _ us Q I r (.inr ⟨_, rfl, h _ _ _ (Ext.refl sm) (Rp.int _)⟩)
    | _ => exact h.elim
theorem bi_abs : CallR X (.builtin "abs") (rsD X.K H0 (biD .abs)) := by
  rintro pins s σ H vs us Q I r ⟨F, ds, sm, p, h⟩
  match ds, p, h with
  | [], _, h => exact h.elim
  | _ :: _ :: _, _, h => rename_i a b c _; cases a <;> exact h.elim
  | [d], .cons (v := v) p .nil, h =>
    cases d with
    | int i => obtain rfl := p.int; exact call_abs pins s σ H _ us Q I r ⟨_, rfl, h _ _ _ (Ext.refl sm) (Rp.int _)⟩
    | _ => exact h.elim
theorem bi_list : CallR X (.type "list") (rsD X.K H0 (biD .list)) := by
  rintro pins s σ H vs us Q I r ⟨F, ds, sm, p, h⟩
  match ds, p, h with
  | [], _, h => exact h.elim
  | _ :: _ :: _, _, h => rename_i a b c _; cases a <;> exact h.elim
  | [d], .cons (v := v) p .nil, h =>
    cases d with
    | list ds =>
      obtain ⟨a, xs, rfl, hx, z, rr⟩ := p.list sm
      refine call_list_of pins s σ H _ us Q I r ⟨a, xs, rfl, .inl (rd_sq hx), fun l hl => ?_⟩
      obtain ⟨ex, rs⟩ := own_new (H0 := H0) sm hl z rr
      exact h _ _ _ ex rs
    | tuple ds =>
      obtain ⟨a, xs, rfl, hx, z, rr⟩ := p.tuple sm
      refine call_list_of pins s σ H _ us Q I r ⟨a, xs, rfl, .inr hx, fun l hl => ?_⟩
      obtain ⟨ex, rs⟩ := own_new (H0 := H0) sm hl z rr
      exact h _ _ _ ex rs
    | _ => exact h.elim
theorem bi_tuple : CallR X (.type "tuple") (rsD X.K H0 (biD .tuple)) := by
  rintro pins s σ H vs us Q I r ⟨F, ds, sm, p, h⟩
  match ds, p, h with
  | [], _, h => exact h.elim
  | _ :: _ :: _, _, h => rename_i a b c _; cases a <;> exact h.elim
  | [d], .cons (v := v) p .nil, h =>
    cases d with
    | list ds =>
      obtain ⟨a, xs, rfl, hx, z, rr⟩ := p.list sm
      refine call_tuple_of pins s σ H _ us Q I r ⟨a, xs, rfl, .inl ⟨rd_sq hx, fun l hl => ?_⟩⟩
      obtain ⟨ex, rs⟩ := tup_new sm hl z rr
      exact h _ _ _ ex rs
    | tuple ds =>
      obtain ⟨a, xs, rfl, hx, z, rr⟩ := p.tuple sm
      refine call_tuple_of pins s σ H _ us Q I r ⟨a, xs, rfl, .inr ⟨hx, ?_⟩⟩
      rcases p with p | ⟨_, _, o⟩
      · exact h _ _ _ (Ext.refl sm) p
      · exact o.elim
    | _ => exact h.elim
theorem bi_sorted (hc : X.calm = true) : CallR X (.builtin "sorted") (rsD X.K H0 (biD .sorted)) := by
  rintro pins s σ H vs us Q I r ⟨F, ds, sm, p, h⟩
  match ds, p, h with
  | [], _, h => exact h.elim
  | _ :: _ :: _, _, h => rename_i a b c _; cases a <;> exact h.elim
  | [d], .cons (v := v) p .nil, h =>
    cases d with
    | list ds =>
      obtain ⟨a, xs, rfl, hx, z, rr⟩ := p.list sm
      simp only [biD] at h
      split at h
      · rename_i ns hn
        obtain rfl := ints_rp rr hn
        refine cr_sortedI pins s σ H _ us Q I r ⟨a, ns, rfl, rd_sq hx, fun ms l pm sr hl => ?_⟩
        obtain rfl := sortI_unique pm sr
        obtain ⟨ex, rs⟩ := own_new (H0 := H0) (K := X.K) sm hl (by rw [List.length_map, sortI_len]; rw [List.length_map] at z; exact z) (rp_ints (sortI ns))
        exact h _ _ _ ex rs
      · exact h.elim
    | dict ds =>
      obtain ⟨a, xs, rfl, hx, z, rr⟩ := p.dict sm
      simp only [biD] at h
      split at h
      · rename_i ns hn
        split at h
        · rename_i h64
          refine call_sortedDI hc pins s σ H _ us Q I r ⟨a, xs, ns, rfl, hx, keys_rp rr hn, h64, fun ms l pm sr hl => ?_⟩
          obtain rfl := sortI_unique pm sr
          obtain ⟨ex, rs⟩ := own_new (H0 := H0) (K := X.K) sm hl (by rw [List.length_map, sortI_len]; unfold line; omega) (rp_ints (sortI ns))
          exact h _ _ _ ex rs
        · exact h.elim
      · exact h.elim
    | _ => exact h.elim
theorem bi_dict (hc : X.calm = true) : CallR X (.type "dict") (rsD X.K H0 (biD .dict)) := by
  rintro pins s σ H vs us Q I r ⟨F, ds, sm, p, h⟩
  match ds, p, h with
  | [], _, h => exact h.elim
  | _ :: _ :: _, _, h => rename_i a b c _; cases a <;> exact h.elim
  | [d], .cons (v := v) p .nil, h =>
    cases d with
    | list ds =>
      obtain ⟨a, xs, rfl, hx, z, rr⟩ := p.list sm
      simp only [biD] at h
      split at h
      · rename_i kvs hn
        obtain ⟨ps, es, rfl, hp, hr⟩ := pairs_rp sm rr hn
        refine call_dictP hc pins s σ H _ us Q I r ⟨a, ps, es, rfl, rd_sq hx, hp, fun l hl => ?_⟩
        have hle : (mergeK [] es).length ≤ line := by
          refine Nat.le_trans (length_mergeK es []) ?_
          rw [List.length_nil, Nat.zero_add]
          have e1 : ps.length = es.length := Paired.length hp
          rw [List.length_map] at z
          omega
        obtain ⟨ex, rs⟩ := own_newD (H0 := H0) sm hl hle (merge_rp hr .nil)
        exact h _ _ _ ex rs
      · exact h.elim
    | _ => exact h.elim
theorem bi_sum (hc : X.calm = true) : CallR X (.builtin "sum") (rsD X.K H0 (biD .sum)) := by
  rintro pins s σ H vs us Q I r ⟨F, ds, sm, p, h⟩
  match ds, p, h with
  | [], _, h => exact h.elim
  | _ :: _ :: _, _, h => rename_i a b c _; cases a <;> exact h.elim
  | [d], .cons (v := v) p .nil, h =>
    cases d with
    | list ds =>
      obtain ⟨a, xs, rfl, hx, z, rr⟩ := p.list sm
      simp only [biD] at h
      split at h
      · rename_i ns hn
        obtain rfl := ints_rp rr hn
        exact cr_sum hc pins s σ H _ us Q I r ⟨a, ns, rfl, rd_sq hx, h _ _ _ (Ext.refl sm) (Rp.int _)⟩
      · exact h.elim
    | _ => exact h.elim
theorem bi_all (hc : X.calm = true) : CallR X (.builtin "all") (rsD X.K H0 (biD .all)) := by
  rintro pins s σ H vs us Q I r ⟨F, ds, sm, p, h⟩
  match ds, p, h with
  | [], _, h => exact h.elim
  | _ :: _ :: _, _, h => rename_i a b c _; cases a <;> exact h.elim
  | [d], .cons (v := v) p .nil, h =>
    cases d with
    | list ds =>
      obtain ⟨a, xs, rfl, hx, z, rr⟩ := p.list sm
      simp only [biD] at h
      split at h
      · rename_i ns hn
        obtain rfl := bools_rp rr hn
        exact cr_all hc pins s σ H _ us Q I r ⟨a, ns, rfl, rd_sq hx, h _ _ _ (Ext.refl sm) (Rp.bl _)⟩
      · exact h.elim
    | _ => exact h.elim
theorem bi_any (hc : X.calm = true) : CallR X (.builtin "any") (rsD X.K H0 (biD .any)) := by
  rintro pins s σ H vs us Q I r ⟨F, ds, sm, p, h⟩
  match ds, p, h with
  | [], _, h => exact h.elim
  | _ :: _ :: _, _, h => rename_i a b c _; cases a <;> exact h.elim
  | [d], .cons (v := v) p .nil, h =>
    cases d with
    | list ds =>
      obtain ⟨a, xs, rfl, hx, z, rr⟩ := p.list sm
      simp only [biD] at h
      split at h
      · rename_i ns hn
        obtain rfl := bools_rp rr hn
        exact cr_any hc pins s σ H _ us Q I r ⟨a, ns, rfl, rd_sq hx, h _ _ _ (Ext.refl sm) (Rp.bl _)⟩
      · exact h.elim
    | _ => exact h.elim
theorem bi_ok (hc : X.calm = true) : ∀ b : BI, CallR X (biVal b) (rsD X.K H0 (biD b))
  | .len => bi_len | .max => bi_max hc | .min => bi_min hc | .int => bi_int | .list => bi_list | .tuple => bi_tuple | .sorted => bi_sorted hc | .dict => bi_dict hc
  | .abs => bi_abs | .sum => bi_sum hc | .all => bi_all hc | .any => bi_any hc
  | .str => by
    rintro pins s σ H vs us Q I r ⟨F, ds, sm, p, h⟩
    exact h.elim

/-! ### list.index -/
theorem idx_rp {K : PySem.W.Frag} {F H : Hp} {v : V} {d : D} (f : flatD d = true) (p : Pk K F H v d) : ∀ {vs : List V} {ds : List D} {n m : Nat}, ds.all flatD = true → RpA K F vs ds → idxD d ds n = some m →
    ∃ z, n ≤ m ∧ vs[m - n]? = some z ∧ eqV z v = true ∧ ∀ (j : Nat) (z' : V), j < m - n → vs[j]? = some z' → eqV z' v = false
  | _, _, _, _, _, .nil, e => by cases e
  | _, e :: ds, n, m, g, .cons (v := w) a r, q => by
    rw [List.all_cons, Bool.and_eq_true] at g
    simp only [idxD] at q
    have ee := eq_flat (H := H) g.1 f (.inl a) p
    split at q
    · rename_i c
      cases q
      refine ⟨w, Nat.le_refl _, by simp, by rw [ee]; exact c, fun j z' hj => by omega⟩
    · rename_i c
      obtain ⟨z, h1, h2, h3, h4⟩ := idx_rp f p g.2 r q
      refine ⟨z, by omega, ?_, h3, fun j z' hj hz => ?_⟩
      · rw [show m - n = (m - (n + 1)) + 1 by omega]
        simpa using h2
      · cases j with
        | zero => simp at hz; subst hz; rw [ee]; simpa using c
        | succ j => exact h4 j z' (by omega) (by simpa using hz)
def rmD (K : PySem.W.Frag) (H0 : Hp) (f : D → List D → Out (Kd × D)) : V → List V → Hp → VK → Prop := fun x xs H Q => ∃ F d ds, Same F H ∧ Pk K F H x d ∧ PkA K F H xs ds ∧ Post K H0 F H Q (f d ds)
theorem me_index : MtR X "list.index" (rmD X.K H0 (meD .index)) := by
  rintro pins s σ H x xs v us Q I rx rs ⟨F, d, ds, sm, p, ps, h⟩
  cases d with
  | list es =>
    match ds, ps, h with
    | [], _, h => exact h.elim
    | _ :: _ :: _, _, h => exact h.elim
    | [e], .cons (v := w) q .nil, h =>
      simp only [meD] at h
      split at h
      · rename_i c
        rw [Bool.and_eq_true] at c
        obtain ⟨a, ys, rfl, hx, z, rr⟩ := p.list sm
        split at h
        · rename_i n hn
          obtain ⟨z', _, h2, h3, h4⟩ := idx_rp c.1 q c.2 rr hn
          exact mt_index pins s σ H _ _ v us Q I rx rs ⟨a, ys, w, n, z', rfl, rfl, rd_sq hx, flat_of c.1 q, all_flat c.2 rr, h2, h3, h4, h _ _ _ (Ext.refl sm) (Rp.int _)⟩
        · exact h.elim
      · exact h.elim
  | _ => cases ds <;> exact h.elim

/-! ### isinstance -/
def tyS : Ty → String
  | .tuple => "tuple" | .list => "list" | .int => "int" | .bool => "bool" | .str => "str"
def tyD : D → String
  | .none => "NoneType" | .bool _ => "bool" | .int _ => "int" | .str _ => "str" | .list _ => "list" | .tuple _ => "tuple" | .dict _ => "dict"
inductive TK where
  | n | b | i | s | l | t | d
def tkD : D → TK
  | .none => .n | .bool _ => .b | .int _ => .i | .str _ => .s | .list _ => .l | .tuple _ => .t | .dict _ => .d
def tkS : TK → String
  | .n => "NoneType" | .b => "bool" | .i => "int" | .s => "str" | .l => "list" | .t => "tuple" | .d => "dict"
def tkB : Ty → TK → Bool
  | .tuple, .t => true | .list, .l => true | .int, .i => true | .int, .b => true | .bool, .b => true | .str, .s => true | _, _ => false
theorem kit_tk (t : Ty) (k : TK) : kitB (tkS k) (tyS t) = some (tkB t k) := by cases t <;> cases k <;> decide +kernel
theorem tk_ty (t : Ty) (d : D) : tkB t (tkD d) = isTy t d := by cases t <;> cases d <;> rfl
theorem tk_s (d : D) : tkS (tkD d) = tyD d := by cases d <;> rfl
theorem kit_D {K : PySem.W.Frag} (t : Ty) (d : D) : PySem.W.kitOne K (.type (tyD d)) (.type (tyS t)) = some (isTy t d) := by
  rw [← tk_ty, ← tk_s]
  exact kit_ty (kit_tk t (tkD d))
theorem Pk.ty {K : PySem.W.Frag} {F H : Hp} {v : V} {d : D} (s : Same F H) (p : Pk K F H v d) : TyX K H v (.type (tyD d)) := by
  cases d with
  | none => rw [p.non]; exact .base .non
  | bool b => rw [p.bl]; exact .base (.bl b)
  | int b => rw [p.int]; exact .base (.int b)
  | str b => rw [p.str]; exact .base (.str b)
  | list b =>
    obtain ⟨a, xs, rfl, hx, _, _⟩ := p.list s
    rcases hx with hx | ⟨o, hx⟩
    · exact .base (.lst hx)
    · exact .base (.frz hx)
  | tuple b =>
    obtain ⟨a, xs, rfl, hx, _, _⟩ := p.tuple s
    rcases hx with (hx | ⟨o, hx⟩) | ⟨o, its, n, hk, hcl, _⟩
    · exact .base (.tup hx)
    · exact .fTuple hx
    · exact .kTuple hk hcl
  | dict b =>
    obtain ⟨a, xs, rfl, hx, _, _⟩ := p.dict s
    rcases hx with hx | ⟨o, hx⟩
    · exact .base (.dK hx)
    · exact .fDict hx
theorem kits_D {K : PySem.W.Frag} (d : D) : ∀ ts : List Ty, PySem.W.kitAny K (.type (tyD d)) (ts.map fun t => .type (tyS t)) = some (ts.any fun t => isTy t d)
  | [] => rfl
  | t :: ts => by
    rw [List.map_cons, List.any_cons]
    have q := kit_D (K := K) t d
    refine kitAny_cons q (fun e => ?_) fun e => ?_
    · rw [e, Bool.false_or]; exact kits_D d ts
    · rw [e, Bool.true_or]
end
end VL
namespace VL
open PySem PySem.Spec L2

/-! ### what the shape of a text says -/
section
variable {Γ : Gam} {e r : E} {sc : Scope} {x : Expr} {es : List Expr} {env : Env}
theorem not_star (h : chkE Γ e sc x = true) (es : List Expr) (env : Env) : starEach (x :: es) env = (false, eval x env) :: starEach es env := by
  cases x with
  | Starred y p => cases e <;> cases h
  | _ => rfl
theorem stars : ∀ {e : E} {es : List Expr}, chkA Γ e sc es = true → starEach es env = es.map fun x => (false, eval x env)
  | .nil, [], _ => rfl
  | .cons a r, x :: es, h => by
    simp only [chkA, Bool.and_eq_true] at h
    rw [not_star h.1, stars h.2]; rfl
  | .conp a r, x :: es, h => by
    simp only [chkA, Bool.and_eq_true] at h
    rw [not_star h.1, stars h.2]; rfl
theorem star_any {pos : Pos} (h : chkA Γ e sc es = true) : ((backTo pos (starEach es env)).any (·.1)) = false := by
  rw [stars h]
  unfold backTo
  rw [List.map_map, List.any_map, List.any_eq_false]
  intro y _
  simp
theorem star_few {pos : Pos} {n : Nat} (h : chkA Γ e sc es = true) (hn : es.length < 30) :
    (((backTo pos (starEach es env)).all fun x => !x.1) && ((backToKw pos (keywordEach [] env)).all fun x => x.1.isSome) && decide ((es.length + ([] : List Keyword).length + if ([] : List Keyword).isEmpty = true then 0 else 1) < 30)) = true := by
  rw [stars h]
  unfold backTo
  rw [List.map_map, List.all_map, Bool.and_eq_true, Bool.and_eq_true]
  refine ⟨⟨List.all_eq_true.mpr fun y _ => by simp, rfl⟩, decide_eq_true ?_⟩
  simp
  exact hn
theorem attr_base {o : Expr} (h : call0 o = false) (m : Str) (env : Env) (w : Sem Value) : attributeBase o m env w = w := by
  cases o with
  | Call f as ks p =>
    cases as with
    | nil =>
      cases ks with
      | nil => cases h
      | cons => cases f <;> rfl
    | cons => cases f <;> rfl
  | _ => rfl
theorem plain_ix {b : Expr} (h : isSlice b = false) : ∀ o i, subscripted b false o i = operate [o, i] (getItem o i) := by
  intro o i
  cases b with
  | Slice => cases h
  | _ => rfl
theorem folded_set (h : chkE Γ e sc x = true) (v : Value) : foldedSetIterable x env v = pure v := by
  cases x with
  | Set => cases e <;> cases h
  | _ => rfl
end

/-! ### the surroundings -/
def spV (K : PySem.W.Frag) (cv : Nat → Value) (nm : List D → Out (Bool × D)) : Sp := fun vs H Q E => ∃ F ds, Same F H ∧ RpA K F vs ds ∧ match nm ds with
  | .ok (own, d) => ∀ v F' H', Ext F H F' H' → Res K H H F' H' v d (ownK own) → Q v H'
  | .raise c => ∀ H', Same H H' → E (cv c) none H'
  | .stuck => False
def bltNames : List Str := ["len", "max", "min", "int", "str", "list", "tuple", "sorted", "dict", "abs", "sum", "all", "any", "isinstance", "range", "enumerate", "bool"]
structure Fits (Γ : Gam) (cl : Nat → List D → Out (Bool × D)) (gc : Nat → D) (cv : Nat → Value) (X : Cx) (sc : Scope) : Prop where
  nm : X.N = Γ.N
  nd : Γ.N.Nodup
  sc : X.env.scope = sc
  calm : X.calm = true
  hu : X.A.units + 64 < cLine
  fns : ∀ x j, Γ.fn.lookup x = some j → ∃ f fd ps k, X.mg x = some (.ref f) ∧ PySem.W.keepIn X.K (.ref f) = true ∧ Room k X.A ∧ FnOk X.prog X.w X.K X.mg X.base (L2.CX X.prog X.w) k f fd ps (spV X.K cv (cl j)) ∧ Binds X.K fd ps []
  blt : ∀ x ∈ bltNames, X.mg x = none
  gls : ∀ x j, Γ.gl.lookup x = some j → ∃ u v, X.mg x = some u ∧ RelV v u ∧ ∀ F, Rp X.K F v (gc j)
theorem vis_of {sc : Scope} {x : Str} {X : Cx} (h : visB sc x = true) (e : X.env.scope = sc) : Vis X.env.scope x := by
  unfold visB at h
  rw [e]
  unfold Vis
  split at h
  · exact .inl (by assumption)
  · exact .inr (.inl (by assumption))
  · exact .inr (.inr (by assumption))
  · cases h
theorem loc_of {sc : Scope} {x : Str} {X : Cx} (h : locB sc x = true) (e : X.env.scope = sc) : L2.Loc X.env.scope x := by
  unfold locB at h
  rw [e]
  unfold L2.Loc
  split at h
  · exact .inl (by assumption)
  · exact .inr (by assumption)
  · cases h
theorem gl_of {sc : Scope} {x : Str} {X : Cx} (h : glB sc x = true) (e : X.env.scope = sc) : Gl X x := by
  unfold glB at h
  unfold Gl Env.kindOf
  rw [e]
  split at h
  · assumption
  · cases h
theorem okn_of {x : Str} (h : okn x = true) : (x == ("__debug__" : Str)) = false ∧ (x == ("__classdict__" : Str)) = false ∧ x ≠ "__name__" := by
  unfold okn at h
  simp only [Bool.and_eq_true, Bool.not_eq_true'] at h
  exact ⟨h.1.1, h.1.2, fun e => by rw [e] at h; simp at h⟩
theorem name_at {Γ : Gam} {i : Nat} {x : Str} (h : nameAt Γ i x = true) : Γ.N[i]? = some x ∧ (x == ("__debug__" : Str)) = false ∧ (x == ("__classdict__" : Str)) = false := by
  unfold nameAt at h
  rw [Bool.and_eq_true, decide_eq_true_eq] at h
  exact ⟨h.1, (okn_of h.2).1, (okn_of h.2).2.1⟩

section
variable {Γ : Gam} {cl : Nat → List D → Out (Bool × D)} {gc : Nat → D} {cv : Nat → Value} {H0 F0 : Hp}
def ExOk (Γ : Gam) (cl : Nat → List D → Out (Bool × D)) (gc : Nat → D) (cv : Nat → Value) (H0 F0 : Hp) (e : E) : Prop :=
  ∀ (X : Cx) (W : WX) (sc : Scope) (x : Expr), Fits Γ cl gc cv X sc → Takes X W → chkE Γ e sc x = true → PE X x (tOf X.K H0 F0 cv W (ev cl gc e))
def TeOk (Γ : Gam) (cl : Nat → List D → Out (Bool × D)) (gc : Nat → D) (cv : Nat → Value) (H0 F0 : Hp) (e : E) : Prop :=
  ∀ (X : Cx) (W : WX) (sc : Scope) (x : Expr), Fits Γ cl gc cv X sc → Takes X W → chkE Γ e sc x = true → isIfE x = false → PT X x (tTe X.K H0 F0 cv W (evB cl gc e))
def ArOk (Γ : Gam) (cl : Nat → List D → Out (Bool × D)) (gc : Nat → D) (cv : Nat → Value) (H0 F0 : Hp) (e : E) : Prop :=
  ∀ (X : Cx) (W : WX) (sc : Scope) (x : List Expr), Fits Γ cl gc cv X sc → Takes X W → chkA Γ e sc x = true → PA X x (tAs X.K H0 F0 cv W (ev cl gc e))
def BoOk (Γ : Gam) (cl : Nat → List D → Out (Bool × D)) (gc : Nat → D) (cv : Nat → Value) (H0 F0 : Hp) (e : E) : Prop :=
  ∀ (X : Cx) (W : WX) (sc : Scope) (op : BoolOp) (x : List Expr) (pos : Pos), Fits Γ cl gc cv X sc → Takes X W → chkB Γ op e sc x = true →
    PE X (.BoolOp op x pos) (tOf X.K H0 F0 cv W (ev cl gc e)) ∧ PW X (.BoolOp op x pos) (tTe X.K H0 F0 cv W (evB cl gc e))
theorem bin_nr (o : Bop) (d e : D) (c : Nat) : binD o d e ≠ .raise c := by
  unfold binD
  repeat' split
  all_goals (intro h; cases h)
theorem cmp_nr (o : Cop) (d e : D) (c : Nat) : cmpD o d e ≠ .raise c := by
  unfold cmpD
  repeat' split
  all_goals (intro h; cases h)
theorem ix_nr (d e : D) (c : Nat) : ixD d e ≠ .raise c := by
  unfold ixD
  repeat' split
  all_goals (intro h; cases h)
theorem sl_nr (d : D) (l h : Option Int) (c : Nat) : slD d l h ≠ .raise c := by
  unfold slD
  repeat' split
  all_goals (intro h; cases h)
theorem bi_nr (b : BI) (ds : List D) (c : Nat) : biD b ds ≠ .raise c := by
  unfold biD
  repeat' split
  all_goals (intro h; cases h)
theorem me_nr (b : ME) (d : D) (ds : List D) (c : Nat) : meD b d ds ≠ .raise c := by
  unfold meD
  repeat' split
  all_goals (intro h; cases h)
theorem post_of {K : PySem.W.Frag} {W : WX} {σ : L2.St} {F H : Hp} {Q : VK} {x : Out (Kd × D)} (hx : ∀ c, x ≠ .raise c) (h : OkE K H0 cv W σ F H Q x) : Post K H0 F H Q x := by
  cases x with
  | ok y => exact h
  | raise c => exact (hx c rfl).elim
  | stuck => exact h
/-- two operands, one behind the other -/
theorem step2 {K : PySem.W.Frag} {W : WX} {ma mb : Ta → Out (Kd × D)} {f : D → D → Out (Kd × D)} (hf : ∀ d e c, f d e ≠ .raise c) {σ : L2.St} {H : Hp} {Q : VK}
    (h : tOf K H0 F0 cv W (fun τ => (ma τ).bind fun x => (mb τ).bind fun y => f x.2 y.2) σ H Q) : tOp (r2D K H0 f) (tOf K H0 F0 cv W ma) (tOf K H0 F0 cv W mb) σ H Q := by
  obtain ⟨F, τ, g, h⟩ := h
  exact ⟨F, τ, g, OkE.then h fun k d _ v F1 H1 e1 r1 h1 => ⟨F1, τ, g.step e1, OkE.then h1 fun k' d' _ w F2 H2 e2 r2 h2 =>
    ⟨F2, d, d', e2.sub, r1.pk.ext e2, r2.pk, post_of (hf d d') h2⟩⟩⟩
theorem ex_bin {o : Bop} {a b : E} (ha : ExOk Γ cl gc cv H0 F0 a) (hb : ExOk Γ cl gc cv H0 F0 b) : ExOk Γ cl gc cv H0 F0 (.bin o a b) := by
  intro X W sc x ft tk h
  cases x with
  | BinOp a' op b' p =>
    simp only [chkE, Bool.and_eq_true] at h
    exact PE.weak (pe_op (bin_ok (H0 := H0) h.1.1) (ha X W sc a' ft tk h.1.2) (hb X W sc b' ft tk h.2)) fun σ H Q q => step2 (bin_nr o) q
  | _ => cases h
theorem ex_cmp {o : Cop} {a b : E} (ha : ExOk Γ cl gc cv H0 F0 a) (hb : ExOk Γ cl gc cv H0 F0 b) : ExOk Γ cl gc cv H0 F0 (.cmp o a b) := by
  intro X W sc x ft tk h
  cases x with
  | Compare a' ops bs p =>
    match ops, bs, h with
    | [op], [b'], h =>
      simp only [chkE, Bool.and_eq_true] at h
      have hm : behindInMarks op b' = false := by
        cases b' with
        | Set => exact absurd h.2 (by cases b <;> exact Bool.false_ne_true)
        | _ => rfl
      exact PE.weak (pe_cmpR (cmp_ok (H0 := H0) ft.hu h.1.1) (ha X W sc a' ft tk h.1.2) (hb X W sc b' ft tk h.2) hm) fun σ H Q q => step2 (cmp_nr o) q
    | [], _, h => cases h
    | [_], [], h => cases h
    | [_], _ :: _ :: _, h => cases h
    | _ :: _ :: _, _, h => cases h
  | _ => cases h
theorem ex_ix {a b : E} (ha : ExOk Γ cl gc cv H0 F0 a) (hb : ExOk Γ cl gc cv H0 F0 b) : ExOk Γ cl gc cv H0 F0 (.ix a b) := by
  intro X W sc x ft tk h
  cases x with
  | Subscript a' b' p =>
    have h' : chkE Γ (.ix a b) sc (.Subscript a' b' p) = (chkE Γ a sc a' && chkE Γ b sc b' && !isSlice b') := rfl
    rw [h', Bool.and_eq_true, Bool.and_eq_true, Bool.not_eq_true'] at h
    exact PE.weak (pe_ix (ix_ok (H0 := H0) (by have := ft.hu; omega)) (ha X W sc a' ft tk h.1.1) (hb X W sc b' ft tk h.1.2) (plain_ix h.2)) fun σ H Q q => step2 ix_nr q
  | _ => cases h
end
end VL
namespace VL
open PySem PySem.Spec L2
section
variable {Γ : Gam} {cl : Nat → List D → Out (Bool × D)} {gc : Nat → D} {cv : Nat → Value} {H0 F0 : Hp}

/-! ### names, constants -/
theorem ex_var {i : Nat} : ExOk Γ cl gc cv H0 F0 (.var i) := by
  intro X W sc x ft tk h
  cases x with
  | Name y p =>
    have h' : (nameAt Γ i y && visB sc y) = true := h
    rw [Bool.and_eq_true] at h'
    obtain ⟨n1, n2, n3⟩ := name_at h'.1
    refine PE.weak (pe_var (i := i) (by rw [ft.nm]; exact n1) (vis_of h'.2 ft.sc) n2 n3) fun σ H Q q => ?_
    obtain ⟨F, τ, g, q⟩ := q
    simp only [ev] at q
    split at q
    · rename_i d hd
      obtain ⟨v, e, r⟩ := g.slot i _ hd
      exact ⟨v, e, q v F H (Ext.refl g.sub) r⟩
    · rename_i d hd
      obtain ⟨l, e, z, r⟩ := g.slot i _ hd
      exact ⟨_, e, q _ F H (Ext.refl g.sub) ⟨l, rfl, z, r⟩⟩
    · exact q.elim
  | _ => cases h
theorem ex_pk {i : Nat} : ExOk Γ cl gc cv H0 F0 (.pk i) := by
  intro X W sc x ft tk h
  cases x with
  | Name y p =>
    have h' : (nameAt Γ i y && visB sc y) = true := h
    rw [Bool.and_eq_true] at h'
    obtain ⟨n1, n2, n3⟩ := name_at h'.1
    refine PE.weak (pe_var (i := i) (by rw [ft.nm]; exact n1) (vis_of h'.2 ft.sc) n2 n3) fun σ H Q q => ?_
    obtain ⟨F, τ, g, q⟩ := q
    simp only [ev] at q
    split at q
    · rename_i d hd
      obtain ⟨v, e, r⟩ := g.slot i _ hd
      exact ⟨v, e, q v F H (Ext.refl g.sub) (Or.inl r)⟩
    · rename_i d hd
      obtain ⟨l, e, z, r⟩ := g.slot i _ hd
      exact ⟨_, e, q _ F H (Ext.refl g.sub) (Or.inl r.rp)⟩
    · rename_i d hd
      obtain ⟨l, e, z, n, r⟩ := g.slot i _ hd
      exact ⟨_, e, q _ F H (Ext.refl g.sub) (Or.inr ⟨l, rfl, r⟩)⟩
    · exact q.elim
  | _ => cases h
theorem ex_tk {i : Nat} : ExOk Γ cl gc cv H0 F0 (.tk i) := by
  intro X W sc x ft tk h
  cases x with
  | Name y p =>
    have h' : (nameAt Γ i y && visB sc y) = true := h
    rw [Bool.and_eq_true] at h'
    obtain ⟨n1, n2, n3⟩ := name_at h'.1
    refine PE.weak (pe_var (i := i) (by rw [ft.nm]; exact n1) (vis_of h'.2 ft.sc) n2 n3) fun σ H Q q => ?_
    obtain ⟨F, τ, g, q⟩ := q
    simp only [ev] at q
    split at q
    · rename_i d hd
      obtain ⟨v, e, r⟩ := g.slot i _ hd
      exact ⟨v, e, q v F H (Ext.refl g.sub) r⟩
    · rename_i d hd
      obtain ⟨l, e, z, r⟩ := g.slot i _ hd
      exact ⟨_, e, q _ F H (Ext.refl g.sub) ⟨l, rfl, z, r⟩⟩
    · rename_i d hd
      obtain ⟨l, e, z, n, r⟩ := g.slot i _ hd
      exact ⟨_, e, q _ F H (Ext.refl g.sub) ⟨l, rfl, z, n, r⟩⟩
    · exact q.elim
  | _ => cases h
theorem ex_cst {d : D} : ExOk Γ cl gc cv H0 F0 (.cst d) := by
  intro X W sc x ft tk h
  cases x with
  | Constant c j p =>
    have h' : constIs d c = true := h
    have fin : ∀ v, Rp X.K F0 v d → PE X (.Constant c j p) (tC v) → (∀ F, Rp X.K F v d) → PE X (.Constant c j p) (tOf X.K H0 F0 cv W (ev cl gc (.cst d))) := fun v _ hp hr =>
      PE.weak hp fun σ H Q q => by
        obtain ⟨F, τ, g, q⟩ := q
        exact q v F H (Ext.refl g.sub) (hr F)
    cases d with
    | none => cases c <;> first | exact absurd h' Bool.false_ne_true | exact fin .non .non pe_non fun _ => .non
    | bool b => cases c <;> first | exact absurd h' Bool.false_ne_true | (rename_i b'; obtain rfl : b = b' := (by simpa [constIs] using h'); exact fin (.bl b) (.bl b) pe_bl fun _ => .bl b)
    | int b => cases c <;> first | exact absurd h' Bool.false_ne_true | (rename_i b'; obtain rfl : b = b' := (by simpa [constIs] using h'); exact fin (.int b) (.int b) pe_int fun _ => .int b)
    | str b => cases c <;> first | exact absurd h' Bool.false_ne_true | (rename_i b'; obtain rfl : b = b' := (by simpa [constIs] using h'); exact fin (.str b) (.str b) pe_str fun _ => .str b)
    | _ => cases c <;> exact absurd h' Bool.false_ne_true
  | _ => cases h
theorem ex_glb {j : Nat} : ExOk Γ cl gc cv H0 F0 (.glb j) := by
  intro X W sc x ft tk h
  cases x with
  | Name y p =>
    have h' : (okn y && glB sc y && decide (Γ.gl.lookup y = some j)) = true := h
    rw [Bool.and_eq_true, Bool.and_eq_true, decide_eq_true_eq] at h'
    obtain ⟨u, v, hm, r, hr⟩ := ft.gls y j h'.2
    exact PE.weak (pe_glob (gl_of h'.1.2 ft.sc) hm r (okn_of h'.1.1).1) fun σ H Q q => by
      obtain ⟨F, τ, g, q⟩ := q
      exact q v F H (Ext.refl g.sub) (hr F)
  | _ => cases h

/-! ### lists of expressions -/
theorem ar_nil : ArOk Γ cl gc cv H0 F0 .nil := by
  intro X W sc x ft tk h
  cases x with
  | nil => exact PA.weak pa_nil fun σ H Q ⟨F, τ, g, q⟩ => q [] F H (Ext.refl g.sub) .nil fun _ => .nil
  | cons => cases h
theorem ar_cons {a r : E} (ha : ExOk Γ cl gc cv H0 F0 a) (hr : ArOk Γ cl gc cv H0 F0 r) : ArOk Γ cl gc cv H0 F0 (.cons a r) := by
  intro X W sc x ft tk h
  cases x with
  | nil => cases h
  | cons y ys =>
    have h' : (chkE Γ a sc y && chkA Γ r sc ys) = true := h
    rw [Bool.and_eq_true] at h'
    refine PA.weak (pa_cons (ha X W sc y ft tk h'.1) (hr X W sc ys ft tk h'.2) (not_star h'.1 _ _)) fun σ H Q q => ?_
    obtain ⟨F, τ, g, q⟩ := q
    refine ⟨F, τ, g, ?_⟩
    simp only [ev] at q
    cases ea : ev cl gc a τ with
    | stuck => rw [ea] at q; exact q
    | raise c => rw [ea] at q; exact q
    | ok z =>
      obtain ⟨k, d⟩ := z
      rw [ea] at q
      intro v F1 H1 e1 r1
      change OkA _ _ _ _ _ _ _ ((keep (k, d)).bind _) at q
      cases ek : keep (k, d) with
      | stuck => rw [ek] at q; exact q.elim
      | raise c => cases k <;> cases ek
      | ok d' =>
        obtain ⟨e2, e3⟩ := keep_ok ek
        change d = d' at e2
        subst e2
        obtain ⟨F2, x2, s2, rp⟩ := r1.keep e1 e3
        rw [ek] at q
        refine ⟨F2, τ, g.step x2, ?_⟩
        change OkA _ _ _ _ _ _ _ ((ev cl gc r τ).bind _) at q
        cases er : ev cl gc r τ with
        | stuck => rw [er] at q; exact q
        | raise c => rw [er] at q; exact fun H' s => q H' (x2.same.trans s)
        | ok w =>
          obtain ⟨k2, d2⟩ := w
          rw [er] at q
          cases d2 with
          | list ds =>
            cases k2 with
            | fz =>
              intro vs F3 H3 e3 p3 r3
              have rp' := rp.mono e3.le
              exact q (v :: vs) F3 H3 (x2.trans e3) (.cons (.inl rp') p3) fun _ => .cons rp' (r3 rfl)
            | _ => exact q.elim
          | _ => cases k2 <;> exact q.elim
theorem ar_conp {a r : E} (ha : ExOk Γ cl gc cv H0 F0 a) (hr : ArOk Γ cl gc cv H0 F0 r) : ArOk Γ cl gc cv H0 F0 (.conp a r) := by
  intro X W sc x ft tk h
  cases x with
  | nil => cases h
  | cons y ys =>
    have h' : (chkE Γ a sc y && chkA Γ r sc ys) = true := h
    rw [Bool.and_eq_true] at h'
    refine PA.weak (pa_cons (ha X W sc y ft tk h'.1) (hr X W sc ys ft tk h'.2) (not_star h'.1 _ _)) fun σ H Q q => ?_
    obtain ⟨F, τ, g, q⟩ := q
    refine ⟨F, τ, g, ?_⟩
    simp only [ev] at q
    cases ea : ev cl gc a τ with
    | stuck => rw [ea] at q; exact q
    | raise c => rw [ea] at q; exact q
    | ok z =>
      obtain ⟨k, d⟩ := z
      rw [ea] at q
      intro v F1 H1 e1 r1
      refine ⟨F1, τ, g.step e1, ?_⟩
      change OkA _ _ _ _ _ _ _ ((ev cl gc r τ).bind _) at q
      cases er : ev cl gc r τ with
      | stuck => rw [er] at q; exact q
      | raise c => rw [er] at q; exact fun H' s => q H' (e1.same.trans s)
      | ok w =>
        obtain ⟨k2, d2⟩ := w
        rw [er] at q
        cases d2 with
        | list ds =>
          intro vs F3 H3 e3 p3 r3
          exact q (v :: vs) F3 H3 (e1.trans e3) (.cons (r1.pk.ext e3) p3) fun z => nomatch z
        | _ => exact q.elim
def noList : D → Prop
  | .list _ => False
  | _ => True
/-- the values of a list of expressions, then the rest -/
theorem OkE.args {K : PySem.W.Frag} {W : WX} {σ : L2.St} {F H : Hp} {Q : VK} {x : Out (Kd × D)} {f : Kd × D → Out (Kd × D)} (h : OkE K H0 cv W σ F H Q (x.bind f)) (hf : ∀ k d, noList d → f (k, d) = .stuck) {R : List V → Hp → Prop}
    (hR : ∀ k ds vs F1 H1, x = .ok (k, .list ds) → Ext F H F1 H1 → PkA K F1 H1 vs ds → (k = .fz → RpA K F1 vs ds) → OkE K H0 cv W σ F1 H1 Q (f (k, .list ds)) → R vs H1) : OkA K cv W σ F H R x := by
  cases x with
  | ok y =>
    obtain ⟨k, d⟩ := y
    have key : noList d → False := fun hd => by
      have e : OkE K H0 cv W σ F H Q (f (k, d)) := h
      rw [hf k d hd] at e
      exact e
    cases d with
    | list ds => exact fun vs F' H' e p r => hR k ds vs F' H' rfl e p r (OkE.after e h)
    | _ => exact (key trivial).elim
  | raise c => exact h
  | stuck => exact h
theorem ex_tup {r : E} (hr : ArOk Γ cl gc cv H0 F0 r) : ExOk Γ cl gc cv H0 F0 (.tup r) := by
  intro X W sc x ft tk h
  cases x with
  | Tuple es n p =>
    refine PE.weak (pe_tup (hr X W sc es ft tk h)) fun σ H Q ⟨F, τ, g, q⟩ => ⟨F, τ, g, OkE.args q (fun k d hd => ?_) fun k ds vs F1 H1 _ e1 p1 r1 q1 => ?_⟩
    · cases k <;> cases d <;> first | rfl | exact hd.elim
    · cases k with
      | fz =>
        change OkE _ _ _ _ _ _ _ _ (if ds.length ≤ line then _ else _) at q1
        split at q1
        · rename_i hl
          have rr := r1 rfl
          refine ⟨by rw [← line_eq, rr.length]; exact hl, fun a ha => ?_⟩
          obtain ⟨ex, rs⟩ := tup_new e1.sub ha (by rw [rr.length]; exact hl) rr
          exact q1 _ _ _ ex rs
        · exact q1.elim
      | _ => exact q1.elim
  | _ => cases h
theorem ex_lst {r : E} (hr : ArOk Γ cl gc cv H0 F0 r) : ExOk Γ cl gc cv H0 F0 (.lst r) := by
  intro X W sc x ft tk h
  cases x with
  | List es p =>
    refine PE.weak (pe_lst (hr X W sc es ft tk h)) fun σ H Q ⟨F, τ, g, q⟩ => ⟨F, τ, g, OkE.args q (fun k d hd => ?_) fun k ds vs F1 H1 _ e1 p1 r1 q1 => ?_⟩
    · cases k <;> cases d <;> first | rfl | exact hd.elim
    · cases k with
      | fz =>
        change OkE _ _ _ _ _ _ _ _ (if ds.length ≤ line then _ else _) at q1
        split at q1
        · rename_i hl
          have rr := r1 rfl
          refine ⟨by rw [← line_eq, rr.length]; exact hl, fun a ha => ?_⟩
          obtain ⟨ex, rs⟩ := own_new (H0 := H0) e1.sub ha (by rw [rr.length]; exact hl) rr
          exact q1 _ _ _ ex rs
        · exact q1.elim
      | _ => exact q1.elim
  | _ => cases h
theorem ex_dic : ExOk Γ cl gc cv H0 F0 .dic := by
  intro X W sc x ft tk h
  cases x with
  | Dict ks vs p =>
    match ks, vs, h with
    | [], [], _ =>
      refine PE.weak pe_dnewK fun σ H Q ⟨F, τ, g, q⟩ => fun a ha => ?_
      obtain ⟨ex, rs⟩ := own_newD (H0 := H0) (K := X.K) g.sub ha (Nat.zero_le _) .nil
      exact q _ _ _ ex rs
    | _ :: _, _, h => cases h
    | [], _ :: _, h => cases h
  | _ => cases h
theorem ex_rep {r b : E} (hr : ArOk Γ cl gc cv H0 F0 r) (hb : ExOk Γ cl gc cv H0 F0 b) : ExOk Γ cl gc cv H0 F0 (.rep r b) := by
  intro X W sc x ft tk h
  cases x with
  | BinOp a' op b' p =>
    cases a' with
    | List es p' =>
      cases op with
      | Mult =>
        have h' : (chkA Γ r sc es && chkE Γ b sc b') = true := h
        rw [Bool.and_eq_true] at h'
        refine PE.weak (pe_op op_rep (pe_lst (hr X W sc es ft tk h'.1)) (hb X W sc b' ft tk h'.2)) fun σ H Q ⟨F, τ, g, q⟩ => ⟨F, τ, g, OkE.args q (fun k d hd => ?_) fun k ds vs F1 H1 _ e1 p1 r1 q1 => ?_⟩
        · cases k <;> cases d <;> first | rfl | exact hd.elim
        · cases k with
          | fz =>
            have rr := r1 rfl
            change OkE _ _ _ _ _ _ _ _ (if ds.length ≤ line then _ else _) at q1
            split at q1
            case isFalse => exact q1.elim
            rename_i hds
            have hle : vs.length ≤ line := by rw [rr.length]; exact hds
            refine ⟨by rw [← line_eq]; exact hle, fun a ha => ?_⟩
            obtain ⟨ex, rs⟩ := own_new (H0 := H0) e1.sub ha hle rr
            refine ⟨F1, τ, g.step (e1.trans ex), OkE.then (OkE.after ex q1) fun k2 d2 _ v F2 H2 e2 r2 q2 => ?_⟩
            cases d2 with
            | int m =>
              change OkE _ _ _ _ _ _ _ _ (if _ then _ else _) at q2
              split at q2
              · rename_i hl
                obtain rfl := r2.pk.int
                have rr2 := rr.mono e2.le
                refine ⟨a, m, vs, rfl, rfl, e2.same _ _ upd_same, hl.2.1, hl.2.2.1, by rw [← line_eq, rr.length]; exact hl.2.2.2, fun p hp => ?_⟩
                obtain ⟨ex3, rs3⟩ := own_new (H0 := H0) e2.sub hp (by rw [RpA.length (rr2.rep m.toNat)]; simp only [List.length_flatten, List.map_replicate, List.sum_replicate_nat]; rw [Nat.mul_comm]; exact hl.2.2.2) (rr2.rep m.toNat)
                exact q2 _ _ _ ex3 rs3
              · exact q2.elim
            | _ => exact q2.elim
          | _ => exact q1.elim
      | _ => cases h
    | _ => cases h
  | _ => cases h
end
end VL
namespace VL
open PySem PySem.Spec L2
section
variable {Γ : Gam} {cl : Nat → List D → Out (Bool × D)} {gc : Nat → D} {cv : Nat → Value} {H0 F0 : Hp}

/-! ### truth -/
theorem OkB.of {K : PySem.W.Frag} {W : WX} {σ : L2.St} {F H : Hp} {Q : Bool → Hp → Prop} {x : Out (Kd × D)} (h : OkB cv W σ F H Q (x.bind asBool)) : OkE K H0 cv W σ F H (fun v H1 => ∃ c, v = .bl c ∧ Q c H1) x := by
  cases x with
  | ok y =>
    obtain ⟨k, d⟩ := y
    cases d with
    | bool b => exact fun v F' H' e r => ⟨b, r.pk.bl, h F' H' e⟩
    | _ => exact h.elim
  | raise c => exact h
  | stuck => exact h
theorem te_of {K : PySem.W.Frag} {W : WX} {e : E} {σ : L2.St} {H : Hp} {Q : Bool → Hp → Prop} (h : tTe K H0 F0 cv W (evB cl gc e) σ H Q) : tOf K H0 F0 cv W (ev cl gc e) σ H (fun v H1 => ∃ c, v = .bl c ∧ Q c H1) :=
  let ⟨F, τ, g, q⟩ := h
  ⟨F, τ, g, OkB.of q⟩
theorem te_plain {e : E} (he : ExOk Γ cl gc cv H0 F0 e) {X : Cx} {W : WX} {sc : Scope} {x : Expr} (ft : Fits Γ cl gc cv X sc) (tk : Takes X W) (h : chkE Γ e sc x = true)
    (hp : ∀ whole, isTrue x X.env whole = (do let v ← whole; standAt x.pos; holding [v] (truthy v))) : PT X x (tTe X.K H0 F0 cv W (evB cl gc e)) :=
  PT.weak (pt_val (he X W sc x ft tk h) hp) fun σ H Q q => te_of q
theorem OkB.not {W : WX} {σ : L2.St} {F H : Hp} {Q : Bool → Hp → Prop} {x : Out Bool} (h : OkB cv W σ F H Q (x.bind fun c => .ok (!c))) : OkB cv W σ F H (fun c H1 => Q (!c) H1) x := by
  cases x <;> exact h
theorem evB_not (a : E) (τ : Ta) : evB cl gc (.not a) τ = (evB cl gc a τ).bind fun c => .ok (!c) := by
  unfold evB
  show Out.bind (Out.bind (ev cl gc a τ) _) _ = _
  cases ev cl gc a τ with
  | ok y => obtain ⟨k, d⟩ := y; cases d <;> rfl
  | raise c => rfl
  | stuck => rfl
theorem OkB.bind {W : WX} {σ : L2.St} {F H : Hp} {Q R : Bool → Hp → Prop} {x : Out Bool} {f : Bool → Out Bool} (h : OkB cv W σ F H Q (x.bind f)) (hR : ∀ b F1 H1, x = .ok b → Ext F H F1 H1 → OkB cv W σ F1 H1 Q (f b) → R b H1) : OkB cv W σ F H R x := by
  cases x with
  | ok b => exact fun F' H' e => hR b F' H' rfl e (OkB.after e h)
  | raise c => exact h
  | stuck => exact h
theorem evB_and (a b : E) (τ : Ta) : evB cl gc (.and a b) τ = (evB cl gc a τ).bind fun c => if c then evB cl gc b τ else .ok false := by
  unfold evB
  show Out.bind (Out.bind (ev cl gc a τ) _) _ = _
  cases ev cl gc a τ with
  | ok y => obtain ⟨k, d⟩ := y; cases d <;> first | rfl | (rename_i b; cases b <;> rfl)
  | raise c => rfl
  | stuck => rfl
theorem evB_or (a b : E) (τ : Ta) : evB cl gc (.or a b) τ = (evB cl gc a τ).bind fun c => if c then .ok true else evB cl gc b τ := by
  unfold evB
  show Out.bind (Out.bind (ev cl gc a τ) _) _ = _
  cases ev cl gc a τ with
  | ok y => obtain ⟨k, d⟩ := y; cases d <;> first | rfl | (rename_i b; cases b <;> rfl)
  | raise c => rfl
  | stuck => rfl
theorem pw_and_of {a b : E} {X : Cx} {W : WX} {x y : Expr} {r : List Expr} {pos : Pos} (ha : PT X x (tTe X.K H0 F0 cv W (evB cl gc a))) (hb : PW X (.BoolOp .And (y :: r) pos) (tTe X.K H0 F0 cv W (evB cl gc b))) :
    PW X (.BoolOp .And (x :: y :: r) pos) (tTe X.K H0 F0 cv W (evB cl gc (.and a b))) := by
  refine PW.weak (pw_and ha hb) fun σ H Q ⟨F, τ, g, q⟩ => ⟨F, τ, g, ?_⟩
  rw [evB_and] at q
  refine OkB.bind q fun b' F1 H1 _ e q1 => ?_
  cases b' with
  | true => exact ⟨F1, τ, g.step e, q1⟩
  | false => exact q1 F1 H1 (Ext.refl e.sub)
theorem pw_or_of {a b : E} {X : Cx} {W : WX} {x y : Expr} {r : List Expr} {pos : Pos} (ha : PT X x (tTe X.K H0 F0 cv W (evB cl gc a))) (hb : PW X (.BoolOp .Or (y :: r) pos) (tTe X.K H0 F0 cv W (evB cl gc b))) :
    PW X (.BoolOp .Or (x :: y :: r) pos) (tTe X.K H0 F0 cv W (evB cl gc (.or a b))) := by
  refine PW.weak (pw_or ha hb) fun σ H Q ⟨F, τ, g, q⟩ => ⟨F, τ, g, ?_⟩
  rw [evB_or] at q
  refine OkB.bind q fun b' F1 H1 _ e q1 => ?_
  cases b' with
  | false => exact ⟨F1, τ, g.step e, q1⟩
  | true => exact q1 F1 H1 (Ext.refl e.sub)
/-- an expression whose value is a truth, then the rest -/
theorem OkE.bl {K : PySem.W.Frag} {W : WX} {σ : L2.St} {F H : Hp} {Q R : VK} {x : Out (Kd × D)} {f : Bool → Out (Kd × D)} (h : OkE K H0 cv W σ F H Q (x.bind fun y => (asBool y).bind f))
    (hR : ∀ b F1 H1, Ext F H F1 H1 → OkE K H0 cv W σ F1 H1 Q (f b) → R (.bl b) H1) : OkE K H0 cv W σ F H R x := by
  refine OkE.then h fun k d _ v F1 H1 e r q => ?_
  cases d with
  | bool b => rw [r.pk.bl]; exact hR b F1 H1 e q
  | _ => exact q.elim
theorem pe_and_of {a b : E} {X : Cx} {W : WX} {x y : Expr} {r : List Expr} {pos : Pos} (ha : PE X x (tOf X.K H0 F0 cv W (ev cl gc a))) (hb : PE X (.BoolOp .And (y :: r) pos) (tOf X.K H0 F0 cv W (ev cl gc b))) :
    PE X (.BoolOp .And (x :: y :: r) pos) (tOf X.K H0 F0 cv W (ev cl gc (.and a b))) := by
  refine PE.weak (pe_and ha hb) fun σ H Q ⟨F, τ, g, q⟩ => ⟨F, τ, g, OkE.bl q fun c F1 H1 e q1 => ⟨c, rfl, ?_⟩⟩
  cases c with
  | true => exact ⟨F1, τ, g.step e, q1⟩
  | false => exact q1 _ F1 H1 (Ext.refl e.sub) (Rp.bl _)
theorem pe_or_of {a b : E} {X : Cx} {W : WX} {x y : Expr} {r : List Expr} {pos : Pos} (ha : PE X x (tOf X.K H0 F0 cv W (ev cl gc a))) (hb : PE X (.BoolOp .Or (y :: r) pos) (tOf X.K H0 F0 cv W (ev cl gc b))) :
    PE X (.BoolOp .Or (x :: y :: r) pos) (tOf X.K H0 F0 cv W (ev cl gc (.or a b))) := by
  refine PE.weak (pe_or ha hb) fun σ H Q ⟨F, τ, g, q⟩ => ⟨F, τ, g, OkE.bl q fun c F1 H1 e q1 => ⟨c, rfl, ?_⟩⟩
  cases c with
  | false => exact ⟨F1, τ, g.step e, q1⟩
  | true => exact q1 _ F1 H1 (Ext.refl e.sub) (Rp.bl _)
theorem ex_and {a b : E} (ha : ExOk Γ cl gc cv H0 F0 a) (hb : BoOk Γ cl gc cv H0 F0 b) : ExOk Γ cl gc cv H0 F0 (.and a b) := by
  intro X W sc x ft tk h
  cases x with
  | BoolOp op es p =>
    cases op with
    | And =>
      match es, h with
      | [], h => cases h
      | [_], h => cases h
      | x :: y :: r, h =>
        have h' : (chkE Γ a sc x && !isIfE x && chkB Γ .And b sc (y :: r)) = true := h
        rw [Bool.and_eq_true, Bool.and_eq_true, Bool.not_eq_true'] at h'
        exact pe_and_of (ha X W sc x ft tk h'.1.1) (hb X W sc .And (y :: r) p ft tk h'.2).1
    | Or => cases es <;> cases h
  | _ => cases h
theorem ex_or {a b : E} (ha : ExOk Γ cl gc cv H0 F0 a) (hb : BoOk Γ cl gc cv H0 F0 b) : ExOk Γ cl gc cv H0 F0 (.or a b) := by
  intro X W sc x ft tk h
  cases x with
  | BoolOp op es p =>
    cases op with
    | Or =>
      match es, h with
      | [], h => cases h
      | [_], h => cases h
      | x :: y :: r, h =>
        have h' : (chkE Γ a sc x && !isIfE x && chkB Γ .Or b sc (y :: r)) = true := h
        rw [Bool.and_eq_true, Bool.and_eq_true, Bool.not_eq_true'] at h'
        exact pe_or_of (ha X W sc x ft tk h'.1.1) (hb X W sc .Or (y :: r) p ft tk h'.2).1
    | And => cases es <;> cases h
  | _ => cases h
theorem te_and {a b : E} (ha : TeOk Γ cl gc cv H0 F0 a) (hb : BoOk Γ cl gc cv H0 F0 b) : TeOk Γ cl gc cv H0 F0 (.and a b) := by
  intro X W sc x ft tk h _
  cases x with
  | BoolOp op es p =>
    cases op with
    | And =>
      match es, h with
      | [], h => cases h
      | [_], h => cases h
      | x :: y :: r, h =>
        have h' : (chkE Γ a sc x && !isIfE x && chkB Γ .And b sc (y :: r)) = true := h
        rw [Bool.and_eq_true, Bool.and_eq_true, Bool.not_eq_true'] at h'
        exact (pw_and_of (ha X W sc x ft tk h'.1.1 h'.1.2) (hb X W sc .And (y :: r) p ft tk h'.2).2).pt
    | Or => cases es <;> cases h
  | _ => cases h
theorem te_or {a b : E} (ha : TeOk Γ cl gc cv H0 F0 a) (hb : BoOk Γ cl gc cv H0 F0 b) : TeOk Γ cl gc cv H0 F0 (.or a b) := by
  intro X W sc x ft tk h _
  cases x with
  | BoolOp op es p =>
    cases op with
    | Or =>
      match es, h with
      | [], h => cases h
      | [_], h => cases h
      | x :: y :: r, h =>
        have h' : (chkE Γ a sc x && !isIfE x && chkB Γ .Or b sc (y :: r)) = true := h
        rw [Bool.and_eq_true, Bool.and_eq_true, Bool.not_eq_true'] at h'
        exact (pw_or_of (ha X W sc x ft tk h'.1.1 h'.1.2) (hb X W sc .Or (y :: r) p ft tk h'.2).2).pt
    | And => cases es <;> cases h
  | _ => cases h
theorem bo_one {a : E} (ha : ExOk Γ cl gc cv H0 F0 a) (ta : TeOk Γ cl gc cv H0 F0 a) : BoOk Γ cl gc cv H0 F0 (.one a) := by
  intro X W sc op x pos ft tk h
  match x, h with
  | [], h => cases h
  | [y], h =>
    have h' : (chkE Γ a sc y && !isIfE y) = true := h
    rw [Bool.and_eq_true, Bool.not_eq_true'] at h'
    refine ⟨pe_one (ha X W sc y ft tk h'.1), ?_⟩
    have q := ta X W sc y ft tk h'.1 h'.2
    cases op with
    | And => exact pw_and1 q
    | Or => exact pw_or1 q
  | _ :: _ :: _, h => cases h
theorem bo_and {a b : E} (ha : ExOk Γ cl gc cv H0 F0 a) (ta : TeOk Γ cl gc cv H0 F0 a) (hb : BoOk Γ cl gc cv H0 F0 b) : BoOk Γ cl gc cv H0 F0 (.and a b) := by
  intro X W sc op x pos ft tk h
  match x, h with
  | [], h => cases h
  | [y], h => cases h
  | x :: y :: r, h =>
    have h' : (op == .And && chkE Γ a sc x && !isIfE x && chkB Γ op b sc (y :: r)) = true := h
    cases op with
    | Or => cases h'
    | And =>
      simp only [Bool.and_eq_true, Bool.not_eq_true'] at h'
      have q := hb X W sc .And (y :: r) pos ft tk h'.2
      exact ⟨pe_and_of (ha X W sc x ft tk h'.1.1.2) q.1, pw_and_of (ta X W sc x ft tk h'.1.1.2 h'.1.2) q.2⟩
theorem bo_or {a b : E} (ha : ExOk Γ cl gc cv H0 F0 a) (ta : TeOk Γ cl gc cv H0 F0 a) (hb : BoOk Γ cl gc cv H0 F0 b) : BoOk Γ cl gc cv H0 F0 (.or a b) := by
  intro X W sc op x pos ft tk h
  match x, h with
  | [], h => cases h
  | [y], h => cases h
  | x :: y :: r, h =>
    have h' : (op == .Or && chkE Γ a sc x && !isIfE x && chkB Γ op b sc (y :: r)) = true := h
    cases op with
    | And => cases h'
    | Or =>
      simp only [Bool.and_eq_true, Bool.not_eq_true'] at h'
      have q := hb X W sc .Or (y :: r) pos ft tk h'.2
      exact ⟨pe_or_of (ha X W sc x ft tk h'.1.1.2) q.1, pw_or_of (ta X W sc x ft tk h'.1.1.2 h'.1.2) q.2⟩
theorem ex_neg {a : E} (ha : ExOk Γ cl gc cv H0 F0 a) : ExOk Γ cl gc cv H0 F0 (.neg a) := by
  intro X W sc x ft tk h
  cases x with
  | UnaryOp op y p =>
    cases op with
    | USub =>
      refine PE.weak (pe_un un_neg (ha X W sc y ft tk h)) fun σ H Q ⟨F, τ, g, q⟩ => ⟨F, τ, g, OkE.then q fun k d _ v F1 H1 e r q1 => ?_⟩
      cases d with
      | int i => exact ⟨i, r.pk.int, q1 _ F1 H1 (Ext.refl e.sub) (Rp.int _)⟩
      | _ => exact q1.elim
    | _ => cases h
  | _ => cases h
theorem ex_not {a : E} (ha : ExOk Γ cl gc cv H0 F0 a) : ExOk Γ cl gc cv H0 F0 (.not a) := by
  intro X W sc x ft tk h
  cases x with
  | UnaryOp op y p =>
    cases op with
    | Not =>
      have h' : (chkE Γ a sc y && !isIfE y) = true := h
      rw [Bool.and_eq_true] at h'
      exact PE.weak (pe_not (ha X W sc y ft tk h'.1)) fun σ H Q ⟨F, τ, g, q⟩ => ⟨F, τ, g, OkE.bl q fun c F1 H1 e q1 => ⟨c, rfl, q1 _ F1 H1 (Ext.refl e.sub) (Rp.bl _)⟩⟩
    | _ => cases h
  | _ => cases h
theorem te_not {a : E} (ha : TeOk Γ cl gc cv H0 F0 a) : TeOk Γ cl gc cv H0 F0 (.not a) := by
  intro X W sc x ft tk h _
  cases x with
  | UnaryOp op y p =>
    cases op with
    | Not =>
      have h' : (chkE Γ a sc y && !isIfE y) = true := h
      rw [Bool.and_eq_true, Bool.not_eq_true'] at h'
      refine PT.weak (pt_not (ha X W sc y ft tk h'.1 h'.2)) fun σ H Q ⟨F, τ, g, q⟩ => ⟨F, τ, g, ?_⟩
      rw [evB_not] at q
      exact OkB.not q
    | _ => cases h
  | _ => cases h
theorem te_cmp {o : Cop} {a b : E} (ha : ExOk Γ cl gc cv H0 F0 a) (hb : ExOk Γ cl gc cv H0 F0 b) : TeOk Γ cl gc cv H0 F0 (.cmp o a b) := by
  intro X W sc x ft tk h _
  cases x with
  | Compare a' ops bs p =>
    match ops, bs, h with
    | [op], [b'], h =>
      simp only [chkE, Bool.and_eq_true] at h
      have hm : behindInMarks op b' = false := by
        cases b' with
        | Set => exact absurd h.2 (by cases b <;> exact Bool.false_ne_true)
        | _ => rfl
      exact PT.weak (pt_cmpR (cmp_ok (H0 := H0) ft.hu h.1.1) (ha X W sc a' ft tk h.1.2) (hb X W sc b' ft tk h.2) hm) fun σ H Q q => step2 (cmp_nr o) (te_of q)
    | [], _, h => cases h
    | [_], [], h => cases h
    | [_], _ :: _ :: _, h => cases h
    | _ :: _ :: _, _, h => cases h
  | _ => cases h
theorem ex_ife {c a b : E} (hc : TeOk Γ cl gc cv H0 F0 c) (ha : ExOk Γ cl gc cv H0 F0 a) (hb : ExOk Γ cl gc cv H0 F0 b) : ExOk Γ cl gc cv H0 F0 (.ife c a b) := by
  intro X W sc x ft tk h
  cases x with
  | IfExp c' a' b' p =>
    have h' : (chkE Γ c sc c' && !isIfE c' && chkE Γ a sc a' && chkE Γ b sc b') = true := h
    simp only [Bool.and_eq_true, Bool.not_eq_true'] at h'
    refine PE.weak (pe_ifExp (hc X W sc c' ft tk h'.1.1.1 h'.1.1.2) (ha X W sc a' ft tk h'.1.2) (hb X W sc b' ft tk h'.2)) fun σ H Q ⟨F, τ, g, q⟩ => ⟨F, τ, g, ?_⟩
    change OkE _ _ _ _ _ _ _ _ ((ev cl gc c τ).bind fun x => (asBool x).bind fun k => if k = true then ev cl gc a τ else ev cl gc b τ) at q
    unfold evB
    cases ec : ev cl gc c τ with
    | stuck => rw [ec] at q; exact q
    | raise k => rw [ec] at q; exact q
    | ok y =>
      rw [ec] at q
      cases eb : asBool y with
      | stuck => simp only [Out.bind, eb] at q; exact q.elim
      | raise k => obtain ⟨k', d⟩ := y; cases d <;> cases eb
      | ok t =>
        simp only [Out.bind, eb] at q ⊢
        intro F1 H1 e
        cases t with
        | true => exact ⟨F1, τ, g.step e, OkE.after e q⟩
        | false => exact ⟨F1, τ, g.step e, OkE.after e q⟩
  | _ => cases h
end
end VL
namespace VL
open PySem PySem.Spec L2
/-- f() -/
theorem pe_callS0 {X : Cx} {CX : CXT} {k : Nat} {f : Addr} {fd : FuncData} {ps : List Str} {sp : Sp} {E : L2.St → XK} {x : Str} {p pos : Pos} (F : FnOk X.prog X.w X.K X.mg X.base CX k f fd ps sp) (hr : Room k X.A) (hg : Gl X x) (hm : X.mg x = some (.ref f))
    (hk : PySem.W.keepIn X.K (.ref f) = true) (hb : Binds X.K fd ps []) (hx : ∀ σ, PassesAt CX X σ (E σ)) (hdb : (x == ("__debug__" : Str)) = false) : PE X (.Call (.Name x p) [] [] pos) (tCallS sp E tNil) :=
  ⟨fun pins s σ H Q I h => wpAny_Call_Name_kw (ld_glob I hg hm (PySem.W.callWith_K0 I.kIn hk (run_fnS (us := []) F hr hb (hx σ) I .nil h)) hdb)⟩
section
variable {Γ : Gam} {cl : Nat → List D → Out (Bool × D)} {gc : Nat → D} {cv : Nat → Value} {H0 F0 : Hp}

/-! ### slices -/
def optE (cl : Nat → List D → Out (Bool × D)) (gc : Nat → D) (e : E) (τ : Ta) : Out (Option Int) := match e with
  | .one b => (ev cl gc b τ).bind optInt
  | _ => .ok none
def OpOk (Γ : Gam) (cl : Nat → List D → Out (Bool × D)) (gc : Nat → D) (cv : Nat → Value) (H0 F0 : Hp) (e : E) : Prop :=
  ∀ (X : Cx) (W : WX) (sc : Scope) (x : Option Expr), Fits Γ cl gc cv X sc → Takes X W → chkO Γ e sc x = true → PO X x (tOo X.K H0 F0 cv W (optE cl gc e))
end
end VL
namespace VL
open PySem PySem.Spec L2
theorem PO.weak {X : Cx} {e : Option Expr} {t t' : TO} (h : PO X e t) (w : ∀ σ H Q, t' σ H Q → t σ H Q) : PO X e t' := ⟨fun pins s σ H Q I q => h.run pins s σ H Q I (w σ H Q q)⟩
section
variable {Γ : Gam} {cl : Nat → List D → Out (Bool × D)} {gc : Nat → D} {cv : Nat → Value} {H0 F0 : Hp}
theorem op_nil : OpOk Γ cl gc cv H0 F0 .nil := by
  intro X W sc x ft tk h
  cases x with
  | none => exact PO.weak po_none fun σ H Q ⟨F, τ, g, q⟩ => q F H (Ext.refl g.sub)
  | some y => cases h
theorem op_one {a : E} (ha : ExOk Γ cl gc cv H0 F0 a) : OpOk Γ cl gc cv H0 F0 (.one a) := by
  intro X W sc x ft tk h
  cases x with
  | none => cases h
  | some y =>
    refine PO.weak (po_some (ha X W sc y ft tk h)) fun σ H Q ⟨F, τ, g, q⟩ => ⟨F, τ, g, ?_⟩
    change OkO _ _ _ _ _ _ ((ev cl gc a τ).bind optInt) at q
    cases ea : ev cl gc a τ with
    | ok z =>
      obtain ⟨k, d⟩ := z
      rw [ea] at q
      cases d with
      | int i => exact fun v F' H' e r => ⟨i, r.pk.int, q F' H' e⟩
      | _ => exact q.elim
    | raise c => rw [ea] at q; exact q
    | stuck => rw [ea] at q; exact q
theorem ex_sl {a lo hi : E} (ha : ExOk Γ cl gc cv H0 F0 a) (hl : OpOk Γ cl gc cv H0 F0 lo) (hh : OpOk Γ cl gc cv H0 F0 hi) : ExOk Γ cl gc cv H0 F0 (.sl a lo hi) := by
  intro X W sc x ft tk h
  cases x with
  | Subscript a' b' p =>
    cases b' with
    | Slice l u st p2 =>
      cases st with
      | none =>
        have h' : (chkE Γ a sc a' && chkO Γ lo sc l && chkO Γ hi sc u) = true := h
        rw [Bool.and_eq_true, Bool.and_eq_true] at h'
        refine PE.weak (pe_slice (sl_ok (H0 := H0)) (ha X W sc a' ft tk h'.1.1) (hl X W sc l ft tk h'.1.2) (hh X W sc u ft tk h'.2)) fun σ H Q ⟨F, τ, g, q⟩ => ⟨F, τ, g, ?_⟩
        have q : OkE X.K H0 cv W σ F H Q ((ev cl gc a τ).bind fun x => (optE cl gc lo τ).bind fun l => (optE cl gc hi τ).bind fun h => slD x.2 l h) := by
          have e : ev cl gc (.sl a lo hi) τ = ((ev cl gc a τ).bind fun x => (optE cl gc lo τ).bind fun l => (optE cl gc hi τ).bind fun h => slD x.2 l h) := by cases lo <;> cases hi <;> rfl
          rw [← e]; exact q
        refine OkE.then q fun k d _ v F1 H1 e1 r1 q1 => ⟨F1, τ, g.step e1, ?_⟩
        cases el : optE cl gc lo τ with
        | stuck => rw [el] at q1; exact q1
        | raise c => rw [el] at q1; exact q1
        | ok l' =>
          rw [el] at q1
          intro F2 H2 e2
          refine ⟨F2, τ, (g.step e1).step e2, ?_⟩
          have q2 := OkE.after e2 q1
          change OkE _ _ _ _ _ _ _ _ ((optE cl gc hi τ).bind _) at q2
          cases eh : optE cl gc hi τ with
          | stuck => rw [eh] at q2; exact q2
          | raise c => rw [eh] at q2; exact q2
          | ok h' =>
            rw [eh] at q2
            intro F3 H3 e3
            exact ⟨F3, d, e3.sub, r1.pk.ext (e2.trans e3), post_of (sl_nr d l' h') (OkE.after e3 q2)⟩
      | some => cases h
    | _ => cases h
  | _ => cases h

theorem revB_eq {b : Expr} (h : revB b = true) : ∃ k p1 p2 p3, b = .Slice none none (some (.UnaryOp .USub (.Constant (.int 1) k p1) p2)) p3 := by
  unfold revB at h
  split at h
  · rw [decide_eq_true_eq] at h
    subst h
    exact ⟨_, _, _, _, rfl⟩
  · cases h
theorem ex_rev {a : E} (ha : ExOk Γ cl gc cv H0 F0 a) : ExOk Γ cl gc cv H0 F0 (.rev a) := by
  intro X W sc x ft tk h
  cases x with
  | Subscript a' b' p =>
    have h' : (revB b' && chkE Γ a sc a') = true := h
    rw [Bool.and_eq_true] at h'
    obtain ⟨k, p1, p2, p3, rfl⟩ := revB_eq h'.1
    refine PE.weak (pe_revL (ha X W sc a' ft tk h'.2)) fun σ H Q ⟨F, τ, g, q⟩ => ⟨F, τ, g, OkE.then q fun k d _ v F1 H1 e1 r1 q1 => ?_⟩
    cases d with
    | list ds =>
      obtain ⟨b, xs, rfl, hx, z, r⟩ := r1.pk.list e1.sub
      refine ⟨b, xs, rfl, rd_sq hx, fun p hp => ?_⟩
      obtain ⟨ex, rs⟩ := own_new (H0 := H0) e1.sub hp (by rw [List.length_reverse]; exact z) r.reverse
      exact q1 _ _ _ ex rs
    | _ => exact q1.elim
  | _ => cases h

/-! ### calls -/
theorem OkE.call {K : PySem.W.Frag} {W : WX} {σ : L2.St} {F H : Hp} {Q : VK} {j : Nat} {ds : List D} {vs : List V} (s : Same F H) (r : RpA K F vs ds) (h0 : Same H0 H)
    (h : OkE K H0 cv W σ F H Q ((cl j ds).bind fun z => .ok (ownK z.1, z.2))) : spV K cv (cl j) vs H Q (WE W σ) := by
  refine ⟨F, ds, s, r, ?_⟩
  cases e : cl j ds with
  | stuck => rw [e] at h; exact h
  | raise c => rw [e] at h; exact h
  | ok z =>
    obtain ⟨own, d⟩ := z
    rw [e] at h
    intro v F' H' x q
    refine h v F' H' x ?_
    cases own with
    | true => exact q
    | false => exact q
theorem ex_call {j : Nat} {r : E} (hr : ArOk Γ cl gc cv H0 F0 r) : ExOk Γ cl gc cv H0 F0 (.call j r) := by
  intro X W sc x ft tk h
  cases x with
  | Call f es ks p =>
    cases f with
    | Name y p2 =>
      cases ks with
      | cons => cases h
      | nil =>
        have h' : (okn y && glB sc y && decide (Γ.fn.lookup y = some j) && chkA Γ r sc es) = true := h
        simp only [Bool.and_eq_true, decide_eq_true_eq] at h'
        obtain ⟨⟨⟨h1, h2⟩, h3⟩, h4⟩ := h'
        obtain ⟨f, fd, ps, k, hm, hk, hro, F, hb⟩ := ft.fns y j h3
        have hg := gl_of h2 ft.sc
        have ha := hr X W sc es ft tk h4
        have rd : ∀ σ H Q, tOf X.K H0 F0 cv W (ev cl gc (.call j r)) σ H Q → tCallS (spV X.K cv (cl j)) (WE W) (tAs X.K H0 F0 cv W (ev cl gc r)) σ H Q := fun σ H Q ⟨F, τ, g, q⟩ => by
          refine ⟨F, τ, g, OkE.args q (fun k d hd => ?_) fun k ds vs F1 H1 _ e1 p1 r1 q1 => ?_⟩
          · cases k <;> cases d <;> first | rfl | exact hd.elim
          · cases k with
            | fz => exact OkE.call e1.sub (r1 rfl) (g.base.trans e1.same) q1
            | _ => exact q1.elim
        cases es with
        | cons e es =>
          have h5 : chkE Γ (match r with | .cons a _ => a | .conp a _ => a | e => e) sc e = true ∧ chkA Γ (match r with | .cons _ b => b | .conp _ b => b | e => e) sc es = true := by
            cases r <;> first | cases h4 | (have h6 := h4; simp only [chkA, Bool.and_eq_true] at h6; exact h6)
          exact PE.weak (pe_callS F hro hg hm hk hb (fun σ => passAt tk σ) ha (okn_of h1).1 (not_star h5.1 _ _) (star_any h5.2)) rd
        | nil =>
          cases r with
          | nil =>
            refine PE.weak (pe_callS0 (E := WE W) F hro hg hm hk hb (fun σ => passAt tk σ) (okn_of h1).1) fun σ H Q q => ?_
            obtain ⟨F, τ, g, q⟩ := q
            exact OkE.call (vs := []) g.sub .nil g.base q
          | _ => cases h4
    | _ => cases es <;> cases ks <;> cases h
  | _ => cases h
theorem ex_bi {b : BI} {r : E} (hr : ArOk Γ cl gc cv H0 F0 r) : ExOk Γ cl gc cv H0 F0 (.bi b r) := by
  intro X W sc x ft tk h
  cases x with
  | Call f es ks p =>
    cases f with
    | Name y p2 =>
      cases ks with
      | cons => cases es <;> cases h
      | nil =>
        cases es with
        | nil => cases h
        | cons e es =>
          have h' : (glB sc y && decide (y = biName b) && chkA Γ r sc (e :: es)) = true := h
          simp only [Bool.and_eq_true, decide_eq_true_eq] at h'
          obtain ⟨⟨h2, rfl⟩, h4⟩ := h'
          have hg := gl_of h2 ft.sc
          have ha := hr X W sc (e :: es) ft tk h4
          have hm : X.mg (biName b) = none := ft.blt _ (by cases b <;> decide)
          have h5 : chkE Γ (match r with | .cons a _ => a | .conp a _ => a | e => e) sc e = true ∧ chkA Γ (match r with | .cons _ b => b | .conp _ b => b | e => e) sc es = true := by
            cases r <;> first | cases h4 | (have h6 := h4; simp only [chkA, Bool.and_eq_true] at h6; exact h6)
          have hn : biName b ≠ "__name__" := by cases b <;> decide
          have hd : (biName b == ("__debug__" : Str)) = false := by cases b <;> decide
          have rd : ∀ σ H Q, tOf X.K H0 F0 cv W (ev cl gc (.bi b r)) σ H Q → tCB (rsD X.K H0 (biD b)) (tAs X.K H0 F0 cv W (ev cl gc r)) σ H Q := fun σ H Q ⟨F, τ, g, q⟩ => by
            refine ⟨F, τ, g, OkE.args q (fun k d hd => ?_) fun k ds vs F1 H1 _ e1 p1 r1 q1 => ?_⟩
            · cases d <;> first | rfl | exact hd.elim
            · exact ⟨F1, ds, e1.sub, p1, post_of (bi_nr b ds) q1⟩
          have go : ∀ v, biVal b = v → (∃ id, v = .builtin id) ∨ (∃ T, v = .type T) → PE X (.Call (.Name (biName b) p2) (e :: es) [] p) (tCB (rsD X.K H0 (biD b)) (tAs X.K H0 F0 cv W (ev cl gc r))) := fun v hv hc => by
            have hb := boot_bi b
            have hc' := bi_ok (X := X) (H0 := H0) ft.calm b
            rw [hv] at hb hc'
            rcases hc with ⟨id, rfl⟩ | ⟨T, rfl⟩
            · exact pe_callB hc' hg hm hb ha hn hd (not_star h5.1 _ _) (star_any h5.2)
            · exact pe_callTy hc' hg hm hb ha hn hd (not_star h5.1 _ _) (star_any h5.2)
          exact PE.weak (go _ rfl (by cases b <;> first | exact .inl ⟨_, rfl⟩ | exact .inr ⟨_, rfl⟩)) rd
    | _ => cases es <;> cases ks <;> cases h
  | _ => cases h
end
end VL
namespace VL
open PySem PySem.Spec L2
section
variable {Γ : Gam} {cl : Nat → List D → Out (Bool × D)} {gc : Nat → D} {cv : Nat → Value} {H0 F0 : Hp}
theorem args_split {r : E} {sc : Scope} {e : Expr} {es : List Expr} (h4 : chkA Γ r sc (e :: es) = true) : ∃ a b, (r = .cons a b ∨ r = .conp a b) ∧ chkE Γ a sc e = true ∧ chkA Γ b sc es = true := by
  cases r with
  | cons a b =>
    have h : (chkE Γ a sc e && chkA Γ b sc es) = true := h4
    rw [Bool.and_eq_true] at h
    exact ⟨a, b, .inl rfl, h⟩
  | conp a b =>
    have h : (chkE Γ a sc e && chkA Γ b sc es) = true := h4
    rw [Bool.and_eq_true] at h
    exact ⟨a, b, .inr rfl, h⟩
  | _ => cases h4
theorem ar_tail {r : E} (h : ArOk Γ cl gc cv H0 F0 r) : True := trivial
/-- the frozen values of arguments -/
theorem OkE.fargs {K : PySem.W.Frag} {W : WX} {σ : L2.St} {F H : Hp} {Q : VK} {x : Out (Kd × D)} {f : List D → Out (Kd × D)} (h : OkE K H0 cv W σ F H Q (x.bind fun y => match y with | (.fz, .list ds) => f ds | _ => .stuck)) {R : List V → Hp → Prop}
    (hR : ∀ ds vs F1 H1, Ext F H F1 H1 → RpA K F1 vs ds → OkE K H0 cv W σ F1 H1 Q (f ds) → R vs H1) : OkA K cv W σ F H R x := by
  refine OkE.args h (fun k d hd => ?_) fun k ds vs F1 H1 _ e1 p1 r1 q1 => ?_
  · cases k <;> cases d <;> first | rfl | exact hd.elim
  · cases k with
    | fz => exact hR ds vs F1 H1 e1 (r1 rfl) q1
    | _ => exact q1.elim
/-- one argument, two arguments: what their list comes to -/
theorem args1 {a : E} {τ : Ta} {f : List D → Out (Kd × D)} : ((ev cl gc (.cons a .nil) τ).bind fun y => match y with | (.fz, .list ds) => f ds | _ => .stuck) = (ev cl gc a τ).bind fun x => (keep x).bind fun d => f [d] := by
  show Out.bind (Out.bind (ev cl gc a τ) _) _ = _
  cases ev cl gc a τ with
  | ok x => obtain ⟨k, d⟩ := x; cases k <;> rfl
  | raise c => rfl
  | stuck => rfl
theorem args2 {a b : E} {τ : Ta} {f : List D → Out (Kd × D)} : ((ev cl gc (.cons a (.cons b .nil)) τ).bind fun y => match y with | (.fz, .list ds) => f ds | _ => .stuck) =
    (ev cl gc a τ).bind fun x => (keep x).bind fun d => (ev cl gc b τ).bind fun y => (keep y).bind fun e => f [d, e] := by
  show Out.bind (Out.bind (ev cl gc a τ) _) _ = _
  cases ev cl gc a τ with
  | ok x =>
    obtain ⟨k, d⟩ := x
    cases k <;> first
      | rfl
      | (show Out.bind (Out.bind (Out.bind (ev cl gc b τ) _) _) _ = Out.bind (ev cl gc b τ) _
         cases ev cl gc b τ with
         | ok y => obtain ⟨k, d⟩ := y; cases k <;> rfl
         | raise c => rfl
         | stuck => rfl)
  | raise c => rfl
  | stuck => rfl
theorem argsp {a b : E} {τ : Ta} {f : List D → Out (Kd × D)} : ∀ d, ((ev cl gc (.conp a b) τ).bind fun y => match y with | (.fz, .list ds) => f ds | _ => .stuck) ≠ .ok d := by
  intro d
  show Out.bind (Out.bind (ev cl gc a τ) _) _ ≠ _
  cases ev cl gc a τ with
  | ok x =>
    show Out.bind (Out.bind (ev cl gc b τ) _) _ ≠ _
    cases ev cl gc b τ with
    | ok y => obtain ⟨k, d⟩ := y; cases d <;> exact fun h => nomatch h
    | raise c => exact fun h => nomatch h
    | stuck => exact fun h => nomatch h
  | raise c => exact fun h => nomatch h
  | stuck => exact fun h => nomatch h
/-- a kept value -/
theorem OkE.kept {K : PySem.W.Frag} {W : WX} {σ : L2.St} {F H : Hp} {Q R : VK} {x : Out (Kd × D)} {f : D → Out (Kd × D)} (h : OkE K H0 cv W σ F H Q (x.bind fun y => (keep y).bind f))
    (hR : ∀ d v F1 H1, Ext F H F1 H1 → Rp K F1 v d → OkE K H0 cv W σ F1 H1 Q (f d) → R v H1) : OkE K H0 cv W σ F H R x := by
  cases x with
  | ok y =>
    obtain ⟨k, d⟩ := y
    intro v F1 H1 e1 r1
    change OkE _ _ _ _ _ _ _ _ ((keep (k, d)).bind f) at h
    cases ek : keep (k, d) with
    | stuck => rw [ek] at h; exact h.elim
    | raise c => cases k <;> cases ek
    | ok d' =>
      obtain ⟨e2, e3⟩ := keep_ok ek
      change d = d' at e2
      subst e2
      obtain ⟨F2, x2, s2, rp⟩ := r1.keep e1 e3
      rw [ek] at h
      exact hR d v F2 H1 x2 rp (OkE.after x2 h)
  | raise c => exact h
  | stuck => exact h
theorem m1_of {X : Cx} {o e : Expr} {m : Str} {apos cpos : Pos} {a : E} {sc : Scope} (hc : call0 o = false) (hl : (apos.endLine == cpos.line) = true) (he : chkE Γ a sc e = true) : M1 X o m apos e cpos := by
  have hs := not_star he [] X.env
  refine ⟨attr_base hc _ _ _, ?_, hl, ?_⟩
  · rw [hs]; rfl
  · rw [hs]; rfl
theorem m2_of {X : Cx} {o e f : Expr} {m : Str} {apos cpos : Pos} {a b : E} {sc : Scope} (hc : call0 o = false) (hl : (apos.endLine == cpos.line) = true) (he : chkE Γ a sc e = true) (hf : chkE Γ b sc f = true) : M2 X o m apos e f cpos := by
  have hs := not_star he [f] X.env
  have ht := not_star hf [] X.env
  refine ⟨attr_base hc _ _ _, ?_, hl, ?_⟩
  · rw [hs, ht]; rfl
  · rw [hs, ht]; rfl
theorem ex_me {m : ME} {o r : E} (ho : ExOk Γ cl gc cv H0 F0 o) (hr : ArOk Γ cl gc cv H0 F0 r) (ht : ∀ a b, r = .cons a b ∨ r = .conp a b → ExOk Γ cl gc cv H0 F0 a ∧ ∀ c d, b = .cons c d ∨ b = .conp c d → ExOk Γ cl gc cv H0 F0 c) : ExOk Γ cl gc cv H0 F0 (.me m o r) := by
  intro X W sc x ft tk h
  cases x with
  | Call f es ks cpos =>
    cases f with
    | Attribute o' y apos =>
      cases ks with
      | cons => cases es <;> cases h
      | nil =>
        cases es with
        | nil => cases h
        | cons e es =>
          have h' : (decide (y = meName m) && decide (meArgs m = es.length + 1) && (apos.endLine == cpos.line) && !call0 o' && consE r && chkE Γ o sc o' && chkA Γ r sc (e :: es)) = true := h
          rw [Bool.and_eq_true, Bool.and_eq_true, Bool.and_eq_true, Bool.and_eq_true, Bool.and_eq_true, Bool.and_eq_true, decide_eq_true_eq, decide_eq_true_eq, Bool.not_eq_true'] at h'
          obtain ⟨⟨⟨⟨⟨⟨rfl, hn⟩, hl⟩, hc⟩, hce⟩, h1⟩, h4⟩ := h'
          have po := ho X W sc o' ft tk h1
          have ha := hr X W sc (e :: es) ft tk h4
          obtain ⟨a, b, hab, h5, h6⟩ := args_split h4
          have hu1 : X.A.units + 1 < cLine := by have := ft.hu; omega
          cases m with
          | index =>
            refine PE.weak (pe_bm PySem.F.plainAttrs_list PySem.F.slot_list_index PySem.F.type_list_index (me_index (H0 := H0)) po ha (attr_base hc _ _ _) (star_few (n := 0) h4 (by have : meArgs .index = 1 := rfl; rw [this] at hn; rw [List.length_cons]; omega)) hl (not_star h5 _ _) (star_any h6)) fun σ H Q ⟨F, τ, g, q⟩ => ⟨F, τ, g, ?_⟩
            refine OkE.then q fun k d _ v F1 H1 e1 r1 q1 => ?_
            cases d with
            | list ds =>
              have q1 : OkE X.K H0 cv W σ F1 H1 Q ((ev cl gc r τ).bind fun y => match y with | (.fz, .list es) => meD .index (.list ds) es | _ => .stuck) := q1
              obtain ⟨p, xs, rfl, hx, _, _⟩ := r1.pk.list e1.sub
              refine ⟨.inl ⟨rfl, xs, rd_sq hx⟩, F1, τ, g.step e1, OkE.fargs q1 fun es vs F2 H2 e2 r2 q2 => ?_⟩
              exact ⟨F2, .list ds, es, e2.sub, r1.pk.ext e2, r2.pk, post_of (me_nr _ _ _) q2⟩
            | _ => exact q1.elim
          | get1 =>
            have : es = [] := by
              have : meArgs .get1 = 1 := rfl
              rw [this] at hn
              exact List.eq_nil_of_length_eq_zero (by omega)
            subst this
            rcases hab with rfl | rfl
            · obtain ⟨xa, _⟩ := ht a b (.inl rfl)
              have hb : b = .nil := by cases b <;> first | rfl | cases h6
              subst hb
              refine PE.weak (pe_dget1 hu1 po (xa X W sc e ft tk h5) (m1_of hc hl h5)) fun σ H Q ⟨F, τ, g, q⟩ => ⟨F, τ, g, OkE.then q fun k d _ v F1 H1 e1 r1 q1 => ?_⟩
              cases d with
              | dict ds =>
                obtain ⟨p, xs, rfl, hx, _, rr⟩ := r1.pk.dict e1.sub
                have q1 : OkE X.K H0 cv W σ F1 H1 Q ((ev cl gc (.cons a .nil) τ).bind fun y => match y with | (.fz, .list es) => meD .get1 (.dict ds) es | _ => .stuck) := q1
                rw [args1] at q1
                refine ⟨p, rfl, .inl ⟨xs, hx⟩, F1, τ, g.step e1, OkE.kept q1 fun kd y F2 H2 e2 r2 q2 => ?_⟩
                have q2 : OkE X.K H0 cv W σ F2 H2 Q (if keyD kd = true then .ok (.fz, (getD ds kd).getD .none) else .stuck) := q2
                split at q2
                · rename_i hk
                  obtain ⟨kk, rfl, rfl⟩ := key_of (H := F2) hk (.inl r2)
                  refine ⟨valV xs kk, .inl ⟨xs, kk, Same.rd e2.same hx, rfl, rfl⟩, ?_⟩
                  rcases val_of kk (rr.mono e2.le) with ⟨z1, z2, _⟩ | ⟨w, d', z1, z2, z3, _⟩
                  · rw [z1]; rw [z2] at q2; exact q2 _ _ _ (Ext.refl e2.sub) Rp.non
                  · rw [z1]; rw [z2] at q2; exact q2 _ _ _ (Ext.refl e2.sub) z3
                · exact q2.elim
              | _ => exact q1.elim
            · cases hce
          | get2 =>
            match es, hn with
            | [], hn => cases hn
            | _ :: _ :: _, hn => cases hn
            | [f], hn =>
              rcases hab with rfl | rfl
              · obtain ⟨xa, xb⟩ := ht a b (.inl rfl)
                obtain ⟨c, d, hcd, h7, h8⟩ := args_split h6
                rcases hcd with rfl | rfl
                · have xc := xb c d (.inl rfl)
                  have hb : d = .nil := by cases d <;> first | rfl | cases h8
                  subst hb
                  refine PE.weak (pe_dget2 hu1 po (xa X W sc e ft tk h5) (xc X W sc f ft tk h7) (m2_of hc hl h5 h7)) fun σ H Q ⟨F, τ, g, q⟩ => ⟨F, τ, g, OkE.then q fun k dd _ v F1 H1 e1 r1 q1 => ?_⟩
                  cases dd with
                  | dict ds =>
                    obtain ⟨p, xs, rfl, hx, _, rr⟩ := r1.pk.dict e1.sub
                    have q1 : OkE X.K H0 cv W σ F1 H1 Q ((ev cl gc (.cons a (.cons c .nil)) τ).bind fun y => match y with | (.fz, .list es) => meD .get2 (.dict ds) es | _ => .stuck) := q1
                    rw [args2] at q1
                    refine ⟨p, rfl, .inl ⟨xs, hx⟩, F1, τ, g.step e1, OkE.kept q1 fun kd y F2 H2 e2 r2 q2 => ⟨F2, τ, (g.step e1).step e2, OkE.kept q2 fun zd z F3 H3 e3 r3 q3 => ?_⟩⟩
                    have q3 : OkE X.K H0 cv W σ F3 H3 Q (if keyD kd = true then .ok (.fz, (getD ds kd).getD zd) else .stuck) := q3
                    split at q3
                    · rename_i hk
                      obtain ⟨kk, rfl, rfl⟩ := key_of (H := F2) hk (.inl r2)
                      refine ⟨valV xs kk, .inl ⟨xs, kk, Same.rd (e2.trans e3).same hx, rfl, rfl⟩, ?_⟩
                      rcases val_of kk (rr.mono (e2.trans e3).le) with ⟨z1, z2, _⟩ | ⟨w, d', z1, z2, z3, _⟩
                      · rw [z1]; rw [z2] at q3; exact q3 _ _ _ (Ext.refl e3.sub) r3
                      · rw [z1]; rw [z2] at q3; exact q3 _ _ _ (Ext.refl e3.sub) z3
                    · exact q3.elim
                  | _ => exact q1.elim
                · cases hce
              · cases hce
    | _ => cases es <;> cases ks <;> cases h
  | _ => cases h
end
end VL
namespace VL
open PySem PySem.Spec L2
section
variable {Γ : Gam} {cl : Nat → List D → Out (Bool × D)} {gc : Nat → D} {cv : Nat → Value} {H0 F0 : Hp}

/-! ### isinstance -/
theorem boot_ty (t : Ty) : bootBuiltins (tyName t) = some (.type (tyS t)) := by cases t <;> decide +kernel
theorem pe_tyN {X : Cx} {sc : Scope} {t : Ty} {p : Pos} (ft : Fits Γ cl gc cv X sc) (h : glB sc (tyName t) = true) : PE X (.Name (tyName t) p) (tC (.ty (tyS t))) :=
  pe_bltn (gl_of h ft.sc) (ft.blt _ (by cases t <;> decide)) (boot_ty t) rfl (by cases t <;> decide) (by cases t <;> decide)
theorem pa_tys {X : Cx} {sc : Scope} (ft : Fits Γ cl gc cv X sc) : ∀ {ts : List Ty} {es : List Expr}, tysB.go sc ts es = true → PA X es (fun σ H Q => Q (ts.map fun t => .ty (tyS t)) H)
  | [], [], _ => PA.weak pa_nil fun σ H Q q => q
  | t :: ts, e :: es, h => by
    cases e with
    | Name y p =>
      have h' : (glB sc y && decide (y = tyName t) && tysB.go sc ts es) = true := h
      rw [Bool.and_eq_true, Bool.and_eq_true, decide_eq_true_eq] at h'
      obtain ⟨⟨h1, rfl⟩, h2⟩ := h'
      exact PA.weak (pa_cons (pe_tyN ft h1) (pa_tys ft h2)) fun σ H Q q => q
    | _ => cases h
  | [], _ :: _, h => by cases h
  | _ :: _, [], h => by cases h
theorem not_star_ty {sc : Scope} {ts : List Ty} {x : Expr} (h : tysB sc ts x = true) (es : List Expr) (env : Env) : starEach (x :: es) env = (false, eval x env) :: starEach es env := by
  cases x with
  | Starred y p => cases ts with
    | nil => cases h
    | cons a r => cases r <;> cases h
  | _ => rfl
theorem pai_ty : ∀ ts : List Ty, Paired ClsV (ts.map fun t => V.ty (tyS t)) (ts.map fun t => Value.type (tyS t))
  | [] => .nil
  | t :: ts => .cons (.ty _) (pai_ty ts)
theorem ex_isi {a : E} {ts : List Ty} (ha : ExOk Γ cl gc cv H0 F0 a) : ExOk Γ cl gc cv H0 F0 (.isi a ts) := by
  intro X W sc x ft tk h
  cases x with
  | Call f es ks p =>
    cases f with
    | Name y p2 =>
      cases ks with
      | cons => match es, h with
        | [], h => cases h
        | [_], h => cases h
        | [_, _], h => cases h
        | _ :: _ :: _ :: _, h => cases h
      | nil =>
        match es, h with
        | [], h => cases h
        | [_], h => cases h
        | _ :: _ :: _ :: _, h => cases h
        | [a', t'], h =>
          have h' : (glB sc y && decide (y = ("isinstance" : Str)) && chkE Γ a sc a' && tysB sc ts t' && decide (ts.length ≤ 100)) = true := h
          rw [Bool.and_eq_true, Bool.and_eq_true, Bool.and_eq_true, Bool.and_eq_true, decide_eq_true_eq, decide_eq_true_eq] at h'
          obtain ⟨⟨⟨⟨h1, rfl⟩, h2⟩, h3⟩, h100⟩ := h'
          have hg := gl_of h1 ft.sc
          have hm : X.mg "isinstance" = none := ft.blt _ (by decide)
          have hb : bootBuiltins "isinstance" = some (.builtin "isinstance") := by decide +kernel
          have pa := ha X W sc a' ft tk h2
          have hs1 := not_star h2 [t'] X.env
          have hs2 := not_star_ty h3 [] X.env
          have hp : ∀ (t : TE), PE X t' t → PA X [a', t'] (tCons (tOf X.K H0 F0 cv W (ev cl gc a)) (tCons t tNil)) := fun t ht => pa_cons pa (pa_cons ht pa_nil hs2) hs1
          have hpl : ((backTo p (starEach [t'] X.env)).any (·.1)) = false := by rw [hs2]; rfl
          cases t' with
          | Name z p3 =>
            match ts, h3 with
            | [], h3 => cases h3
            | _ :: _ :: _, h3 => cases h3
            | [t], h3 =>
              have h3' : (glB sc z && decide (z = tyName t)) = true := h3
              rw [Bool.and_eq_true, decide_eq_true_eq] at h3'
              obtain ⟨h4, rfl⟩ := h3'
              refine PE.weak (pe_callB call_isi hg hm hb (hp _ (pe_tyN ft h4)) (by decide) (by decide) hs1 hpl) fun σ H Q ⟨F, τ, g, q⟩ => ⟨F, τ, g, OkE.then q fun k d _ v F1 H1 e1 r1 q1 => ?_⟩
              refine ⟨v, _, _, _, isTy t d, rfl, .ty _, Pk.ty e1.sub r1.pk, kit_D t d, q1 _ F1 H1 (Ext.refl e1.sub) ?_⟩
              show Rp _ _ (.bl (isTy t d)) (.bool ([t].any fun t => isTy t d))
              rw [List.any_cons, List.any_nil, Bool.or_false]
              exact .bl _
          | Tuple es n p3 =>
            have h3' : tysB.go sc ts es = true := by
              match ts, h3 with
              | [], h3 => exact h3
              | [_], h3 => exact h3
              | _ :: _ :: _, h3 => exact h3
            refine PE.weak (pe_callB call_isiT hg hm hb (hp _ (pe_tup (pa_tys ft h3'))) (by decide) (by decide) hs1 hpl) fun σ H Q ⟨F, τ, g, q⟩ => ⟨F, τ, g, OkE.then q fun k d _ v F1 H1 e1 r1 q1 => ?_⟩
            have hz : (ts.map fun t => V.ty (tyS t)).length ≤ line := by rw [List.length_map]; unfold line; omega
            refine ⟨by rw [← line_eq]; exact hz, fun tp htp => ?_⟩
            have sm : Same H1 (upd H1 tp (.tup (ts.map fun t => V.ty (tyS t)))) := fun b o e => by rw [upd_ne (ne_of_none e htp)]; exact e
            have ex : Ext F1 H1 F1 (upd H1 tp (.tup (ts.map fun t => V.ty (tyS t)))) := ⟨sm, Same.refl _, e1.sub.trans sm, fun _ _ e => .inl e⟩
            refine ⟨v, tp, _, _, _, ts.any fun t => isTy t d, rfl, upd_same, pai_ty ts, Pk.ty ex.sub (r1.pk.ext ex), kits_D d ts, q1 _ F1 _ ex (Rp.bl _)⟩
          | _ => cases ts with
            | nil => cases h3
            | cons t ts => cases ts <;> cases h3
    | _ => match es, ks, h with
      | [], _, h => cases h
      | [_], _, h => cases h
      | [_, _], [], h => cases h
      | [_, _], _ :: _, h => cases h
      | _ :: _ :: _ :: _, _, h => cases h
  | _ => cases h

/-! ### what is walked -/
structure WalkD (K : PySem.W.Frag) (J : It) (F : Hp) (ds : List D) : Prop where
  len : ds.length ≤ line
  ex : ∃ (G : Hp → Prop) (Y : Nat → Hp → V → Hp → Prop), Walk J ds.length G Y ∧ (∀ H, Same F H → G H) ∧
    ∀ i H x H' d F1, ds[i]? = some d → Same F F1 → Same F1 H → Y i H x H' → ∃ F2, Ext F1 H F2 H' ∧ Rp K F2 x d
def OkI (K : PySem.W.Frag) (cv : Nat → Value) (W : WX) (σ : L2.St) (F H : Hp) (R : It → Hp → Prop) : Out (List D) → Prop
  | .ok ds => ∀ J F' H', Ext F H F' H' → WalkD K J F' ds → R J H'
  | .raise c => ∀ H', Same H H' → W (cv c) none σ H'
  | .stuck => False
def tIt (K : PySem.W.Frag) (H0 F0 : Hp) (cv : Nat → Value) (W : WX) (m : Ta → Out (List D)) : TI := fun σ H R => ∃ F τ, Good K H0 F0 F σ τ H ∧ OkI K cv W σ F H R (m τ)
theorem PI.weak {X : Cx} {tg e : Expr} {t t' : TI} (h : PI X tg e t) (w : ∀ σ H Q, t' σ H Q → t σ H Q) : PI X tg e t' := ⟨fun pins s σ H Q I q => h.run pins s σ H Q I (w σ H Q q)⟩
theorem PI.or {X : Cx} {tg e : Expr} {t t' : TI} (h : PI X tg e t) (h' : PI X tg e t') : PI X tg e (fun σ H R => t σ H R ∨ t' σ H R) := ⟨fun pins s σ H Q I q => q.elim (h.run pins s σ H Q I) (h'.run pins s σ H Q I)⟩
def isTupE : Expr → Bool
  | .Tuple _ _ _ => true
  | _ => false
def ItOk (Γ : Gam) (cl : Nat → List D → Out (Bool × D)) (gc : Nat → D) (cv : Nat → Value) (H0 F0 : Hp) (e : E) : Prop :=
  ∀ (X : Cx) (W : WX) (sc : Scope) (tg x : Expr), Fits Γ cl gc cv X sc → Takes X W → chkI Γ e sc x = true → (isEn e = true → isTupE tg = true) → PI X tg x (tIt X.K H0 F0 cv W (evIt cl gc e))
theorem walk_seqL {K : PySem.W.Frag} {F : Hp} {a : Addr} {xs : List V} {ds : List D} (h : Rd F a (.lst xs)) (z : xs.length ≤ line) (r : RpA K F xs ds) : WalkD K (Itl K a) F ds :=
  ⟨by rw [← r.length]; exact z, fun H => SqL K H a xs, YAt xs, by rw [← r.length]; exact walk_list, fun H s => rd_sq (Same.rd s h), fun i H x H' d F1 hd s s1 y => by
    obtain ⟨rfl, hx⟩ := y
    obtain ⟨v, hv, rv⟩ := r.get hd
    rw [hx] at hv; cases hv
    exact ⟨F1, Ext.refl s1, rv.mono s⟩⟩
theorem walk_seqT {K : PySem.W.Frag} {F : Hp} {a : Addr} {xs : List V} {ds : List D} (h : SqT K F a xs) (z : xs.length ≤ line) (r : RpA K F xs ds) : WalkD K (Itt K a) F ds :=
  ⟨by rw [← r.length]; exact z, fun H => SqT K H a xs, YAt xs, by rw [← r.length]; exact walk_tup, fun H s => Same.sqT s h, fun i H x H' d F1 hd s s1 y => by
    obtain ⟨rfl, hx⟩ := y
    obtain ⟨v, hv, rv⟩ := r.get hd
    rw [hx] at hv; cases hv
    exact ⟨F1, Ext.refl s1, rv.mono s⟩⟩
theorem rngD_len (a b : Int) : (rngD a b).length = (b - a).toNat := by unfold rngD; rw [List.length_map, List.length_range]
theorem rngD_get {a b : Int} {i : Nat} {d : D} (h : (rngD a b)[i]? = some d) : d = .int (a + (i : Nat)) := by
  unfold rngD at h
  rw [List.getElem?_map] at h
  cases q : (List.range (b - a).toNat)[i]? with
  | none => rw [q] at h; cases h
  | some j =>
    rw [q] at h
    have : j = i := by
      rw [List.getElem?_range] at q
      · exact (Option.some.inj q).symm
      · rcases List.getElem?_eq_some_iff.mp q with ⟨z, _⟩
        simpa using z
    subst this
    exact (Option.some.inj h).symm
theorem walk_rng {K : PySem.W.Frag} {F : Hp} {a b : Int} (z : b - a ≤ line) : WalkD K (Itr a (b - a).toNat) F (rngD a b) :=
  ⟨by rw [rngD_len]; omega, fun _ => True, YFn fun i => .int (a + i), by rw [rngD_len]; exact walk_range, fun _ _ => trivial, fun i H x H' d F1 hd s s1 y => by
    obtain ⟨rfl, rfl⟩ := y
    rw [rngD_get hd]
    exact ⟨F1, Ext.refl s1, .int _⟩⟩
theorem enumD_len : ∀ (n : Nat) (ds : List D), (enumD n ds).length = ds.length
  | _, [] => rfl
  | n, d :: r => by show (enumD (n + 1) r).length + 1 = _; rw [enumD_len (n + 1) r]; rfl
theorem enumD_get : ∀ {n : Nat} {ds : List D} {i : Nat} {d : D}, (enumD n ds)[i]? = some d → ∃ e, ds[i]? = some e ∧ d = .tuple [.int ((n + i : Nat) : Int), e]
  | _, [], i, d, h => by cases i <;> cases h
  | n, e :: r, 0, d, h => ⟨e, rfl, (Option.some.inj h).symm⟩
  | n, e :: r, i + 1, d, h => by
    obtain ⟨e', h1, h2⟩ := enumD_get (n := n + 1) (ds := r) (i := i) h
    exact ⟨e', h1, by rw [h2]; congr 4; omega⟩
theorem walk_enm {K : PySem.W.Frag} {F : Hp} {a : Addr} {xs : List V} {ds : List D} (h : Rd F a (.lst xs)) (z : xs.length ≤ line) (r : RpA K F xs ds) : WalkD K (Ite K a) F (enumD 0 ds) :=
  ⟨by rw [enumD_len, ← r.length]; exact z, fun H => SqL K H a xs, YPair (fun i => some (.int (i : Nat))) (fun i => xs[i]?), by rw [enumD_len, ← r.length]; exact walk_enum, fun H s => rd_sq (Same.rd s h), fun i H x H' d F1 hd s s1 y => by
    obtain ⟨T, u, w, rfl, hT, rfl, hu, hw⟩ := y
    obtain ⟨e, he, rfl⟩ := enumD_get hd
    obtain ⟨v, hv, rv⟩ := r.get he
    change xs[i]? = some w at hw
    rw [hw] at hv; cases hv
    change some _ = some u at hu
    cases hu
    rw [Nat.zero_add]
    exact ⟨_, tup_new s1 hT (by show 2 ≤ line; decide) (.cons (.int _) (.cons (rv.mono s) .nil))⟩⟩
theorem it_one {a : E} (ha : ExOk Γ cl gc cv H0 F0 a) : ItOk Γ cl gc cv H0 F0 (.one a) := by
  intro X W sc tg x ft tk h _
  have pa := ha X W sc x ft tk h
  refine PI.weak (PI.or (pi_list (tg := tg) pa) (pi_tup pa)) fun σ H R ⟨F, τ, g, q⟩ => ?_
  have q : OkI X.K cv W σ F H R ((ev cl gc a τ).bind listOf) := q
  cases ea : ev cl gc a τ with
  | stuck => rw [ea] at q; exact q.elim
  | raise c => rw [ea] at q; exact .inl ⟨F, τ, g, by rw [ea]; exact q⟩
  | ok z =>
    obtain ⟨k, d⟩ := z
    rw [ea] at q
    have kp : ∀ ds, listOf (k, d) = .ok ds → (d = .list ds ∨ d = .tuple ds) ∧ keep (k, d) = .ok d := fun ds e => by
      cases k <;> cases d <;> first | (cases e; exact ⟨.inl rfl, rfl⟩) | (cases e; exact ⟨.inr rfl, rfl⟩) | cases e
    cases el : listOf (k, d) with
    | stuck => have q : OkI X.K cv W σ F H R (listOf (k, d)) := q; rw [el] at q; exact q.elim
    | raise c => cases k <;> cases d <;> cases el
    | ok ds =>
      have q' : OkI X.K cv W σ F H R (listOf (k, d)) := q
      rw [el] at q'
      obtain ⟨hd, hk⟩ := kp ds el
      rcases hd with rfl | rfl
      · refine .inl ⟨F, τ, g, by
          rw [ea]
          intro v F1 H1 e1 r1
          obtain ⟨F2, x2, s2, rp⟩ := r1.keep e1 hk
          cases rp with
          | lst h1 z rr => exact ⟨_, rfl, ⟨_, rd_sq (Same.rd x2.sub h1)⟩, q' _ F2 H1 x2 (walk_seqL h1 z rr)⟩⟩
      · refine .inr ⟨F, τ, g, by
          rw [ea]
          intro v F1 H1 e1 r1
          obtain ⟨F2, x2, s2, rp⟩ := r1.keep e1 hk
          cases rp with
          | tup h1 z rr => exact ⟨_, rfl, ⟨_, Same.sqT x2.sub h1⟩, q' _ F2 H1 x2 (walk_seqT h1 z rr)⟩⟩
theorem it_rng1 {a : E} (ha : ExOk Γ cl gc cv H0 F0 a) : ItOk Γ cl gc cv H0 F0 (.rng1 a) := by
  intro X W sc tg x ft tk h _
  cases x with
  | Call f es ks p =>
    cases f with
    | Name y p2 =>
      match es, ks, h with
      | [], _, h => cases h
      | _ :: _ :: _, _, h => cases h
      | [_], _ :: _, h => cases h
      | [a'], [], h =>
        have h' : (glB sc y && decide (y = ("range" : Str)) && chkE Γ a sc a') = true := h
        rw [Bool.and_eq_true, Bool.and_eq_true, decide_eq_true_eq] at h'
        obtain ⟨⟨h1, rfl⟩, h2⟩ := h'
        refine PI.weak (pi_range1 (gl_of h1 ft.sc) (ft.blt _ (by decide)) (pa_cons (ha X W sc a' ft tk h2) pa_nil (not_star h2 _ _)) (not_star h2 _ _)) fun σ H R ⟨F, τ, g, q⟩ => ⟨F, τ, g, ?_⟩
        have q : OkI X.K cv W σ F H R ((ev cl gc a τ).bind fun x => match x.2 with | .int n => if rngOk 0 n && decide (n ≤ line) then .ok (rngD 0 n) else .stuck | _ => .stuck) := q
        cases ea : ev cl gc a τ with
        | stuck => rw [ea] at q; exact q
        | raise c => rw [ea] at q; exact q
        | ok z =>
          obtain ⟨k, d⟩ := z
          rw [ea] at q
          intro v F1 H1 e1 r1
          cases d with
          | int n =>
            have q : OkI X.K cv W σ F H R (if (rngOk 0 n && decide (n ≤ line)) = true then .ok (rngD 0 n) else .stuck) := q
            split at q
            · rename_i c
              rw [Bool.and_eq_true] at c
              have c1 := of_decide_eq_true c.1
              refine ⟨n, by rw [r1.pk.int], c1.2.2.1, c1.2.2.2, ?_⟩
              have w := walk_rng (K := X.K) (F := F1) (a := 0) (b := n) (by have := of_decide_eq_true c.2; omega)
              rw [Int.sub_zero] at w
              exact q _ F1 H1 e1 w
            · exact q.elim
          | _ => exact q.elim
    | _ => match es, ks, h with
      | [], _, h => cases h
      | [_], [], h => cases h
      | [_], _ :: _, h => cases h
      | _ :: _ :: _, _, h => cases h
  | _ => cases h
theorem it_rng2 {a b : E} (ha : ExOk Γ cl gc cv H0 F0 a) (hb : ExOk Γ cl gc cv H0 F0 b) : ItOk Γ cl gc cv H0 F0 (.rng2 a b) := by
  intro X W sc tg x ft tk h _
  cases x with
  | Call f es ks p =>
    cases f with
    | Name y p2 =>
      match es, ks, h with
      | [], _, h => cases h
      | [_], _, h => cases h
      | _ :: _ :: _ :: _, _, h => cases h
      | [_, _], _ :: _, h => cases h
      | [a', b'], [], h =>
        have h' : (glB sc y && decide (y = ("range" : Str)) && chkE Γ a sc a' && chkE Γ b sc b') = true := h
        rw [Bool.and_eq_true, Bool.and_eq_true, Bool.and_eq_true, decide_eq_true_eq] at h'
        obtain ⟨⟨⟨h1, rfl⟩, h2⟩, h3⟩ := h'
        have s2 := not_star h3 [] X.env
        have s1 := not_star h2 [b'] X.env
        refine PI.weak (pi_range2 (gl_of h1 ft.sc) (ft.blt _ (by decide)) (pa_cons (ha X W sc a' ft tk h2) (pa_cons (hb X W sc b' ft tk h3) pa_nil s2) s1) (by rw [s1, s2]; rfl) s2) fun σ H R ⟨F, τ, g, q⟩ => ⟨F, τ, g, ?_⟩
        have q : OkI X.K cv W σ F H R ((ev cl gc a τ).bind fun x => (ev cl gc b τ).bind fun y => match x.2, y.2 with | .int m, .int n => if rngOk m n && decide (n - m ≤ line) then .ok (rngD m n) else .stuck | _, _ => .stuck) := q
        cases ea : ev cl gc a τ with
        | stuck => rw [ea] at q; exact q
        | raise c => rw [ea] at q; exact q
        | ok z =>
          obtain ⟨k, d⟩ := z
          rw [ea] at q
          intro v F1 H1 e1 r1
          refine ⟨F1, τ, g.step e1, ?_⟩
          change OkI _ _ _ _ _ _ _ ((ev cl gc b τ).bind _) at q
          cases eb : ev cl gc b τ with
          | stuck => rw [eb] at q; exact q.elim
          | raise c => rw [eb] at q; exact fun H' s => q H' (e1.same.trans s)
          | ok z2 =>
            obtain ⟨k2, d2⟩ := z2
            rw [eb] at q
            intro w F2 H2 e2 r2
            cases d with
            | int m =>
              cases d2 with
              | int n =>
                have q : OkI X.K cv W σ F H R (if (rngOk m n && decide (n - m ≤ line)) = true then .ok (rngD m n) else .stuck) := q
                split at q
                · rename_i c
                  rw [Bool.and_eq_true] at c
                  have c1 := of_decide_eq_true c.1
                  exact ⟨m, n, by rw [r1.pk.int, r2.pk.int], c1, q _ F2 H2 (e1.trans e2) (walk_rng (of_decide_eq_true c.2))⟩
                · exact q.elim
              | _ => exact q.elim
            | _ => cases d2 <;> exact q.elim
    | _ => match es, ks, h with
      | [], _, h => cases h
      | [_], _, h => cases h
      | [_, _], [], h => cases h
      | [_, _], _ :: _, h => cases h
      | _ :: _ :: _ :: _, _, h => cases h
  | _ => cases h
theorem it_enum {a : E} (ha : ExOk Γ cl gc cv H0 F0 a) : ItOk Γ cl gc cv H0 F0 (.enum a) := by
  intro X W sc tg x ft tk h htg
  have htg := htg rfl
  cases tg with
  | Tuple elts kk tpos =>
    cases x with
    | Call f es ks p =>
      cases f with
      | Name y p2 =>
        match es, ks, h with
        | [], _, h => cases h
        | _ :: _ :: _, _, h => cases h
        | [_], _ :: _, h => cases h
        | [a'], [], h =>
          have h' : (glB sc y && decide (y = ("enumerate" : Str)) && chkE Γ a sc a') = true := h
          rw [Bool.and_eq_true, Bool.and_eq_true, decide_eq_true_eq] at h'
          obtain ⟨⟨h1, rfl⟩, h2⟩ := h'
          refine PI.weak (pi_enum (gl_of h1 ft.sc) (ft.blt _ (by decide)) (pa_cons (ha X W sc a' ft tk h2) pa_nil (not_star h2 _ _)) (not_star h2 _ _)) fun σ H R ⟨F, τ, g, q⟩ => ⟨F, τ, g, ?_⟩
          have q : OkI X.K cv W σ F H R ((ev cl gc a τ).bind fun x => match x with | (.pk, _) => .stuck | (.mv, _) => .stuck | (_, .list ds) => .ok (enumD 0 ds) | _ => .stuck) := q
          cases ea : ev cl gc a τ with
          | stuck => rw [ea] at q; exact q
          | raise c => rw [ea] at q; exact q
          | ok z =>
            obtain ⟨k, d⟩ := z
            rw [ea] at q
            intro v F1 H1 e1 r1
            have fin : ∀ ds, d = .list ds → keep (k, d) = .ok d → OkI X.K cv W σ F H R (.ok (enumD 0 ds)) → ∃ a xs, [v] = [V.ref a] ∧ SqL X.K H1 a xs ∧ R (Ite X.K a) H1 := fun ds e hk q2 => by
              subst e
              obtain ⟨F2, x2, s2, rp⟩ := r1.keep e1 hk
              cases rp with
              | lst h1 z rr => exact ⟨_, _, rfl, rd_sq (Same.rd x2.sub h1), q2 _ F2 H1 x2 (walk_enm h1 z rr)⟩
            cases k <;> cases d <;> first | exact q.elim | exact fin _ rfl rfl q
      | _ => match es, ks, h with
        | [], _, h => cases h
        | [_], [], h => cases h
        | [_], _ :: _, h => cases h
        | _ :: _ :: _, _, h => cases h
    | _ => cases h
  | _ => cases htg
end
end VL
namespace VL
open PySem PySem.Spec L2

/-! ### targets -/
inductive Sets (K : PySem.W.Frag) (F : Hp) : List Nat → L2.St → Ta → L2.St → Ta → Prop
  | nil {σ : L2.St} {τ : Ta} : Sets K F [] σ τ σ τ
  | cons {i : Nat} {is : List Nat} {σ σ' : L2.St} {τ τ' : Ta} {v : V} {d : D} : Rp K F v d → Sets K F is (σ.set i (some v)) (τ.set i (.fz d)) σ' τ' → Sets K F (i :: is) σ τ σ' τ'
section
variable {K : PySem.W.Frag} {H0 F0 F H : Hp} {σ σ' : L2.St} {τ τ' : Ta}
theorem get_set {α : Type} (xs : List α) (i j : Nat) (x : α) : (xs.set i x)[j]? = if i = j then (if i < xs.length then some x else none) else xs[j]? := by
  rw [List.getElem?_set]
/-- a slot is set to something that is not owned -/
theorem Good.set {s : Sl} {o : Option V} (g : Good K H0 F0 F σ τ H) (i : Nat) (h : SlOk K H0 F H (some o) s) (hn : ∀ d, s ≠ .ow d) : Good K H0 F0 F (σ.set i o) (τ.set i s) H where
  sub0 := g.sub0
  sub := g.sub
  base := g.base
  ext := g.ext
  new := g.new
  len := by rw [List.length_set, List.length_set]; exact g.len
  slot := fun j t ht => by
    rw [get_set] at ht ⊢
    by_cases e : i = j
    · rw [if_pos e] at ht ⊢
      rw [g.len] at ht
      split at ht
      · rename_i hl
        cases ht
        rw [if_pos hl]; exact h
      · cases ht
    · rw [if_neg e] at ht ⊢
      exact g.slot j t ht
  dist := fun j k d e l h1 h2 h3 h4 => by
    rw [get_set] at h1 h2 h3 h4
    by_cases e1 : i = j
    · rw [if_pos e1] at h1
      split at h1
      · cases h1; exact (hn d rfl).elim
      · cases h1
    · by_cases e2 : i = k
      · rw [if_pos e2] at h2
        split at h2
        · cases h2; exact (hn e rfl).elim
        · cases h2
      · rw [if_neg e1] at h1 h3
        rw [if_neg e2] at h2 h4
        exact g.dist j k d e l h1 h2 h3 h4
theorem Good.setF {v : V} {d : D} (g : Good K H0 F0 F σ τ H) (i : Nat) (r : Rp K F v d) : Good K H0 F0 F (σ.set i (some v)) (τ.set i (.fz d)) H :=
  g.set i ⟨v, rfl, r⟩ fun _ h => nomatch h
theorem Good.unset (g : Good K H0 F0 F σ τ H) (i : Nat) (o : Option V) : Good K H0 F0 F (σ.set i o) (τ.set i .un) H := g.set i trivial fun _ h => nomatch h
theorem Good.sets {vs : List Nat} (h : Sets K F vs σ τ σ' τ') : Good K H0 F0 F σ τ H → Good K H0 F0 F σ' τ' H := by
  induction h with
  | nil => exact fun g => g
  | cons r _ ih => exact fun g => ih (g.setF _ r)
theorem Good.wipe (g : Good K H0 F0 F σ τ H) : ∀ vs : List Nat, Good K H0 F0 F (L2.wipe σ vs) (wipeT vs τ) H
  | [] => g
  | v :: vs => (g.wipe vs).unset v none
/-- slots forgotten, the values left as they are -/
theorem Good.forget (g : Good K H0 F0 F σ τ H) : ∀ vs : List Nat, Good K H0 F0 F σ (wipeT vs τ) H
  | [] => g
  | v :: vs => by
    have h := (g.forget vs).unset v ((σ[v]?).getD none)
    have e : σ.set v ((σ[v]?).getD none) = σ := by
      refine List.ext_getElem? fun j => ?_
      rw [get_set]
      split
      · rename_i e
        subst e
        split
        · rename_i hl
          rw [List.getElem?_eq_getElem hl]; rfl
        · rename_i hl
          rw [List.getElem?_eq_none (Nat.le_of_not_lt hl)]
      · rfl
    rw [e] at h
    exact h
theorem wipe_get {vs : List Nat} {j : Nat} : (L2.wipe σ vs)[j]? = if j ∈ vs then (if j < σ.length then some none else none) else σ[j]? := by
  induction vs with
  | nil => simp [L2.wipe]
  | cons v vs ih =>
    show ((L2.wipe σ vs).set v none)[j]? = _
    rw [get_set, wipe_length, ih]
    by_cases e : v = j
    · subst e; simp
    · rw [if_neg e]
      simp [List.mem_cons, Ne.symm e, show j ≠ v from fun h => e h.symm]
theorem Sets.wipe {vs ws : List Nat} (h : Sets K F vs σ τ σ' τ') (hs : ∀ i ∈ vs, i ∈ ws) : L2.wipe σ' ws = L2.wipe σ ws := by
  induction h with
  | nil => rfl
  | @cons i is σ σ' τ τ' v d _ _ ih =>
    rw [ih fun j hj => hs j (List.mem_cons_of_mem _ hj)]
    refine List.ext_getElem? fun j => ?_
    rw [wipe_get, wipe_get, List.length_set]
    split
    · rfl
    · rename_i hj
      rw [get_set, if_neg]
      rintro rfl
      exact hj (hs _ List.mem_cons_self)
theorem wipe_wipe (σ : L2.St) (vs : List Nat) : L2.wipe (L2.wipe σ vs) vs = L2.wipe σ vs := by
  refine List.ext_getElem? fun j => ?_
  rw [wipe_get, wipe_get, wipe_length]
  split <;> rfl
end
/-- what a target asks of the surroundings -/
def LocF (X : Cx) (loc : Str → Bool) : Prop := ∀ x, loc x = true → L2.Loc X.env.scope x ∧ (X.fn x = true ∨ X.env.scope.names.lookup x = some .local)
section
variable {Γ : Gam} {X : Cx} {loc : Str → Bool}
def gsOf : List Nat → TGs
  | [] => gNil
  | i :: is => gCons (gName i) (gsOf is)
def gOf (K : PySem.W.Frag) (one : Bool) (vs : List Nat) : TG := match one, vs with
  | true, [] => fun _ _ _ _ => False
  | true, i :: _ => gName i
  | false, vs => gTup K vs.length (gsOf vs)
theorem pgs_of (hN : X.N = Γ.N) (nd : Γ.N.Nodup) (hl : LocF X loc) : ∀ {vs : List Nat} {es : List Expr}, tgB Γ loc vs es = true →
    PGs X es (gsOf vs) ∧ (assignEach es X.env).length = vs.length ∧ (assignEach es X.env).findIdx? (·.1) = none
  | [], [], _ => ⟨pgs_nil, rfl, rfl⟩
  | i :: is, e :: es, h => by
    cases e with
    | Name x p =>
      have h' : (nameAt Γ i x && loc x && tgB Γ loc is es) = true := h
      rw [Bool.and_eq_true, Bool.and_eq_true] at h'
      obtain ⟨pt, h2, h3⟩ := pgs_of hN nd hl h'.2
      obtain ⟨n1, _, _⟩ := name_at h'.1.1
      obtain ⟨l1, l2⟩ := hl x h'.1.2
      have pn : PG X (.Name x p) (gName i) := pg_name (by rw [hN]; exact nd) (by rw [hN]; exact n1) l1 l2
      refine ⟨pgs_cons pn pt rfl, ?_, ?_⟩
      · show (assignEach es X.env).length + 1 = _
        rw [h2]; rfl
      · show List.findIdx? _ ((false, _) :: assignEach es X.env) = none
        rw [List.findIdx?_cons, h3]; rfl
    | _ => cases h
  | [], _ :: _, h => by cases h
  | _ :: _, [], h => by cases h
theorem gs_spec {K : PySem.W.Frag} {F : Hp} {H : Hp} {Q : L2.St → Hp → Prop} : ∀ {vs : List Nat} {ws : List V} {ds : List D} {σ : L2.St} {τ τ' : Ta}, RpA K F ws ds → setAll vs ds τ = some τ' → (∀ σ', Sets K F vs σ τ σ' τ' → Q σ' H) → gsOf vs ws σ H Q
  | [], _, _, σ, _, _, .nil, h, q => by cases h; exact ⟨rfl, q σ .nil⟩
  | [], _, _, _, _, _, .cons _ _, h, _ => by cases h
  | _ :: _, _, _, _, _, _, .nil, h, _ => by cases h
  | i :: is, _, _, σ, τ, τ', .cons a r, h, q => ⟨_, _, rfl, gs_spec (vs := is) r h fun σ' s => q σ' (.cons a s)⟩
theorem setAll_len : ∀ {vs : List Nat} {ds : List D} {τ τ' : Ta}, setAll vs ds τ = some τ' → ds.length = vs.length
  | [], [], _, _, _ => rfl
  | [], _ :: _, _, _, h => by cases h
  | _ :: _, [], _, _, h => by cases h
  | i :: is, d :: ds, τ, τ', h => by
    rw [List.length_cons, List.length_cons, setAll_len (vs := is) (ds := ds) h]
theorem pg_of (hc : X.calm = true) (hN : X.N = Γ.N) (nd : Γ.N.Nodup) (hl : LocF X loc) {vs : List Nat} {one : Bool} {tg : Expr} (h : tgtB Γ loc vs one tg = true) : PG X tg (gOf X.K one vs) := by
  cases tg with
  | Name x p =>
    have h' : (one && tgB Γ loc vs [.Name x ⟨0, 0, 0, 0⟩]) = true := h
    rw [Bool.and_eq_true] at h'
    obtain ⟨rfl, h2⟩ := h'
    match vs, h2 with
    | [], h2 => cases h2
    | i :: is, h2 =>
      simp only [tgB, Bool.and_eq_true] at h2
      obtain ⟨n1, _, _⟩ := name_at h2.1.1
      obtain ⟨l1, l2⟩ := hl x h2.1.2
      exact pg_name (by rw [hN]; exact nd) (by rw [hN]; exact n1) l1 l2
  | Tuple es k p =>
    have h' : (!one && tgB Γ loc vs es) = true := h
    rw [Bool.and_eq_true, Bool.not_eq_true'] at h'
    obtain ⟨rfl, h2⟩ := h'
    obtain ⟨pt, h3, h4⟩ := pgs_of hN nd hl h2
    have q := pg_tup (pos := p) (k := k) hc pt h3 h4
    cases vs <;> exact q
  | _ => cases h
theorem g_spec {K : PySem.W.Frag} {F H : Hp} {w : V} {d : D} {one : Bool} {vs : List Nat} {σ : L2.St} {τ τ' : Ta} {Q : L2.St → Hp → Prop} (s : Same F H) (r : Rp K F w d) (h : bindT vs one d τ = some τ') (q : ∀ σ', Sets K F vs σ τ σ' τ' → Q σ' H) : gOf K one vs w σ H Q := by
  cases one with
  | true =>
    match vs, h with
    | [i], h => cases h; exact q _ (.cons r .nil)
    | [], h => cases h
    | _ :: _ :: _, h => cases h
  | false =>
    have hb : ∃ ds, d = .tuple ds ∧ setAll vs ds τ = some τ' := by
      cases d with
      | tuple ds => exact ⟨ds, rfl, by cases vs with | nil => exact h | cons a r => cases r <;> exact h⟩
      | _ => cases vs with
        | nil => cases h
        | cons a r => cases r <;> cases h
    obtain ⟨ds, rfl, hs⟩ := hb
    cases r with
    | tup h1 z rr =>
      have fin : gTup K vs.length (gsOf vs) (.ref _) σ H Q := ⟨_, _, rfl, Same.sqT s h1, by rw [rr.length]; exact setAll_len hs, gs_spec rr hs q⟩
      cases vs <;> exact fin

/-! ### comprehensions -/
variable {cl : Nat → List D → Out (Bool × D)} {gc : Nat → D} {cv : Nat → Value} {H0 F0 : Hp}
theorem own_vs {N : List Str} {vs : List Nat} (h : ∀ i ∈ vs, i < N.length) : (ownOf N vs).map (·.2) = vs := by
  induction vs with
  | nil => rfl
  | cons i is ih =>
    have hi := h i List.mem_cons_self
    unfold ownOf at ih ⊢
    rw [List.filterMap_cons, List.getElem?_eq_getElem hi]
    show i :: _ = _
    rw [ih fun j hj => h j (List.mem_cons_of_mem _ hj)]
theorem tg_lt {loc : Str → Bool} : ∀ {vs : List Nat} {es : List Expr}, tgB Γ loc vs es = true → ∀ i ∈ vs, i < Γ.N.length
  | [], _, _, _, hi => by cases hi
  | i :: is, e :: es, h, j, hj => by
    cases e with
    | Name x p =>
      have h' : (nameAt Γ i x && loc x && tgB Γ loc is es) = true := h
      rw [Bool.and_eq_true, Bool.and_eq_true] at h'
      rcases List.mem_cons.mp hj with rfl | hj
      · exact (List.getElem?_eq_some_iff.mp (name_at h'.1.1).1).1
      · exact tg_lt h'.2 j hj
    | _ => cases h
  | _ :: _, [], h, _, _ => by cases h
theorem tgt_lt {loc : Str → Bool} {vs : List Nat} {one : Bool} {tg : Expr} (h : tgtB Γ loc vs one tg = true) : ∀ i ∈ vs, i < Γ.N.length := by
  cases tg with
  | Name x p =>
    have h' : (one && tgB Γ loc vs [.Name x ⟨0, 0, 0, 0⟩]) = true := h
    rw [Bool.and_eq_true] at h'
    exact tg_lt h'.2
  | Tuple es k p =>
    have h' : (!one && tgB Γ loc vs es) = true := h
    rw [Bool.and_eq_true] at h'
    exact tg_lt h'.2
  | _ => cases h
/-- the surroundings of a comprehension's block -/
theorem Fits.blk {sc scope : Scope} (ft : Fits Γ cl gc cv X sc) (s : Shared) (H : Hp) (C : Addr) (c : List (Str × Addr)) (fp : List Addr) :
    Fits Γ cl gc cv (X.blk s H scope (compEnvC scope c C X.env) fp) (relS scope sc) where
  nm := ft.nm
  nd := ft.nd
  sc := by rw [← ft.sc]; rfl
  calm := ft.calm
  hu := ft.hu
  fns := ft.fns
  blt := ft.blt
  gls := ft.gls
theorem lc_loc {X : Cx} {sc : Scope} (e : X.env.scope = sc) : LocF X (lcB sc) := fun x h => by
  unfold lcB at h
  have q : X.env.scope.names.lookup x = some .local := by
    rw [e]
    split at h
    · assumption
    · cases h
  exact ⟨.inl q, .inr q⟩
/-- one turn of a comprehension -/
def lcTurn (cl : Nat → List D → Out (Bool × D)) (gc : Nat → D) (vs : List Nat) (one : Bool) (c e : E) (τ : Ta) (d : D) : Out (Option D) := match bindT vs one d (wipeT vs τ) with
  | some τ' => (ev cl gc c τ').bind fun x => (asBool x).bind fun b => if b then (ev cl gc e τ').bind fun y => (keep y).bind fun z => .ok (some z) else .ok none
  | none => .stuck
theorem lcGo_cons {f : D → Out (Option D)} {d : D} {ds ys : List D} (h : lcGo f (d :: ds) = .ok ys) : (∃ y zs, f d = .ok (some y) ∧ lcGo f ds = .ok zs ∧ ys = y :: zs) ∨ (f d = .ok none ∧ lcGo f ds = .ok ys) := by
  unfold lcGo at h
  split at h
  · rename_i x hx
    cases e : lcGo f ds with
    | ok zs => rw [e] at h; cases h; exact .inl ⟨x, zs, hx, rfl, rfl⟩
    | raise c => rw [e] at h; cases h
    | stuck => rw [e] at h; cases h
  · rename_i hx
    exact .inr ⟨hx, h⟩
  · cases h
def TsOk (Γ : Gam) (cl : Nat → List D → Out (Bool × D)) (gc : Nat → D) (cv : Nat → Value) (H0 F0 : Hp) (e : E) : Prop :=
  ∀ (X : Cx) (W : WX) (sc : Scope) (x : List Expr), Fits Γ cl gc cv X sc → Takes X W → chkC Γ e sc x = true → PTs X x (tTe X.K H0 F0 cv W (evB cl gc e))
theorem PTs.weak {X : Cx} {e : List Expr} {t t' : TT} (h : PTs X e t) (w : ∀ σ H Q, t' σ H Q → t σ H Q) : PTs X e t' := ⟨fun pins s σ H Q I q => h.run pins s σ H Q I (w σ H Q q)⟩
theorem ts_one {a : E} (ta : TeOk Γ cl gc cv H0 F0 a) : TsOk Γ cl gc cv H0 F0 (.one a) := by
  intro X W sc x ft tk h
  match x, h with
  | [], h => cases h
  | _ :: _ :: _, h => cases h
  | [y], h =>
    have h' : (chkE Γ a sc y && !isIfE y) = true := h
    rw [Bool.and_eq_true, Bool.not_eq_true'] at h'
    exact pts_one (ta X W sc y ft tk h'.1 h'.2)
theorem ts_cst {d : D} : TsOk Γ cl gc cv H0 F0 (.cst d) := by
  intro X W sc x ft tk h
  have hd : d = .bool true ∧ x = [] := by
    cases d with
    | bool b => cases b with
      | true => cases x with
        | nil => exact ⟨rfl, rfl⟩
        | cons => cases h
      | false => cases x <;> cases h
    | _ => cases x <;> cases h
  obtain ⟨rfl, rfl⟩ := hd
  exact PTs.weak pts_nil fun σ H Q ⟨F, τ, g, q⟩ => q F H (Ext.refl g.sub)
/-- the heap but for the list that is made -/
theorem Good.upd {K : PySem.W.Frag} {F H : Hp} {σ : L2.St} {τ : Ta} (g : Good K H0 F0 F σ τ H) {a : Addr} {u : HO} (hF : F a = none) (h0 : H0 a = none) (ho : ∀ (i : Nat) (d : D), τ[i]? = some (.ow d) → σ[i]? ≠ some (some (.ref a))) : Good K H0 F0 F σ τ (L2.upd H a u) where
  sub0 := g.sub0
  sub := fun b o e => by rw [upd_ne (ne_of_none e hF)]; exact g.sub b o e
  base := fun b o e => by rw [upd_ne (ne_of_none e h0)]; exact g.base b o e
  ext := g.ext
  new := g.new
  len := g.len
  slot := fun i s h => by
    have q := g.slot i s h
    cases s with
    | un => trivial
    | fz d => exact q
    | nw d => exact q
    | ow d =>
      obtain ⟨l, e, z, n, r⟩ := q
      refine ⟨l, e, z, n, r.mono (Same.refl _) (upd_ne ?_)⟩
      rintro rfl
      exact ho i d h e
  dist := g.dist
theorem lcGo_nr {f : D → Out (Option D)} : ∀ {ds : List D} {c : Nat}, lcGo f ds ≠ .raise c
  | [], c, h => by cases h
  | d :: ds, c, h => by
    unfold lcGo at h
    split at h
    · cases e : lcGo f ds with
      | ok zs => rw [e] at h; cases h
      | raise c' => exact lcGo_nr e
      | stuck => rw [e] at h; cases h
    · exact lcGo_nr h
    · cases h
/-- the parts of a comprehension -/
structure LcP (Γ : Gam) (cl : Nat → List D → Out (Bool × D)) (gc : Nat → D) (cv : Nat → Value) (H0 F0 : Hp) (X : Cx) (W : WX) (sc scope : Scope) (vs : List Nat) (one : Bool) (it c e : E) (tg it' : Expr) (ifs : List Expr) (e' : Expr) : Prop where
  pi : PI X tg it' (tIt X.K H0 F0 cv W (evIt cl gc it))
  ok : BlkOk X.N X.env.scope scope (ownOf Γ.N vs)
  pg : ∀ (s : Shared) (H : Hp) (C : Addr) (c' : List (Str × Addr)) (fp : List Addr), PG (X.blk s H scope (compEnvC scope c' C X.env) fp) tg (gOf X.K one vs)
  pt : ∀ (s : Shared) (H : Hp) (C : Addr) (c' : List (Str × Addr)) (fp : List Addr), PTs (X.blk s H scope (compEnvC scope c' C X.env) fp) ifs (tTe X.K H0 F0 cv (fun _ _ _ _ => False) (evB cl gc c))
  pe : ∀ (s : Shared) (H : Hp) (C : Addr) (c' : List (Str × Addr)) (fp : List Addr), PE (X.blk s H scope (compEnvC scope c' C X.env) fp) e' (tOf X.K H0 F0 cv (fun _ _ _ _ => False) (ev cl gc e))
  fo : ∀ v, foldedSetIterable it' X.env v = pure v
  vs : (ownOf Γ.N vs).map (·.2) = vs
theorem lc_parts {vs : List Nat} {one : Bool} {it c e : E} (hit : ItOk Γ cl gc cv H0 F0 it) (hc : TsOk Γ cl gc cv H0 F0 c) (he : ExOk Γ cl gc cv H0 F0 e) {X : Cx} {W : WX} {sc scope : Scope} {e' : Expr} {gens : List Comprehension} {p : Pos} (ft : Fits Γ cl gc cv X sc) (tk : Takes X W) (h : chkE Γ (.lc vs one it c e) sc (.ListComp e' gens scope p) = true) :
    ∃ tg it' ifs, gens = [⟨tg, it', ifs, 0⟩] ∧ LcP Γ cl gc cv H0 F0 X W sc scope vs one it c e tg it' ifs e' := by
  match gens, h with
  | [], h => cases h
  | ⟨_, _, _, as⟩ :: _ :: _, h =>
    cases as with
    | ofNat n => cases n <;> cases h
    | negSucc n => cases h
  | [⟨tg, it', ifs, as⟩], h =>
    have ha : as = 0 := by
      cases as with
      | ofNat n => cases n with
        | zero => rfl
        | succ n => cases h
      | negSucc n => cases h
    subst ha
    have h' : (blkC Γ.N sc scope (ownOf Γ.N vs) && chkI Γ it sc it' && tgtB Γ (lcB (relS scope sc)) vs one tg && (!isEn it || !one) && chkC Γ c (relS scope sc) ifs && chkE Γ e (relS scope sc) e') = true := h
    simp only [Bool.and_eq_true] at h'
    obtain ⟨⟨⟨⟨⟨hb, h1⟩, h2⟩, h3⟩, h4⟩, h5⟩ := h'
    have hvs : (ownOf Γ.N vs).map (·.2) = vs := own_vs (tgt_lt h2)
    have hok : BlkOk X.N X.env.scope scope (ownOf Γ.N vs) := by rw [ft.nm, ft.sc]; exact blkOk_by hb
    have hen : isEn it = true → isTupE tg = true := fun q => by
      rw [q] at h3
      cases one with
      | true => cases h3
      | false => cases tg with
        | Tuple => rfl
        | _ => cases h2
    have pi := hit X W sc tg it' ft tk h1 hen
    have hfold : ∀ v, foldedSetIterable it' X.env v = pure v := fun v => by
      cases it' with
      | Set => cases it with
        | one a => exact absurd h1 (by cases a <;> exact Bool.false_ne_true)
        | _ => cases h1
      | _ => rfl
    exact ⟨tg, it', ifs, rfl, pi, hok, fun s H C c' fp => pg_of (X := X.blk s H scope (compEnvC scope c' C X.env) fp) ft.calm ft.nm ft.nd (lc_loc (ft.blk s H C c' fp).sc) h2,
      fun s H C c' fp => hc (X.blk s H scope (compEnvC scope c' C X.env) fp) _ _ ifs (ft.blk s H C c' fp) takes0 h4, fun s H C c' fp => he (X.blk s H scope (compEnvC scope c' C X.env) fp) _ _ e' (ft.blk s H C c' fp) takes0 h5, hfold, hvs⟩
theorem lc_read {K : PySem.W.Frag} {W : WX} {vs : List Nat} {one : Bool} {it c e : E} {σ : L2.St} {H : Hp} {Q : VK} (q0 : tOf K H0 F0 cv W (ev cl gc (.lc vs one it c e)) σ H Q) :
    tLc (tIt K H0 F0 cv W (evIt cl gc it)) (gOf K one vs) (tTe K H0 F0 cv (fun _ _ _ _ => False) (evB cl gc c)) (tOf K H0 F0 cv (fun _ _ _ _ => False) (ev cl gc e)) vs σ H Q := by
  obtain ⟨F, τ, g, q⟩ := q0
  refine ⟨F, τ, g, ?_⟩
  rw [ev_lc] at q
  have q : OkE K H0 cv W σ F H Q ((evIt cl gc it τ).bind fun xs => (lcGo (lcTurn cl gc vs one c e τ) xs).bind fun ys => .ok (.ow, .list ys)) := q
  cases ei : evIt cl gc it τ with
  | stuck => rw [ei] at q; exact q
  | raise c => rw [ei] at q; exact q
  | ok xs =>
    rw [ei] at q
    intro J F1 H1 e1 w D hD
    have q : OkE K H0 cv W σ F H Q ((lcGo (lcTurn cl gc vs one c e τ) xs).bind fun ys => .ok (.ow, .list ys)) := q
    cases el : lcGo (lcTurn cl gc vs one c e τ) xs with
    | stuck => rw [el] at q; exact q.elim
    | raise c => exact (lcGo_nr el).elim
    | ok ys =>
      rw [el] at q
      have q : ∀ v F' H', Ext F H F' H' → Res K H0 H F' H' v (.list ys) .ow → Q v H' := q
      obtain ⟨G, Y, wk, wG, wY⟩ := w.ex
      have g1 := g.step e1
      have hF1 : F1 D = none := e1.sub.free hD
      have h0D : H0 D = none := g1.base.free hD
      have own : ∀ (i : Nat) (d : PyData), τ[i]? = some (.ow d) → σ[i]? ≠ some (some (.ref D)) := fun i d hi hs => by
        obtain ⟨l, a1, a2, a3, a4⟩ := g1.slot i _ hi
        rw [hs] at a1
        cases a1
        obtain ⟨u, hu⟩ := a4.some
        rw [hD] at hu; cases hu
      refine lc_it wk (fun i H' => ∃ F' acc done rest, Good K H0 F0 F' σ τ H' ∧ Same F1 F' ∧ (∀ a o, F' a = some o → F1 a = some o ∨ H1 a = none) ∧ Same H1 H' ∧ H' D = some (.lst acc) ∧ F' D = none ∧ RpA K F' acc done ∧ acc.length ≤ i ∧ ys = done ++ rest ∧ lcGo (lcTurn cl gc vs one c e τ) (xs.drop i) = .ok rest) ?_ ?_ ?_ ?_
      · exact ⟨F1, [], [], ys, g1.upd hF1 h0D own, Same.refl _, fun a o z => .inl z, fun b o z => by rw [upd_ne (ne_of_none z hD)]; exact z, upd_same, hF1, .nil, Nat.le_refl _, rfl, el⟩
      · rintro i H' hi ⟨F', acc, done, rest, gg, s1, _⟩
        exact wG H' (s1.trans gg.sub)
      · rintro i x H' H'' hi ⟨F', acc, done, rest, gg, s1, nw, sh, hDa, hFD, ra, hla, hys, hgo⟩ y
        obtain ⟨d, hd⟩ : ∃ d, xs[i]? = some d := ⟨_, List.getElem?_eq_getElem hi⟩
        obtain ⟨F2, x2, r2⟩ := wY i H' x H'' d F' hd s1 gg.sub y
        have hdrop : xs.drop i = d :: xs.drop (i + 1) := by
          rw [List.drop_eq_getElem_cons hi]
          rw [List.getElem?_eq_getElem hi] at hd
          cases hd; rfl
        rw [hdrop] at hgo
        have gg2 := gg.step x2
        have keepD : ∀ {Fa Ha : Hp}, Ext F' H' Fa Ha → Ha D = some (.lst acc) ∧ Fa D = none := fun {Fa Ha} xa => by
          refine ⟨xa.same _ _ hDa, ?_⟩
          cases z : Fa D with
          | none => rfl
          | some o =>
            rcases xa.new D o z with z1 | z1
            · rw [hFD] at z1; cases z1
            · rw [hDa] at z1; cases z1
        -- what the turn comes to
        have turn : ∀ o, lcTurn cl gc vs one c e τ d = .ok o → ∃ τ', bindT vs one d (wipeT vs τ) = some τ' ∧ ((o = none ∧ evB cl gc c τ' = .ok false) ∨ ∃ k z0 z, o = some z ∧ evB cl gc c τ' = .ok true ∧ ev cl gc e τ' = .ok (k, z0) ∧ keep (k, z0) = .ok z) := fun o ho => by
          unfold lcTurn at ho
          split at ho
          · rename_i τ' hτ
            refine ⟨τ', hτ, ?_⟩
            unfold evB
            cases e1 : ev cl gc c τ' with
            | stuck => rw [e1] at ho; cases ho
            | raise c => rw [e1] at ho; cases ho
            | ok w =>
              rw [e1] at ho
              obtain ⟨k, wd⟩ := w
              cases wd with
              | bool b =>
                cases b with
                | false => cases ho; exact .inl ⟨rfl, rfl⟩
                | true =>
                  change (ev cl gc e τ').bind _ = _ at ho
                  cases e2 : ev cl gc e τ' with
                  | stuck => rw [e2] at ho; cases ho
                  | raise c => rw [e2] at ho; cases ho
                  | ok w2 =>
                    rw [e2] at ho
                    obtain ⟨k2, z0⟩ := w2
                    change (keep (k2, z0)).bind _ = _ at ho
                    cases e3 : keep (k2, z0) with
                    | stuck => rw [e3] at ho; cases ho
                    | raise c => rw [e3] at ho; cases ho
                    | ok z => rw [e3] at ho; cases ho; exact .inr ⟨k2, z0, z, rfl, rfl, rfl, e3⟩
              | _ => cases ho
          · cases ho
        -- one turn, whatever it comes to
        have hcase : ∃ o rest', lcTurn cl gc vs one c e τ d = .ok o ∧ lcGo (lcTurn cl gc vs one c e τ) (xs.drop (i + 1)) = .ok rest' ∧ ((o = none ∧ rest' = rest) ∨ ∃ z, o = some z ∧ rest = z :: rest') := by
          rcases lcGo_cons hgo with ⟨z, zs, a, b, rfl⟩ | ⟨a, b⟩
          · exact ⟨_, zs, a, b, .inr ⟨z, rfl, rfl⟩⟩
          · exact ⟨_, rest, a, b, .inl ⟨rfl, rfl⟩⟩
        obtain ⟨o, rest', ho, hr', hor⟩ := hcase
        obtain ⟨τ', hτ, ht⟩ := turn o ho
        refine g_spec gg2.sub r2 hτ fun σ2 sets => ⟨?_, ?_⟩
        · rw [sets.wipe (fun _ z => z), wipe_wipe]
        · have g3 : Good K H0 F0 F2 σ2 τ' H'' := Good.sets sets (gg2.wipe vs)
          rcases ht with ⟨rfl, hb⟩ | ⟨k, z0, z, rfl, hb, hz, hk⟩
          · refine ⟨F2, τ', g3, ?_⟩
            rw [hb]
            intro F3 H3 x3
            rcases hor with ⟨_, rfl⟩ | ⟨z, hz, _⟩
            · show ∃ F' acc done rest, _
              have x23 := x2.trans x3
              obtain ⟨k1, k2⟩ := keepD x23
              refine ⟨F3, acc, done, rest', gg.step x23, s1.trans x23.le, fun a o z => ?_, sh.trans x23.same, k1, k2, ra.mono x23.le, by omega, hys, hr'⟩
              rcases x23.new a o z with z1 | z1
              · exact nw a o z1
              · exact .inr (sh.free z1)
            · cases hz
          · refine ⟨F2, τ', g3, ?_⟩
            rw [hb]
            intro F3 H3 x3
            show tOf _ _ _ _ _ _ _ _ _
            refine ⟨F3, τ', g3.step x3, ?_⟩
            rw [hz]
            intro v F4 H4 x4 r4
            obtain ⟨hk1, hk2⟩ := keep_ok hk
            change z0 = z at hk1
            subst hk1
            obtain ⟨F5, x5, _, rp⟩ := r4.keep x4 hk2
            have xall := (x2.trans x3).trans x5
            obtain ⟨k1, k2⟩ := keepD xall
            have hlen : acc.length < line := Nat.lt_of_le_of_lt hla (Nat.lt_of_lt_of_le hi w.len)
            refine ⟨acc, k1, by rw [← line_eq]; exact hlen, F5, acc ++ [v], done ++ [z0], rest', (gg.step xall).upd k2 h0D own, s1.trans xall.le, fun a o z => ?_, fun b o z => by rw [upd_ne (ne_of_none z hD)]; exact xall.same _ _ (sh _ _ z), upd_same, k2, (ra.mono xall.le).append (.cons rp .nil), by rw [List.length_append, List.length_singleton]; omega, ?_, hr'⟩
            · rcases xall.new a o z with z1 | z1
              · exact nw a o z1
              · exact .inr (sh.free z1)
            · rcases hor with ⟨h0, _⟩ | ⟨z', h1, h2⟩
              · cases h0
              · cases h1
                rw [hys, h2, List.append_assoc]; rfl
      · rintro H' ⟨F', acc, done, rest, gg, s1, nw, sh, hDa, hFD, ra, hla, hys, hgo⟩
        rw [List.drop_length] at hgo
        cases hgo
        rw [List.append_nil] at hys
        subst hys
        refine q _ F' H' ⟨e1.same.trans sh, e1.le.trans s1, gg.sub, fun a o z => ?_⟩ ⟨D, rfl, e1.same.free hD, hFD, acc, hDa, Nat.le_trans hla w.len, ra⟩
        rcases nw a o z with z1 | z1
        · exact e1.new a o z1
        · exact .inr (e1.same.free z1)
theorem ex_lc {vs : List Nat} {one : Bool} {it c e : E} (hit : ItOk Γ cl gc cv H0 F0 it) (hc : TsOk Γ cl gc cv H0 F0 c) (he : ExOk Γ cl gc cv H0 F0 e) : ExOk Γ cl gc cv H0 F0 (.lc vs one it c e) := by
  intro X W sc x ft tk h
  cases x with
  | ListComp e' gens scope p =>
    obtain ⟨tg, it', ifs, rfl, P⟩ := lc_parts hit hc he ft tk h
    have pl := pe_lc (pos := p) ft.calm (by rw [ft.nm]; exact ft.nd) P.pi P.ok P.pg P.pt P.pe P.fo
    rw [P.vs] at pl
    exact PE.weak pl fun σ H Q q => lc_read q
  | _ => cases h
end
end VL
namespace VL
open PySem PySem.Spec L2
section
variable {Γ : Gam} {cl : Nat → List D → Out (Bool × D)} {gc : Nat → D} {cv : Nat → Value} {H0 F0 : Hp}
theorem Good.frz1 {K : PySem.W.Frag} {F H : Hp} {σ : L2.St} {τ : Ta} (gg : Good K H0 F0 F σ τ H) (i : Nat) : ∃ F', Same F F' ∧ Good K H0 F0 F' σ (match τ[i]? with | some (Sl.ow d) => τ.set i (Sl.nw d) | _ => τ) H := by
  split
  · rename_i d hτ
    obtain ⟨l, a, h0, hF, o⟩ := gg.slot i _ hτ
    obtain ⟨u, hu⟩ := o.some
    have s2 : Same F (L2.upd F l u) := fun b w h => by rw [upd_ne (ne_of_none h hF)]; exact h
    have hlt := (List.getElem?_eq_some_iff.mp hτ).1
    refine ⟨L2.upd F l u, s2, gg.sub0, fun b w h => ?_, gg.base, gg.ext.trans s2, fun b w h => ?_, by rw [List.length_set]; exact gg.len, fun j t ht => ?_, fun j k d1 d2 l1 h1 h2 h3 h4 => ?_⟩
    · by_cases hb : b = l
      · subst hb; rw [upd_same] at h; cases h; exact hu
      · rw [upd_ne hb] at h; exact gg.sub _ _ h
    · by_cases hb : b = l
      · subst hb; exact .inr h0
      · rw [upd_ne hb] at h; exact gg.new _ _ h
    · rw [get_set] at ht
      by_cases e : i = j
      · subst e
        rw [if_pos rfl, if_pos hlt] at ht
        cases ht
        exact ⟨l, a, h0, F, s2, hF, o.mono (Same.refl _) (by rw [upd_same, hu])⟩
      · rw [if_neg e] at ht
        have q := gg.slot j t ht
        cases t with
        | un => trivial
        | fz d => obtain ⟨v, b1, b2⟩ := q; exact ⟨v, b1, b2.mono s2⟩
        | nw d => obtain ⟨v, b1, b2, b3⟩ := q; exact ⟨v, b1, b2, b3.mono s2⟩
        | ow d1 =>
          obtain ⟨l1, b1, b2, b3, b4⟩ := q
          have hne : l1 ≠ l := fun z => e (gg.dist i j d d1 l hτ ht a (by rw [b1, z]))
          exact ⟨l1, b1, b2, by rw [upd_ne hne]; exact b3, b4.mono s2 rfl⟩
    · have back : ∀ {j : Nat} {d1 : PyData}, (τ.set i (.nw d))[j]? = some (.ow d1) → τ[j]? = some (.ow d1) := fun {j d1} h => by
        rw [get_set] at h
        split at h
        · first | cases h | (split at h <;> cases h)
        · exact h
      exact gg.dist j k d1 d2 l1 (back h1) (back h2) h3 h4
  · exact ⟨F, Same.refl _, gg⟩
theorem Good.frz {K : PySem.W.Frag} {H : Hp} {σ : L2.St} : ∀ (is : List Nat) {F : Hp} {τ : Ta}, Good K H0 F0 F σ τ H → ∃ F', Same F F' ∧ Good K H0 F0 F' σ (frzT is τ) H
  | [], F, τ, gg => ⟨F, Same.refl _, gg⟩
  | i :: is, F, τ, gg => by
    obtain ⟨F1, s1, g1⟩ := gg.frz1 i
    obtain ⟨F2, s2, g2⟩ := Good.frz is g1
    exact ⟨F2, s1.trans s2, g2⟩
theorem flat_rp {K : PySem.W.Frag} {F G H H' : Hp} {v : V} {d : D} {k : Kd} (h : flatD d = true) (r : Res K H0 H G H' v d k) : Rp K F v d := by
  have pk : Pk K G H' v d := r.pk
  cases d <;> first | cases h | skip
  all_goals
    rcases pk with q | ⟨l, _, q⟩
    · cases q <;> constructor
    · cases q
theorem ext_lend {F F1 H G H' : Hp} (s : Same F F1) (s2 : Same F H) (e : Ext F1 H G H') : Ext F H F H' :=
  ⟨e.same, Same.refl _, s2.trans e.same, fun _ _ h => .inl h⟩
theorem ex_lend {is : List Nat} {e : E} (he : ExOk Γ cl gc cv H0 F0 e) : ExOk Γ cl gc cv H0 F0 (.lend is e) := by
  intro X W sc x ft tk h
  have h2 : chkE Γ e sc x = true := by cases x <;> first | exact h | cases h
  refine PE.weak (he X W sc x ft tk h2) fun σ H Q ⟨F, τ, gg, q⟩ => ?_
  obtain ⟨F1, s1, g1⟩ := Good.frz is gg
  refine ⟨F1, _, g1, ?_⟩
  have q : OkE X.K H0 cv W σ F H Q ((ev cl gc e (frzT is τ)).bind fun x => if flatD x.2 then .ok (.fz, x.2) else .stuck) := q
  cases er : ev cl gc e (frzT is τ) with
  | stuck => rw [er] at q; exact q
  | raise c => rw [er] at q; exact q
  | ok y =>
    rw [er] at q
    obtain ⟨k, d⟩ := y
    have q : OkE X.K H0 cv W σ F H Q (if flatD d then .ok (.fz, d) else .stuck) := q
    by_cases hd : flatD d = true
    · rw [if_pos hd] at q
      exact fun v G H' e r => q v F H' (ext_lend s1 gg.sub e) (flat_rp hd r)
    · rw [if_neg hd] at q; exact q.elim
def noTest : E → Bool
  | .not _ => false | .and _ _ => false | .or _ _ => false | .cmp _ _ _ => false
  | _ => true
theorem te_gen {e : E} (hn : noTest e = true) (he : ExOk Γ cl gc cv H0 F0 e) : TeOk Γ cl gc cv H0 F0 e := by
  intro X W sc x ft tk h hi
  refine te_plain he ft tk h ?_
  cases x with
  | UnaryOp op y p =>
    cases op with
    | Not => cases e <;> first | exact absurd h Bool.false_ne_true | exact absurd hn Bool.false_ne_true
    | _ => intro _; rfl
  | BoolOp op es p => cases e <;> first | exact absurd h Bool.false_ne_true | exact absurd hn Bool.false_ne_true
  | Compare a os bs p => cases e <;> first | exact absurd h Bool.false_ne_true | exact absurd hn Bool.false_ne_true
  | IfExp a b c p => cases hi
  | _ => intro _; rfl
structure Al (Γ : Gam) (cl : Nat → List D → Out (Bool × D)) (gc : Nat → D) (cv : Nat → Value) (H0 F0 : Hp) (e : E) : Prop where
  ex : ExOk Γ cl gc cv H0 F0 e
  te : TeOk Γ cl gc cv H0 F0 e
  ar : ArOk Γ cl gc cv H0 F0 e
  bo : BoOk Γ cl gc cv H0 F0 e
  op : OpOk Γ cl gc cv H0 F0 e
  it : ItOk Γ cl gc cv H0 F0 e
  ts : TsOk Γ cl gc cv H0 F0 e
  hd : ∀ a b, e = .cons a b ∨ e = .conp a b → ExOk Γ cl gc cv H0 F0 a ∧ ∀ c d, b = .cons c d ∨ b = .conp c d → ExOk Γ cl gc cv H0 F0 c
def plainE : E → Bool
  | .nil => false | .one _ => false | .cons _ _ => false | .conp _ _ => false | .and _ _ => false | .or _ _ => false | .cst _ => false
  | .rng1 _ => false | .rng2 _ _ => false | .enum _ => false | .not _ => false | .cmp _ _ _ => false
  | _ => true
/-- an expression of no other use -/
theorem al_plain {e : E} (hp : plainE e = true) (he : ExOk Γ cl gc cv H0 F0 e) : Al Γ cl gc cv H0 F0 e where
  ex := he
  te := te_gen (by cases e <;> first | rfl | exact absurd hp Bool.false_ne_true) he
  ar := fun X W sc x ft tk h => by cases e <;> first | exact absurd hp Bool.false_ne_true | (cases x <;> cases h)
  bo := fun X W sc op x pos ft tk h => by
    cases e <;> first | exact absurd hp Bool.false_ne_true | (match x, h with
      | [], h => cases h
      | [_], h => cases h
      | _ :: _ :: _, h => cases h)
  op := fun X W sc x ft tk h => by cases e <;> first | exact absurd hp Bool.false_ne_true | (cases x <;> cases h)
  it := fun X W sc tg x ft tk h => by cases e <;> first | exact absurd hp Bool.false_ne_true | cases h
  ts := fun X W sc x ft tk h => by
    cases e <;> first | exact absurd hp Bool.false_ne_true | (match x, h with
      | [], h => cases h
      | [_], h => cases h
      | _ :: _ :: _, h => cases h)
  hd := fun a b h => by cases e <;> first | exact absurd hp Bool.false_ne_true | (rcases h with h | h <;> cases h)
theorem al (e : E) : Al Γ cl gc cv H0 F0 e := by
  have no3 : ∀ {e : E}, (∀ sc x, chkO Γ e sc x = false) → OpOk Γ cl gc cv H0 F0 e := fun hf X W sc x ft tk h => by rw [hf] at h; cases h
  have noE : ∀ {e : E}, (∀ sc x, chkE Γ e sc x = false) → ExOk Γ cl gc cv H0 F0 e := fun hf X W sc x ft tk h => by rw [hf] at h; cases h
  have noT : ∀ {e : E}, (∀ sc x, chkE Γ e sc x = false) → TeOk Γ cl gc cv H0 F0 e := fun hf X W sc x ft tk h => by rw [hf] at h; cases h
  have noA : ∀ {e : E}, (∀ sc x, chkA Γ e sc x = false) → ArOk Γ cl gc cv H0 F0 e := fun hf X W sc x ft tk h => by rw [hf] at h; cases h
  have noB : ∀ {e : E}, (∀ op sc x, chkB Γ op e sc x = false) → BoOk Γ cl gc cv H0 F0 e := fun hf X W sc op x pos ft tk h => by rw [hf] at h; cases h
  have noI : ∀ {e : E}, (∀ sc x, chkI Γ e sc x = false) → ItOk Γ cl gc cv H0 F0 e := fun hf X W sc tg x ft tk h => by rw [hf] at h; cases h
  have noC : ∀ {e : E}, (∀ sc x, chkC Γ e sc x = false) → TsOk Γ cl gc cv H0 F0 e := fun hf X W sc x ft tk h => by rw [hf] at h; cases h
  induction e with
  | var i => exact al_plain rfl ex_var
  | pk i => exact al_plain rfl ex_pk
  | tk i => exact al_plain rfl ex_tk
  | cst d =>
    have he : ExOk Γ cl gc cv H0 F0 (.cst d) := ex_cst
    exact ⟨he, te_gen rfl he, noA fun sc x => by cases x <;> rfl, noB fun op sc x => by match x with
      | [] => rfl
      | [_] => rfl
      | _ :: _ :: _ => rfl, no3 fun sc x => by cases x <;> rfl, noI fun sc x => rfl, ts_cst, fun a b h => by rcases h with h | h <;> cases h⟩
  | glb j => exact al_plain rfl ex_glb
  | nil =>
    exact ⟨noE fun sc x => rfl, noT fun sc x => rfl, ar_nil, noB fun op sc x => by match x with
      | [] => rfl
      | [_] => rfl
      | _ :: _ :: _ => rfl, op_nil, noI fun sc x => rfl, noC fun sc x => by match x with
      | [] => rfl
      | [_] => rfl
      | _ :: _ :: _ => rfl, fun a b h => by rcases h with h | h <;> cases h⟩
  | one a ih =>
    exact ⟨noE fun sc x => rfl, noT fun sc x => rfl, noA fun sc x => by cases x <;> rfl, bo_one ih.ex ih.te, op_one ih.ex, it_one ih.ex, ts_one ih.te, fun a b h => by rcases h with h | h <;> cases h⟩
  | cons a r ia ir =>
    exact ⟨noE fun sc x => rfl, noT fun sc x => rfl, ar_cons ia.ex ir.ar, noB fun op sc x => by match x with
      | [] => rfl
      | [_] => rfl
      | _ :: _ :: _ => rfl, no3 fun sc x => by cases x <;> rfl, noI fun sc x => rfl, noC fun sc x => by match x with
      | [] => rfl
      | [_] => rfl
      | _ :: _ :: _ => rfl, fun a b h => by
        rcases h with h | h <;> cases h
        exact ⟨ia.ex, fun c d h => (ir.hd c d h).1⟩⟩
  | conp a r ia ir =>
    exact ⟨noE fun sc x => rfl, noT fun sc x => rfl, ar_conp ia.ex ir.ar, noB fun op sc x => by match x with
      | [] => rfl
      | [_] => rfl
      | _ :: _ :: _ => rfl, no3 fun sc x => by cases x <;> rfl, noI fun sc x => rfl, noC fun sc x => by match x with
      | [] => rfl
      | [_] => rfl
      | _ :: _ :: _ => rfl, fun a b h => by
        rcases h with h | h <;> cases h
        exact ⟨ia.ex, fun c d h => (ir.hd c d h).1⟩⟩
  | tup r ir => exact al_plain rfl (ex_tup ir.ar)
  | lst r ir => exact al_plain rfl (ex_lst ir.ar)
  | dic => exact al_plain rfl ex_dic
  | bin o a b ia ib => exact al_plain rfl (ex_bin ia.ex ib.ex)
  | rep r b ir ib => exact al_plain rfl (ex_rep ir.ar ib.ex)
  | neg a ia => exact al_plain rfl (ex_neg ia.ex)
  | cmp o a b ia ib =>
    exact ⟨ex_cmp ia.ex ib.ex, te_cmp ia.ex ib.ex, noA fun sc x => by cases x <;> rfl, noB fun op sc x => by match x with
      | [] => rfl
      | [_] => rfl
      | _ :: _ :: _ => rfl, no3 fun sc x => by cases x <;> rfl, noI fun sc x => rfl, noC fun sc x => by match x with
      | [] => rfl
      | [_] => rfl
      | _ :: _ :: _ => rfl, fun a b h => by rcases h with h | h <;> cases h⟩
  | and a b ia ib =>
    exact ⟨ex_and ia.ex ib.bo, te_and ia.te ib.bo, noA fun sc x => by cases x <;> rfl, bo_and ia.ex ia.te ib.bo, no3 fun sc x => by cases x <;> rfl, noI fun sc x => rfl, noC fun sc x => by match x with
      | [] => rfl
      | [_] => rfl
      | _ :: _ :: _ => rfl, fun a b h => by rcases h with h | h <;> cases h⟩
  | or a b ia ib =>
    exact ⟨ex_or ia.ex ib.bo, te_or ia.te ib.bo, noA fun sc x => by cases x <;> rfl, bo_or ia.ex ia.te ib.bo, no3 fun sc x => by cases x <;> rfl, noI fun sc x => rfl, noC fun sc x => by match x with
      | [] => rfl
      | [_] => rfl
      | _ :: _ :: _ => rfl, fun a b h => by rcases h with h | h <;> cases h⟩
  | not a ia =>
    exact ⟨ex_not ia.ex, te_not ia.te, noA fun sc x => by cases x <;> rfl, noB fun op sc x => by match x with
      | [] => rfl
      | [_] => rfl
      | _ :: _ :: _ => rfl, no3 fun sc x => by cases x <;> rfl, noI fun sc x => rfl, noC fun sc x => by match x with
      | [] => rfl
      | [_] => rfl
      | _ :: _ :: _ => rfl, fun a b h => by rcases h with h | h <;> cases h⟩
  | ife c a b ic ia ib => exact al_plain rfl (ex_ife ic.te ia.ex ib.ex)
  | ix a b ia ib => exact al_plain rfl (ex_ix ia.ex ib.ex)
  | sl a lo hi ia il ih => exact al_plain rfl (ex_sl ia.ex il.op ih.op)
  | call j r ir => exact al_plain rfl (ex_call ir.ar)
  | bi b r ir => exact al_plain rfl (ex_bi ir.ar)
  | me m o r io ir => exact al_plain rfl (ex_me io.ex ir.ar ir.hd)
  | isi a ts ia => exact al_plain rfl (ex_isi ia.ex)
  | rng1 a ia =>
    exact ⟨noE fun sc x => rfl, noT fun sc x => rfl, noA fun sc x => by cases x <;> rfl, noB fun op sc x => by match x with
      | [] => rfl
      | [_] => rfl
      | _ :: _ :: _ => rfl, no3 fun sc x => by cases x <;> rfl, it_rng1 ia.ex, noC fun sc x => by match x with
      | [] => rfl
      | [_] => rfl
      | _ :: _ :: _ => rfl, fun a b h => by rcases h with h | h <;> cases h⟩
  | rng2 a b ia ib =>
    exact ⟨noE fun sc x => rfl, noT fun sc x => rfl, noA fun sc x => by cases x <;> rfl, noB fun op sc x => by match x with
      | [] => rfl
      | [_] => rfl
      | _ :: _ :: _ => rfl, no3 fun sc x => by cases x <;> rfl, it_rng2 ia.ex ib.ex, noC fun sc x => by match x with
      | [] => rfl
      | [_] => rfl
      | _ :: _ :: _ => rfl, fun a b h => by rcases h with h | h <;> cases h⟩
  | enum a ia =>
    exact ⟨noE fun sc x => rfl, noT fun sc x => rfl, noA fun sc x => by cases x <;> rfl, noB fun op sc x => by match x with
      | [] => rfl
      | [_] => rfl
      | _ :: _ :: _ => rfl, no3 fun sc x => by cases x <;> rfl, it_enum ia.ex, noC fun sc x => by match x with
      | [] => rfl
      | [_] => rfl
      | _ :: _ :: _ => rfl, fun a b h => by rcases h with h | h <;> cases h⟩
  | lc vs one it c e ii ic ie => exact al_plain rfl (ex_lc ii.it ic.ts ie.ex)
  | lend is e ie => exact al_plain rfl (ex_lend ie.ex)
  | rev a ia => exact al_plain rfl (ex_rev ia.ex)
end
end VL
namespace VL
open PySem PySem.Spec L2

def isLc : Expr → Bool
  | .ListComp _ _ _ _ => true
  | _ => false
def augB : Bop → Operator → Bool
  | .add, .Add => true
  | .sub, .Sub => true
  | _, _ => false
def isTup : Expr → Bool
  | .Tuple _ _ _ => true
  | _ => false
/-- whether the list of a comprehension goes straight into its name -/
def swB (sc scope : Scope) (y : Str) (py pos : Pos) : Bool := lcB sc y && (py.line == pos.line) && !(scope.names.any fun (n, k) => n == y && (k == .local || k == .cell))
def ceB (sc : Scope) (x : Str) : Bool := match sc.names.lookup x with | some .cell => true | _ => false
variable (Γ : Gam) (sc : Scope)
def lcAsg (x : Str) (p : Pos) : Expr → Bool
  | .ListComp _ _ scope pos => swB sc scope x p pos || ceB sc x
  | _ => locB sc x
def chkAsg (i : Nat) (e : E) : Stmt → Bool
  | .Assign [.Name x p] e' _ => nameAt Γ i x && chkE Γ e sc e' && lcAsg sc x p e'
  | _ => false
mutual
def chkS : S → Stmt → Bool
  | .asg i e, st => chkAsg Γ sc i e st
  | .asz i e, st => chkAsg Γ sc i e st
  | .unp is e, .Assign [.Tuple es _ _] e' _ => tgB Γ (locB sc) is es && chkE Γ e sc e' && !isTup e'
  | .app i e, .Expr (.Call (.Attribute (.Name x _) y apos) [e'] [] cpos) _ => nameAt Γ i x && visB sc x && decide (y = ("append" : Str)) && (apos.endLine == cpos.line) && chkE Γ e sc e'
  | .ext i e, .Expr (.Call (.Attribute (.Name x _) y apos) [e'] [] cpos) _ => nameAt Γ i x && visB sc x && decide (y = ("extend" : Str)) && (apos.endLine == cpos.line) && chkE Γ e sc e'
  | .ins i a b, .Expr (.Call (.Attribute (.Name x _) y apos) [a', b'] [] cpos) _ => nameAt Γ i x && visB sc x && decide (y = ("insert" : Str)) && (apos.endLine == cpos.line) && chkE Γ a sc a' && chkE Γ b sc b'
  | .pop j i, .Assign [.Name z _] (.Call (.Attribute (.Name x _) y apos) [] [] cpos) _ => nameAt Γ j z && locB sc z && nameAt Γ i x && visB sc x && decide (y = ("pop" : Str)) && (apos.endLine == cpos.line)
  | .popu is i, .Assign [.Tuple es _ _] (.Call (.Attribute (.Name x _) y apos) [] [] cpos) _ => tgB Γ (locB sc) is es && nameAt Γ i x && visB sc x && decide (y = ("pop" : Str)) && (apos.endLine == cpos.line)
  | .sti i k v, .Assign [.Subscript (.Name x _) k' _] v' _ => nameAt Γ i x && visB sc x && chkE Γ k sc k' && chkE Γ v sc v' && !isSlice k'
  | .aug i o e, .AugAssign (.Name x _) o' e' _ => nameAt Γ i x && locB sc x && augB o o' && chkE Γ e sc e'
  | .exx e, .Expr e' _ => chkE Γ e sc e' && !isLc e'
  | .ife c a b, .If c' a' b' _ => chkE Γ c sc c' && !isIfE c' && chkL a a' && chkL b b'
  | .whl c b _, .While c' b' [] _ => chkE Γ c sc c' && !isIfE c' && chkL b b'
  | .forr vs one it b _, .For tg it' b' [] _ => chkI Γ it sc it' && tgtB Γ (locB sc) vs one tg && (!isEn it || !one) && chkL b b'
  | .ret e, .Return (some e') _ => chkE Γ e sc e'
  | .retn, .Return none _ => true
  | .rai c, .Raise (some (.Call (.Name x _) [.Constant (.str _) _ _] [] _)) none _ => okn x && glB sc x && decide (Γ.ex.lookup x = some c)
  | .brk, .Break _ => true
  | .cnt, .Continue _ => true
  | .frz _ a, st => chkS a st
  | .wip _ a, st => chkS a st
  | _, _ => false
def chkL : S → List Stmt → Bool
  | .nil, [] => true
  | .seq a r, s :: ss => chkS a s && chkL r ss
  | _, _ => false
end
variable {Γ sc}

/-! ### what a statement hands on -/
section
variable (K : PySem.W.Frag) (H0 F0 : Hp) (cv : Nat → Value) (W : WX)
def FlOk (F : Hp) (D : Ends) : Fl → Prop
  | .nx τ => ∀ σ' H' F', Same F F' → Good K H0 F0 F' σ' τ H' → D.nx σ' H'
  | .bk τ => ∀ σ' H' F', Same F F' → Good K H0 F0 F' σ' τ H' → D.bk σ' H'
  | .ct τ => ∀ σ' H' F', Same F F' → Good K H0 F0 F' σ' τ H' → D.ct σ' H'
  | .rt own d => ∀ v H' F', Same H0 H' → Same F0 F' → Same F' H' → (∀ a o, F' a = some o → F0 a = some o ∨ H0 a = none) → Res K H0 H0 F' H' v d (ownK own) → D.rt v H'
def OkF (F : Hp) (D : Ends) : Out Fl → Prop
  | .ok f => FlOk K H0 F0 F D f
  | .raise c => ∀ σ' H', Same H0 H' → W (cv c) none σ' H'
  | .stuck => False
def sOf (m : Ta → Out Fl) : TS := fun D σ H => ∃ F τ, Good K H0 F0 F σ τ H ∧ OkF K H0 F0 cv W F D (m τ)
end
section
variable {K : PySem.W.Frag} {H0 F0 : Hp} {cv : Nat → Value} {W : WX} {F F1 : Hp} {D : Ends}
theorem FlOk.mono (s : Same F F1) {f : Fl} (h : FlOk K H0 F0 F D f) : FlOk K H0 F0 F1 D f := by
  cases f with
  | nx τ => exact fun σ' H' F' a g => h σ' H' F' (s.trans a) g
  | bk τ => exact fun σ' H' F' a g => h σ' H' F' (s.trans a) g
  | ct τ => exact fun σ' H' F' a g => h σ' H' F' (s.trans a) g
  | rt own d => exact h
theorem OkF.mono (s : Same F F1) {x : Out Fl} (h : OkF K H0 F0 cv W F D x) : OkF K H0 F0 cv W F1 D x := by
  cases x with
  | ok f => exact FlOk.mono s h
  | raise c => exact h
  | stuck => exact h
/-- an expression within a statement -/
theorem OkF.expr {σ : L2.St} {τ : Ta} {H : Hp} (g : Good K H0 F0 F σ τ H) {x : Out (Kd × PyData)} {f : Kd × PyData → Out Fl} (h : OkF K H0 F0 cv W F D (x.bind f)) {R : VK}
    (hR : ∀ k d v F1 H1, x = .ok (k, d) → Ext F H F1 H1 → Res K H0 H F1 H1 v d k → OkF K H0 F0 cv W F1 D (f (k, d)) → R v H1) : OkE K H0 cv W σ F H R x := by
  cases x with
  | ok y => exact fun v F' H' e r => hR y.1 y.2 v F' H' rfl e r (OkF.mono e.le h)
  | raise c => exact fun H' s => h σ H' (g.base.trans s)
  | stuck => exact h
theorem OkF.test {σ : L2.St} {τ : Ta} {H : Hp} (g : Good K H0 F0 F σ τ H) {x : Out Bool} {f : Bool → Out Fl} (h : OkF K H0 F0 cv W F D (x.bind f)) {R : Bool → Hp → Prop}
    (hR : ∀ b F1 H1, x = .ok b → Ext F H F1 H1 → OkF K H0 F0 cv W F1 D (f b) → R b H1) : OkB cv W σ F H R x := by
  cases x with
  | ok b => exact fun F' H' e => hR b F' H' rfl e (OkF.mono e.le h)
  | raise c => exact fun H' s => h σ H' (g.base.trans s)
  | stuck => exact h
theorem OkF.iter {σ : L2.St} {τ : Ta} {H : Hp} (g : Good K H0 F0 F σ τ H) {x : Out (List PyData)} {f : List PyData → Out Fl} (h : OkF K H0 F0 cv W F D (x.bind f)) {R : It → Hp → Prop}
    (hR : ∀ xs J F1 H1, x = .ok xs → Ext F H F1 H1 → WalkD K J F1 xs → OkF K H0 F0 cv W F1 D (f xs) → R J H1) : OkI K cv W σ F H R x := by
  cases x with
  | ok b => exact fun J F' H' e w => hR b J F' H' rfl e w (OkF.mono e.le h)
  | raise c => exact fun H' s => h σ H' (g.base.trans s)
  | stuck => exact h
theorem OkF.kept {σ : L2.St} {τ : Ta} {H : Hp} (g : Good K H0 F0 F σ τ H) {x : Out (Kd × PyData)} {f : PyData → Out Fl} (h : OkF K H0 F0 cv W F D ((x.bind keep).bind f)) {R : VK}
    (hR : ∀ d v F1 H1, Ext F H F1 H1 → Rp K F1 v d → OkF K H0 F0 cv W F1 D (f d) → R v H1) : OkE K H0 cv W σ F H R x := by
  cases x with
  | ok y =>
    obtain ⟨k, d⟩ := y
    intro v F1 H1 e1 r1
    change OkF _ _ _ _ _ _ _ ((keep (k, d)).bind f) at h
    cases ek : keep (k, d) with
    | stuck => rw [ek] at h; exact h.elim
    | raise c => cases k <;> cases ek
    | ok d' =>
      obtain ⟨e2, e3⟩ := keep_ok ek
      change d = d' at e2
      subst e2
      obtain ⟨F2, x2, s2, rp⟩ := r1.keep e1 e3
      rw [ek] at h
      exact hR d v F2 H1 x2 rp (OkF.mono x2.le h)
  | raise c => exact fun H' s => h σ H' (g.base.trans s)
  | stuck => exact h
end
structure FitsS (Γ : Gam) (cl : Nat → List PyData → Out (Bool × PyData)) (gc : Nat → PyData) (cv : Nat → Value) (X : Cx) (sc : Scope) (W : WX) : Prop where
  ft : Fits Γ cl gc cv X sc
  tk : Takes X W
  fn : ∀ x, X.fn x = true
  po : PassesOwn (model X.prog X.w) X.A X.env X.xe
  ki : X.env.scope.kind = .function
  ex : ∀ x c, Γ.ex.lookup x = some c → ∃ C, X.mg x = some (.ref C) ∧ PySem.W.excIn X.K C [.type "ValueError", .type "Exception", .type "BaseException", .type "object"] "ValueError.__new__" = true ∧ PySem.W.keepIn X.K (.ref C) = true ∧ Raises X (.ref C) ∧ cv c = .ref C
end VL
namespace VL
open PySem PySem.Spec L2
section
variable {Γ : Gam} {cl : Nat → List PyData → Out (Bool × PyData)} {gc : Nat → PyData} {cv : Nat → Value} {H0 F0 : Hp} {g : Nat} {sc : Scope}
def SOk (Γ : Gam) (sc : Scope) (cl : Nat → List PyData → Out (Bool × PyData)) (gc : Nat → PyData) (cv : Nat → Value) (H0 F0 : Hp) (g : Nat) (s : S) : Prop :=
  ∀ (X : Cx) (W : WX) (st : Stmt), FitsS Γ cl gc cv X sc W → chkS Γ sc s st = true → PS X st (sOf X.K H0 F0 cv W (run cl gc g s))
def LOk (Γ : Gam) (sc : Scope) (cl : Nat → List PyData → Out (Bool × PyData)) (gc : Nat → PyData) (cv : Nat → Value) (H0 F0 : Hp) (g : Nat) (s : S) : Prop :=
  ∀ (X : Cx) (W : WX) (st : List Stmt), FitsS Γ cl gc cv X sc W → chkL Γ sc s st = true → PSs X st (sOf X.K H0 F0 cv W (run cl gc g s))
theorem FitsS.loc {X : Cx} {W : WX} (f : FitsS Γ cl gc cv X sc W) : LocF X (locB sc) := fun x h => ⟨loc_of h f.ft.sc, .inl (f.fn x)⟩
theorem slot_lt {X : Cx} {K : PySem.W.Frag} {F H : Hp} {σ : L2.St} {τ : Ta} (g : Good K H0 F0 F σ τ H) {i : Nat} {s : Sl} (h : τ[i]? = some s) : i < σ.length := by
  rw [← g.len]; exact (List.getElem?_eq_some_iff.mp h).1
/-- an owned cell is put into a slot -/
theorem Good.setO {K : PySem.W.Frag} {F H : Hp} {σ : L2.St} {τ : Ta} (g : Good K H0 F0 F σ τ H) (i : Nat) {l : Addr} {d : PyData} (h0 : H0 l = none) (hF : F l = none) (ho : OwnC K F H l d) (hne : ∀ (j : Nat) (e : PyData), j ≠ i → τ[j]? = some (.ow e) → σ[j]? ≠ some (some (.ref l))) : Good K H0 F0 F (σ.set i (some (.ref l))) (τ.set i (.ow d)) H where
  sub0 := g.sub0
  sub := g.sub
  base := g.base
  ext := g.ext
  new := g.new
  len := by rw [List.length_set, List.length_set]; exact g.len
  slot := fun j t ht => by
    rw [get_set] at ht ⊢
    by_cases e : i = j
    · rw [if_pos e] at ht ⊢
      rw [g.len] at ht
      split at ht
      · rename_i hl
        cases ht
        rw [if_pos hl]; exact ⟨l, rfl, h0, hF, ho⟩
      · cases ht
    · rw [if_neg e] at ht ⊢
      exact g.slot j t ht
  dist := fun j k d' e' l' h1 h2 h3 h4 => by
    rw [get_set] at h1 h2 h3 h4
    by_cases e1 : i = j
    · subst e1
      by_cases e2 : i = k
      · exact e2
      · rw [if_neg e2] at h2 h4
        rw [if_pos rfl] at h3
        split at h3
        · cases h3
          exact (hne k e' (Ne.symm e2) h2 h4).elim
        · cases h3
    · by_cases e2 : i = k
      · subst e2
        rw [if_neg e1] at h1 h3
        rw [if_pos rfl] at h4
        split at h4
        · cases h4
          exact (hne j d' (Ne.symm e1) h1 h3).elim
        · cases h4
      · rw [if_neg e1] at h1 h3
        rw [if_neg e2] at h2 h4
        exact g.dist j k d' e' l' h1 h2 h3 h4
/-- an owned cell is written -/
theorem Good.write {K : PySem.W.Frag} {F H : Hp} {σ : L2.St} {τ : Ta} (g : Good K H0 F0 F σ τ H) {i : Nat} {l : Addr} {d d' : PyData} {u : HO} (hτ : τ[i]? = some (.ow d)) (hσ : σ[i]? = some (some (.ref l))) (ho : OwnC K F (L2.upd H l u) l d') : Good K H0 F0 F σ (τ.set i (.ow d')) (L2.upd H l u) := by
  obtain ⟨l', a, h0, hF, _⟩ := g.slot i _ hτ
  rw [hσ] at a; cases a
  have hlt := (List.getElem?_eq_some_iff.mp hτ).1
  refine ⟨g.sub0, fun b o e => by rw [upd_ne (ne_of_none e hF)]; exact g.sub b o e, fun b o e => by rw [upd_ne (ne_of_none e h0)]; exact g.base b o e, g.ext, g.new, by rw [List.length_set]; exact g.len, fun j t ht => ?_, fun j k d1 d2 l1 h1 h2 h3 h4 => ?_⟩
  · rw [get_set] at ht
    by_cases e : i = j
    · subst e
      rw [if_pos rfl, if_pos hlt] at ht
      cases ht
      exact ⟨l, hσ, h0, hF, ho⟩
    · rw [if_neg e] at ht
      have q := g.slot j t ht
      cases t with
      | un => trivial
      | fz d => exact q
      | nw d => exact q
      | ow d1 =>
        obtain ⟨l1, a1, a2, a3, a4⟩ := q
        refine ⟨l1, a1, a2, a3, a4.mono (Same.refl _) (upd_ne ?_)⟩
        rintro rfl
        exact e (g.dist i j d d1 _ hτ ht hσ a1)
  · have back : ∀ {j : Nat} {d1 : PyData}, (τ.set i (.ow d'))[j]? = some (.ow d1) → ∃ d2, τ[j]? = some (.ow d2) := fun {j d1} h => by
      rw [get_set] at h
      split at h
      · rename_i e; subst e; exact ⟨d, hτ⟩
      · exact ⟨d1, h⟩
    obtain ⟨e1, z1⟩ := back h1
    obtain ⟨e2, z2⟩ := back h2
    exact g.dist j k e1 e2 l1 z1 z2 h3 h4
/-- what an expression gives, put into a slot -/
theorem Good.put {K : PySem.W.Frag} {F H F1 H1 : Hp} {σ : L2.St} {τ : Ta} (g : Good K H0 F0 F σ τ H) (e : Ext F H F1 H1) {k : Kd} {v : V} {d : PyData} (r : Res K H0 H F1 H1 v d k) (i : Nat) {s : Sl} (hs : slK k d = some s) : Good K H0 F0 F1 (σ.set i (some v)) (τ.set i s) H1 := by
  have g1 := g.step e
  cases k with
  | fz => cases hs; exact g1.setF i r
  | nw =>
    cases hs
    obtain ⟨l, rfl, h0, rr⟩ := r
    exact g1.set i ⟨l, rfl, h0, rr⟩ fun _ h => nomatch h
  | ow =>
    cases hs
    obtain ⟨l, rfl, hn, hF, o⟩ := r
    refine g1.setO i (g.base.free hn) hF o fun j e hj hτ hσ => ?_
    obtain ⟨l', a, _, _, oo⟩ := g.slot j _ hτ
    rw [hσ] at a; cases a
    obtain ⟨u, hu⟩ := oo.some
    rw [hn] at hu; cases hu
  | pk => cases hs
  | mv => cases hs
theorem Good.putZ {K : PySem.W.Frag} {F H F1 H1 : Hp} {σ : L2.St} {τ : Ta} (g : Good K H0 F0 F σ τ H) (e : Ext F H F1 H1) {k : Kd} {v : V} {d : PyData} (r : Res K H0 H F1 H1 v d k) (i : Nat) {s : Sl} (hs : slZ k d = some s) : ∃ F2, Same F1 F2 ∧ Good K H0 F0 F2 (σ.set i (some v)) (τ.set i s) H1 := by
  cases k with
  | fz => cases hs; exact ⟨F1, Same.refl _, (g.step e).setF i r⟩
  | nw =>
    cases hs
    obtain ⟨l, rfl, h0, rr⟩ := r
    exact ⟨F1, Same.refl _, (g.step e).set i ⟨l, rfl, h0, rr⟩ fun _ h => nomatch h⟩
  | ow =>
    cases hs
    obtain ⟨l, rfl, hn, hF, o⟩ := r
    obtain ⟨u, hu⟩ := o.some
    have s2 : Same F1 (L2.upd F1 l u) := fun b w h => by rw [upd_ne (ne_of_none h hF)]; exact h
    exact ⟨_, s2, (g.step (e.freeze hn hF hu)).set i ⟨l, rfl, g.base.free hn, F1, s2, hF, o.mono (Same.refl _) (by rw [upd_same, hu])⟩ fun _ h => nomatch h⟩
  | pk => cases hs
  | mv => cases hs
theorem sw_cell {elt : Expr} {gs : List Comprehension} {scope : Scope} {pos py : Pos} {y : Str} {l : Nat} {X : Cx} (hs : X.env.scope = sc) (h : ceB sc y = true) : swapsWith (.ListComp elt gs scope pos) (some (.Name y py)) l X.env = pure false := by
  have q : X.env.kindOf y = some .cell := by
    unfold ceB at h
    unfold Env.kindOf
    rw [hs]
    split at h
    · assumption
    · cases h
  unfold swapsWith
  simp only [q]
  rw [show (some NameKind.cell == some NameKind.local) = false from rfl, Bool.and_false, Bool.false_and, Bool.false_and]
theorem ceB_loc {x : Str} (h : ceB sc x = true) : locB sc x = true := by
  unfold ceB at h
  unfold locB
  split at h
  · rename_i e; rw [e]
  · cases h
/-- name = value -/
theorem asg_ok {m : Ta → Out Fl} {e : E} {i : Nat} (hm : ∀ {X : Cx} {W : WX} {D : Ends} {σ : L2.St} {H : Hp}, sOf X.K H0 F0 cv W m D σ H → tOf X.K H0 F0 cv W (ev cl gc e) σ H fun x H1 => gName i x σ H1 D.nx)
    {X : Cx} {W : WX} {st : Stmt} (f : FitsS Γ cl gc cv X sc W) (h : chkAsg Γ sc i e st = true) : PS X st (sOf X.K H0 F0 cv W m) := by
  cases st with
  | Assign ts e' pos =>
    match ts, h with
    | [], h => cases h
    | a :: _ :: _, h => cases a <;> cases h
    | [t], h =>
      cases t with
      | Name x p =>
        have h' : (nameAt Γ i x && chkE Γ e sc e' && lcAsg sc x p e') = true := h
        rw [Bool.and_eq_true, Bool.and_eq_true] at h'
        obtain ⟨⟨h1, h2⟩, h3⟩ := h'
        obtain ⟨n1, _, _⟩ := name_at h1
        have hN : X.N.Nodup := by rw [f.ft.nm]; exact f.ft.nd
        have hi : X.N[i]? = some x := by rw [f.ft.nm]; exact n1
        have pe := (al (H0 := H0) (F0 := F0) e).ex X W sc e' f.ft f.tk h2
        have plain : locB sc x = true → swapsWith e' (some (.Name x p)) pos.line X.env = pure false → PS X (.Assign [.Name x p] e' pos) (sOf X.K H0 F0 cv W m) := fun hl hs =>
          PS.weak (ps_set hN hi (loc_of hl f.ft.sc) pe hs (.inl (f.fn x))) fun D σ H q => hm q
        cases e' with
        | ListComp elt gs scope pos' =>
          have h4 : (swB sc scope x p pos' || ceB sc x) = true := h3
          rw [Bool.or_eq_true] at h4
          rcases h4 with h5 | h5
          · cases e with
            | lc vs one it c e2 =>
              unfold swB at h5
              rw [Bool.and_eq_true, Bool.and_eq_true, Bool.not_eq_true'] at h5
              have hl : X.env.scope.names.lookup x = some .local := by
                rw [f.ft.sc]
                have z := h5.1.1
                unfold lcB at z
                split at z
                · assumption
                · cases z
              obtain ⟨tg, it', ifs, rfl, P⟩ := lc_parts (al (H0 := H0) (F0 := F0) it).it (al c).ts (al e2).ex f.ft f.tk h2
              have pl := ps_setLc (pos := pos') (spos := pos) (py := p) f.ft.calm hN hi hl (sw_true f.ki hl h5.1.2 h5.2) P.pi P.ok P.pg P.pt P.pe P.fo
              rw [P.vs] at pl
              exact PS.weak pl fun D σ H q => lc_read (hm q)
            | _ => cases h2
          · exact plain (ceB_loc h5) (sw_cell f.ft.sc h5)
        | SetComp => cases e <;> cases h2
        | DictComp => cases e <;> cases h2
        | _ => exact plain h3 rfl
      | _ => cases h
  | _ => cases h
theorem s_asg {i : Nat} {e : E} : SOk Γ sc cl gc cv H0 F0 g (.asg i e) := fun X W st f h => asg_ok (m := run cl gc g (.asg i e)) (fun {X W D σ H} ⟨F, τ, gg, q⟩ => ⟨F, τ, gg, OkF.expr gg q fun k d v F1 H1 _ e1 r1 q1 => by
    change OkF _ _ _ _ _ _ _ (match slK k d with | some s => _ | none => _) at q1
    split at q1
    · rename_i s hs
      exact q1 _ H1 F1 (Same.refl _) (gg.put e1 r1 i hs)
    · exact q1.elim⟩) f h
theorem s_asz {i : Nat} {e : E} : SOk Γ sc cl gc cv H0 F0 g (.asz i e) := fun X W st f h => asg_ok (m := run cl gc g (.asz i e)) (fun {X W D σ H} ⟨F, τ, gg, q⟩ => ⟨F, τ, gg, OkF.expr gg q fun k d v F1 H1 _ e1 r1 q1 => by
    change OkF _ _ _ _ _ _ _ (match slZ k d with | some s => _ | none => _) at q1
    split at q1
    · rename_i s hs
      obtain ⟨F2, s2, g2⟩ := gg.putZ e1 r1 i hs
      exact q1 _ H1 F2 s2 g2
    · exact q1.elim⟩) f h
theorem s_unp {is : List Nat} {e : E} : SOk Γ sc cl gc cv H0 F0 g (.unp is e) := by
  intro X W st f h
  cases st with
  | Assign ts e' pos =>
    match ts, h with
    | [], h => cases h
    | a :: _ :: _, h => cases a <;> cases h
    | [t], h =>
      cases t with
      | Tuple es kk p =>
        have h' : (tgB Γ (locB sc) is es && chkE Γ e sc e' && !isTup e') = true := h
        rw [Bool.and_eq_true, Bool.and_eq_true, Bool.not_eq_true'] at h'
        obtain ⟨⟨h1, h2⟩, h3⟩ := h'
        have pe := (al (H0 := H0) (F0 := F0) e).ex X W sc e' f.ft f.tk h2
        have pg : PG X (.Tuple es kk p) (gOf X.K false is) := pg_of f.ft.calm f.ft.nm f.ft.nd f.loc (show (!false && tgB Γ (locB sc) is es) = true from h1)
        have hs : swapsWithSole [.Tuple es kk p] e' pos.line X.env = pure false := by cases e' <;> rfl
        have hw : swappedStores [.Tuple es kk p] e' X.env = pure none := by
          cases e' with
          | Tuple => cases h3
          | _ => rfl
        refine PS.weak (ps_asg pe pg hs hw rfl) fun D σ H ⟨F, τ, gg, q⟩ => ⟨F, τ, gg, OkF.expr gg q fun k d v F1 H1 _ e1 r1 q1 => ?_⟩
        change OkF _ _ _ _ _ _ _ ((tupOf (k, d)).bind _) at q1
        have kp : ∀ ds, tupOf (k, d) = .ok ds → d = .tuple ds ∧ keep (k, d) = .ok d := fun ds z => by
          cases k <;> cases d <;> first | (cases z; exact ⟨rfl, rfl⟩) | cases z
        cases et : tupOf (k, d) with
        | stuck => rw [et] at q1; exact q1.elim
        | raise c => cases k <;> cases d <;> cases et
        | ok ds =>
          rw [et] at q1
          obtain ⟨rfl, hk⟩ := kp ds et
          obtain ⟨F2, x2, s2, rp⟩ := r1.keep e1 hk
          change OkF _ _ _ _ _ _ _ (match setAll is ds τ with | some τ' => _ | none => _) at q1
          split at q1
          · rename_i τ' hτ
            exact g_spec x2.sub rp (show bindT is false (.tuple ds) τ = some τ' from by cases is with | nil => exact hτ | cons a r => cases r <;> exact hτ) fun σ' sets => q1 σ' H1 F2 s2 (Good.sets sets (gg.step x2))
          · exact q1.elim
      | _ => cases h
  | _ => cases h
end
end VL
namespace VL
open PySem PySem.Spec L2
section
variable {Γ : Gam} {cl : Nat → List PyData → Out (Bool × PyData)} {gc : Nat → PyData} {cv : Nat → Value} {H0 F0 : Hp} {g : Nat} {sc : Scope}
/-- xs.extend(ys), ys perhaps behind a lock -/
theorem ext_rd {X : Cx} : MtR X "list.extend" (fun x vs H Q => ∃ l b xs zs, x = .ref l ∧ vs = [.ref b] ∧ H l = some (.lst xs) ∧ Rd H b (.lst zs) ∧ xs.length + zs.length ≤ sizeLine ∧ Q .non (upd H l (.lst (xs ++ zs)))) := by
  rintro pins s σ H x vs v us Q I rx rv ⟨l, b, xs, zs, rfl, rfl, hl, hb, hz, q⟩
  cases rx
  obtain ⟨u, rfl, ru⟩ := rv.one
  cases ru
  obtain ⟨_, its, n, r, el, e⟩ := Inv.rdL I (.inl hl)
  obtain ⟨_, jts, m, r', el', e'⟩ := Inv.rdL I hb
  have z1 : its.toArray.size = xs.length := by rw [List.size_toArray, el]
  have z2 : jts.toArray.size = zs.length := by rw [List.size_toArray, el']
  have big : sizeLine < 2 ^ 63 := line63
  have nl : ¬ (!its.toArray.isEmpty && Builtin.List.listTooLong (its.toArray.size + jts.toArray.size)) = true := by
    rw [z1, z2, notLongL hz, Bool.and_false]; exact Bool.false_ne_true
  refine PySem.call_meets F.slot_list_extend ⟨_, e, rfl⟩ F.entry_list_extend (F.args_list_extend_2 _ _) (AutoSeq1.list_extend_list_list_0 l its.toArray n b jts.toArray m nl (by omega) (by omega)) ⟨e, e', ?_⟩
  refine ⟨.non, upd H l (.lst (xs ++ zs)), I.lset (its' := its ++ jts) hl e (by simp) (r.append r') ?_, rfl, q⟩
  rw [List.length_append]; exact hz
/-- a method of the list in a slot -/
theorem slot_pe {X : Cx} {W : WX} (f : FitsS Γ cl gc cv X sc W) {i : Nat} {x : Str} {p : Pos} (h1 : nameAt Γ i x = true) (h2 : visB sc x = true) : PE X (.Name x p) (tVar i) :=
  let ⟨n1, n2, n3⟩ := name_at h1
  pe_var (by rw [f.ft.nm]; exact n1) (vis_of h2 f.ft.sc) n2 n3
theorem s_app {i : Nat} {e : E} : SOk Γ sc cl gc cv H0 F0 g (.app i e) := by
  intro X W st f h
  cases st with
  | Expr c pos =>
    cases c with
    | Call fn es ks cpos =>
      cases fn with
      | Attribute o y apos =>
        cases o with
        | Name x p =>
          match es, ks, h with
          | [], _, h => cases h
          | _ :: _ :: _, _, h => cases h
          | [_], _ :: _, h => cases h
          | [e'], [], h =>
            have h' : (nameAt Γ i x && visB sc x && decide (y = ("append" : Str)) && (apos.endLine == cpos.line) && chkE Γ e sc e') = true := h
            rw [Bool.and_eq_true, Bool.and_eq_true, Bool.and_eq_true, Bool.and_eq_true, decide_eq_true_eq] at h'
            obtain ⟨⟨⟨⟨h1, h2⟩, rfl⟩, h3⟩, h4⟩ := h'
            have pe := (al (H0 := H0) (F0 := F0) e).ex X W sc e' f.ft f.tk h4
            have hs := not_star h4 [] X.env
            have few : (((backTo cpos (starEach [e'] X.env)).all fun x => !x.1) && ((backToKw cpos (keywordEach [] X.env)).all fun x => x.1.isSome) && decide (([e'].length + ([] : List Keyword).length + if ([] : List Keyword).isEmpty = true then 0 else 1) < 30)) = true := by rw [hs]; rfl
            refine PS.weak (ps_expr (pe_bm PySem.F.plainAttrs_list PySem.F.slot_list_append PySem.F.type_list_append mt_append (slot_pe f h1 h2) (pa_cons pe pa_nil hs) rfl few h3 hs rfl)) fun D σ H ⟨F, τ, gg, q⟩ => ?_
            change OkF _ _ _ _ _ _ _ (match τ[i]? with | some (.ow (.list xs)) => _ | _ => _) at q
            split at q
            · rename_i xs hτ
              obtain ⟨l, a1, a2, a3, a4⟩ := gg.slot i _ hτ
              obtain ⟨vs, b1, b2, b3⟩ := a4
              refine ⟨_, a1, .inl ⟨rfl, vs, SqL.of b1⟩, F, τ, gg, OkF.kept gg q fun d v F1 H1 e1 r1 q1 => ?_⟩
              change OkF _ _ _ _ _ _ _ (if _ then _ else _) at q1
              split at q1
              · rename_i hl
                have b1' := e1.same _ _ b1
                have hv : vs.length < line := by rw [b3.length]; exact hl
                refine ⟨l, vs, v, rfl, rfl, b1', by rw [← line_eq]; exact hv, ?_⟩
                have g1 := gg.step e1
                have gw := g1.write (i := i) (l := l) (d' := .list (xs ++ [d])) (u := .lst (vs ++ [v])) hτ a1 ⟨vs ++ [v], upd_same, by rw [List.length_append, List.length_singleton]; omega, (b3.mono e1.le).append (.cons r1 .nil)⟩
                exact q1 σ _ F1 (Same.refl _) gw
              · exact q1.elim
            · exact q.elim
        | _ => match es, ks, h with
          | [], _, h => cases h
          | _ :: _ :: _, _, h => cases h
          | [_], [], h => cases h
          | [_], _ :: _, h => cases h
      | _ => cases h
    | _ => cases h
  | _ => cases h
theorem s_ext {i : Nat} {e : E} : SOk Γ sc cl gc cv H0 F0 g (.ext i e) := by
  intro X W st f h
  cases st with
  | Expr c pos =>
    cases c with
    | Call fn es ks cpos =>
      cases fn with
      | Attribute o y apos =>
        cases o with
        | Name x p =>
          match es, ks, h with
          | [], _, h => cases h
          | _ :: _ :: _, _, h => cases h
          | [_], _ :: _, h => cases h
          | [e'], [], h =>
            have h' : (nameAt Γ i x && visB sc x && decide (y = ("extend" : Str)) && (apos.endLine == cpos.line) && chkE Γ e sc e') = true := h
            rw [Bool.and_eq_true, Bool.and_eq_true, Bool.and_eq_true, Bool.and_eq_true, decide_eq_true_eq] at h'
            obtain ⟨⟨⟨⟨h1, h2⟩, rfl⟩, h3⟩, h4⟩ := h'
            have pe := (al (H0 := H0) (F0 := F0) e).ex X W sc e' f.ft f.tk h4
            have hs := not_star h4 [] X.env
            have few : (((backTo cpos (starEach [e'] X.env)).all fun x => !x.1) && ((backToKw cpos (keywordEach [] X.env)).all fun x => x.1.isSome) && decide (([e'].length + ([] : List Keyword).length + if ([] : List Keyword).isEmpty = true then 0 else 1) < 30)) = true := by rw [hs]; rfl
            refine PS.weak (ps_expr (pe_bm PySem.F.plainAttrs_list PySem.F.slot_list_extend PySem.F.type_list_extend ext_rd (slot_pe f h1 h2) (pa_cons pe pa_nil hs) rfl few h3 hs rfl)) fun D σ H ⟨F, τ, gg, q⟩ => ?_
            change OkF _ _ _ _ _ _ _ (match τ[i]? with | some (.ow (.list xs)) => _ | _ => _) at q
            split at q
            · rename_i xs hτ
              obtain ⟨l, a1, a2, a3, a4⟩ := gg.slot i _ hτ
              obtain ⟨vs, b1, b2, b3⟩ := a4
              refine ⟨_, a1, .inl ⟨rfl, vs, SqL.of b1⟩, F, τ, gg, OkF.expr gg q fun k d v F1 H1 _ e1 r1 q1 => ?_⟩
              cases d with
              | list ys =>
                change OkF _ _ _ _ _ _ _ (if _ then _ else _) at q1
                split at q1
                · rename_i hl
                  obtain ⟨b, zs, rfl, hz, zl, rz⟩ := r1.pk.list e1.sub
                  have b1' := e1.same _ _ b1
                  have hv : vs.length + zs.length ≤ line := by rw [b3.length, rz.length]; exact hl
                  refine ⟨l, b, vs, zs, rfl, rfl, b1', hz, by rw [← line_eq]; exact hv, ?_⟩
                  have g1 := gg.step e1
                  have gw := g1.write (i := i) (l := l) (d' := .list (xs ++ ys)) (u := .lst (vs ++ zs)) hτ a1 ⟨vs ++ zs, upd_same, by rw [List.length_append]; exact hv, (b3.mono e1.le).append rz⟩
                  exact q1 σ _ F1 (Same.refl _) gw
                · exact q1.elim
              | _ => exact q1.elim
            · exact q.elim
        | _ => match es, ks, h with
          | [], _, h => cases h
          | _ :: _ :: _, _, h => cases h
          | [_], [], h => cases h
          | [_], _ :: _, h => cases h
      | _ => cases h
    | _ => cases h
  | _ => cases h
theorem s_ins {i : Nat} {a b : E} : SOk Γ sc cl gc cv H0 F0 g (.ins i a b) := by
  intro X W st f h
  cases st with
  | Expr c pos =>
    cases c with
    | Call fn es ks cpos =>
      cases fn with
      | Attribute o y apos =>
        cases o with
        | Name x p =>
          match es, ks, h with
          | [], _, h => cases h
          | [_], _, h => cases h
          | _ :: _ :: _ :: _, _, h => cases h
          | [_, _], _ :: _, h => cases h
          | [a', b'], [], h =>
            have h' : (nameAt Γ i x && visB sc x && decide (y = ("insert" : Str)) && (apos.endLine == cpos.line) && chkE Γ a sc a' && chkE Γ b sc b') = true := h
            rw [Bool.and_eq_true, Bool.and_eq_true, Bool.and_eq_true, Bool.and_eq_true, Bool.and_eq_true, decide_eq_true_eq] at h'
            obtain ⟨⟨⟨⟨⟨h1, h2⟩, rfl⟩, h3⟩, h4⟩, h5⟩ := h'
            have pa := (al (H0 := H0) (F0 := F0) a).ex X W sc a' f.ft f.tk h4
            have pb := (al (H0 := H0) (F0 := F0) b).ex X W sc b' f.ft f.tk h5
            have hs2 := not_star h5 [] X.env
            have hs := not_star h4 [b'] X.env
            have few : (((backTo cpos (starEach [a', b'] X.env)).all fun x => !x.1) && ((backToKw cpos (keywordEach [] X.env)).all fun x => x.1.isSome) && decide (([a', b'].length + ([] : List Keyword).length + if ([] : List Keyword).isEmpty = true then 0 else 1) < 30)) = true := by rw [hs, hs2]; rfl
            refine PS.weak (ps_expr (pe_bm PySem.F.plainAttrs_list PySem.F.slot_list_insert PySem.F.type_list_insert mt_insert (slot_pe f h1 h2) (pa_cons pa (pa_cons pb pa_nil hs2) hs) rfl few h3 hs (by rw [hs2]; rfl))) fun D σ H ⟨F, τ, gg, q⟩ => ?_
            change OkF _ _ _ _ _ _ _ (match τ[i]? with | some (.ow (.list xs)) => _ | _ => _) at q
            split at q
            · rename_i xs hτ
              obtain ⟨l, a1, a2, a3, a4⟩ := gg.slot i _ hτ
              obtain ⟨vs, b1, b2, b3⟩ := a4
              refine ⟨_, a1, .inl ⟨rfl, vs, SqL.of b1⟩, F, τ, gg, OkF.expr gg q fun k kd w F1 H1 _ e1 r1 q1 => ?_⟩
              change OkF _ _ _ _ _ _ _ ((evD cl gc b τ).bind _) at q1
              have g1 := gg.step e1
              refine ⟨F1, τ, g1, OkF.kept g1 q1 fun d v F2 H2 e2 r2 q2 => ?_⟩
              cases kd with
              | int n =>
                change OkF _ _ _ _ _ _ _ (if _ then _ else _) at q2
                split at q2
                · rename_i hl
                  obtain rfl := r1.pk.int
                  have e12 := e1.trans e2
                  have b1' := e12.same _ _ b1
                  have hv : vs.length < line := by rw [b3.length]; exact hl.1
                  refine ⟨l, vs, n, v, rfl, rfl, b1', by rw [← line_eq]; exact hv, hl.2.1, hl.2.2, ?_⟩
                  have rr := b3.mono e12.le
                  have gw := (g1.step e2).write (i := i) (l := l) (d' := .list (xs.take n.toNat ++ [d] ++ xs.drop n.toNat)) (u := .lst (vs.take n.toNat ++ [v] ++ vs.drop n.toNat)) hτ a1
                    ⟨_, upd_same, by simp only [List.length_append, List.length_take, List.length_singleton, List.length_drop]; omega, ((rr.take _).append (.cons r2 .nil)).append (rr.drop _)⟩
                  exact q2 σ _ F2 (Same.refl _) gw
                · exact q2.elim
              | _ => exact q2.elim
            · exact q.elim
        | _ => match es, ks, h with
          | [], _, h => cases h
          | [_], _, h => cases h
          | _ :: _ :: _ :: _, _, h => cases h
          | [_, _], [], h => cases h
          | [_, _], _ :: _, h => cases h
      | _ => cases h
    | _ => cases h
  | _ => cases h
theorem s_pop {j i : Nat} : SOk Γ sc cl gc cv H0 F0 g (.pop j i) := by
  intro X W st f h
  cases st with
  | Assign ts e' pos =>
    match ts, h with
    | [], h => cases h
    | a :: _ :: _, h => cases a <;> cases h
    | [t], h =>
      cases t with
      | Name z pz =>
        cases e' with
        | Call fn es ks cpos =>
          cases fn with
          | Attribute o y apos =>
            cases o with
            | Name x p =>
              match es, ks, h with
              | _ :: _, _, h => cases h
              | [], _ :: _, h => cases h
              | [], [], h =>
                have h' : (nameAt Γ j z && locB sc z && nameAt Γ i x && visB sc x && decide (y = ("pop" : Str)) && (apos.endLine == cpos.line)) = true := h
                rw [Bool.and_eq_true, Bool.and_eq_true, Bool.and_eq_true, Bool.and_eq_true, Bool.and_eq_true, decide_eq_true_eq] at h'
                obtain ⟨⟨⟨⟨⟨h0, hz⟩, h1⟩, h2⟩, rfl⟩, h3⟩ := h'
                have hN : X.N.Nodup := by rw [f.ft.nm]; exact f.ft.nd
                have hi : X.N[j]? = some z := by rw [f.ft.nm]; exact (name_at h0).1
                refine PS.weak (ps_set hN hi (loc_of hz f.ft.sc) (pe_bm0 PySem.F.plainAttrs_list PySem.F.slot_list_pop PySem.F.type_list_pop mt_pop (slot_pe f h1 h2) rfl h3) rfl (.inl (f.fn z))) fun D σ H ⟨F, τ, gg, q⟩ => ?_
                change OkF _ _ _ _ _ _ _ (match τ[i]? with | some (.ow (.list xs)) => _ | _ => _) at q
                split at q
                · rename_i xs hτ
                  obtain ⟨l, a1, a2, a3, a4⟩ := gg.slot i _ hτ
                  obtain ⟨vs, b1, b2, b3⟩ := a4
                  split at q
                  · rename_i d hd
                    obtain ⟨v, hv, rv⟩ := b3.get hd
                    refine ⟨_, a1, .inl ⟨rfl, vs, SqL.of b1⟩, l, vs, v, rfl, rfl, b1, by rw [b3.length]; exact hv, ?_⟩
                    have gw := gg.write (i := i) (l := l) (d' := .list xs.dropLast) (u := .lst vs.dropLast) hτ a1 ⟨_, upd_same, by rw [List.length_dropLast]; omega, b3.dropLast⟩
                    exact q _ _ F (Same.refl _) (gw.setF j rv)
                  · exact q.elim
                · exact q.elim
            | _ => cases es <;> cases ks <;> cases h
          | _ => cases h
        | _ => cases h
      | _ => cases h
  | _ => cases h
theorem s_popu {is : List Nat} {i : Nat} : SOk Γ sc cl gc cv H0 F0 g (.popu is i) := by
  intro X W st f h
  cases st with
  | Assign ts e' pos =>
    match ts, h with
    | [], h => cases h
    | a :: _ :: _, h => cases a <;> cases h
    | [t], h =>
      cases t with
      | Tuple tes kk pz =>
        cases e' with
        | Call fn es ks cpos =>
          cases fn with
          | Attribute o y apos =>
            cases o with
            | Name x p =>
              match es, ks, h with
              | _ :: _, _, h => cases h
              | [], _ :: _, h => cases h
              | [], [], h =>
                have h' : (tgB Γ (locB sc) is tes && nameAt Γ i x && visB sc x && decide (y = ("pop" : Str)) && (apos.endLine == cpos.line)) = true := h
                rw [Bool.and_eq_true, Bool.and_eq_true, Bool.and_eq_true, Bool.and_eq_true, decide_eq_true_eq] at h'
                obtain ⟨⟨⟨⟨h0, h1⟩, h2⟩, rfl⟩, h3⟩ := h'
                have pg : PG X (.Tuple tes kk pz) (gOf X.K false is) := pg_of f.ft.calm f.ft.nm f.ft.nd f.loc (show (!false && tgB Γ (locB sc) is tes) = true from h0)
                refine PS.weak (ps_asg (pe_bm0 PySem.F.plainAttrs_list PySem.F.slot_list_pop PySem.F.type_list_pop mt_pop (slot_pe f h1 h2) rfl h3) pg rfl rfl rfl) fun D σ H ⟨F, τ, gg, q⟩ => ?_
                change OkF _ _ _ _ _ _ _ (match τ[i]? with | some (.ow (.list xs)) => _ | _ => _) at q
                split at q
                · rename_i xs hτ
                  obtain ⟨l, a1, a2, a3, a4⟩ := gg.slot i _ hτ
                  obtain ⟨vs, b1, b2, b3⟩ := a4
                  split at q
                  · rename_i ds hd
                    obtain ⟨v, hv, rv⟩ := b3.get hd
                    refine ⟨_, a1, .inl ⟨rfl, vs, SqL.of b1⟩, l, vs, v, rfl, rfl, b1, by rw [b3.length]; exact hv, ?_⟩
                    have gw := gg.write (i := i) (l := l) (d' := .list xs.dropLast) (u := .lst vs.dropLast) hτ a1 ⟨_, upd_same, by rw [List.length_dropLast]; omega, b3.dropLast⟩
                    split at q
                    · rename_i τ' hτ'
                      exact g_spec gw.sub rv (show bindT is false (.tuple ds) (τ.set i (.ow (.list xs.dropLast))) = some τ' from by cases is with | nil => exact hτ' | cons a r => cases r <;> exact hτ') fun σ' sets => q σ' _ F (Same.refl _) (Good.sets sets gw)
                    · exact q.elim
                  · exact q.elim
                · exact q.elim
            | _ => cases es <;> cases ks <;> cases h
          | _ => cases h
        | _ => cases h
      | _ => cases h
  | _ => cases h
end
end VL
namespace VL
open PySem PySem.Spec L2
section
variable {Γ : Gam} {cl : Nat → List PyData → Out (Bool × PyData)} {gc : Nat → PyData} {cv : Nat → Value} {H0 F0 : Hp} {g : Nat} {sc : Scope}
theorem s_sti {i : Nat} {k v : E} : SOk Γ sc cl gc cv H0 F0 g (.sti i k v) := by
  intro X W st f h
  cases st with
  | Assign ts v' pos =>
    match ts, h with
    | [], h => cases h
    | a :: _ :: _, h => 
      cases a with
      | Subscript o _ _ => cases o <;> cases h
      | _ => cases h
    | [t], h =>
      cases t with
      | Subscript o k' p =>
        cases o with
        | Name x px =>
          have h' : (nameAt Γ i x && visB sc x && chkE Γ k sc k' && chkE Γ v sc v' && !isSlice k') = true := h
          rw [Bool.and_eq_true, Bool.and_eq_true, Bool.and_eq_true, Bool.and_eq_true, Bool.not_eq_true'] at h'
          obtain ⟨⟨⟨⟨h1, h2⟩, h3⟩, h4⟩, h5⟩ := h'
          have pk := (al (H0 := H0) (F0 := F0) k).ex X W sc k' f.ft f.tk h3
          have pv := (al (H0 := H0) (F0 := F0) v).ex X W sc v' f.ft f.tk h4
          have po := slot_pe (p := px) f h1 h2
          have hs : swapsWith v' (some (.Subscript (.Name x px) k' p)) pos.line X.env = pure false := by cases v' <;> rfl
          have hss : swapsWithSole [.Subscript (.Name x px) k' p] v' pos.line X.env = pure false := hs
          have hw : swappedStores [.Subscript (.Name x px) k' p] v' X.env = pure none := by cases v' <;> rfl
          have hu : X.A.units + 1 < cLine := by have := f.ft.hu; omega
          have ha : ∀ w, assign (.Subscript (.Name x px) k' p) X.env w = (do
              let ov ← holding [w] (eval (.Name x px) X.env)
              let iv ← holding [w, ov] (eval k' X.env)
              standAt p
              holding [w, ov, iv] (setItem ov iv w)
              release [w, ov, iv] []) := by
            intro w
            cases k' with
            | Slice => cases h5
            | _ => rfl
          refine ⟨fun pins s σ H D I ⟨F, τ, gg, q⟩ => ?_⟩
          change OkF _ _ _ _ _ _ _ (match τ[i]? with | some (.ow (.dict kvs)) => _ | some (.ow (.list xs)) => _ | _ => _) at q
          split at q
          · rename_i kvs hτ
            obtain ⟨l, a1, a2, a3, a4⟩ := gg.slot i _ hτ
            obtain ⟨es, b1, b2, b3⟩ := a4
            refine (ps_dput hu po pk pv hs).run pins s σ H D I ⟨F, τ, gg, OkF.kept gg q fun d w F1 H1 e1 r1 q1 => ?_⟩
            have g1 := gg.step e1
            refine ⟨_, a1, F1, τ, g1, OkF.expr g1 q1 fun kk kd y F2 H2 _ e2 r2 q2 => ?_⟩
            change OkF _ _ _ _ _ _ _ (if _ then _ else _) at q2
            split at q2
            · rename_i c
              rw [Bool.and_eq_true, decide_eq_true_eq] at c
              obtain ⟨key, rfl, rfl⟩ := key_of c.1 r2.pk
              have e12 := e1.trans e2
              have b1' := e12.same _ _ b1
              have hl : es.length < line := by rw [b3.length]; exact c.2
              refine ⟨l, _, rfl, DPut.k b1' (by rw [← line_eq]; exact hl), ?_⟩
              have rr := (b3.mono e12.le).put key (r1.mono e2.le)
              have gw := (g1.step e2).write (i := i) (l := l) (d' := .dict (putD kvs (kD key) d)) (u := .dK (putK es key w)) hτ a1 ⟨_, upd_same, by have := length_putK es key w; omega, rr⟩
              exact q2 σ _ F2 (Same.refl _) gw
            · exact q2.elim
          · rename_i xs hτ
            obtain ⟨l, a1, a2, a3, a4⟩ := gg.slot i _ hτ
            obtain ⟨vs, b1, b2, b3⟩ := a4
            refine (ps_asg pv (pg_sub po pk set_list ha) hss hw rfl).run pins s σ H D I ⟨F, τ, gg, OkF.kept gg q fun d w F1 H1 e1 r1 q1 => ?_⟩
            have g1 := gg.step e1
            refine ⟨_, a1, F1, τ, g1, OkF.expr g1 q1 fun kk kd y F2 H2 _ e2 r2 q2 => ?_⟩
            cases kd with
            | int n =>
              change OkF _ _ _ _ _ _ _ (match L2.ixN xs.length n with | some j => _ | none => _) at q2
              split at q2
              · rename_i j hj
                obtain rfl := r2.pk.int
                have e12 := e1.trans e2
                have b1' := e12.same _ _ b1
                refine ⟨l, vs, n, j, rfl, rfl, b1', by rw [b3.length]; exact hj, ?_⟩
                have gw := (g1.step e2).write (i := i) (l := l) (d' := .list (xs.set j d)) (u := .lst (vs.set j w)) hτ a1 ⟨_, upd_same, by rw [List.length_set]; exact b2, (b3.mono e12.le).set j (r1.mono e2.le)⟩
                exact q2 σ _ F2 (Same.refl _) gw
              · exact q2.elim
            | _ => exact q2.elim
          · exact q.elim
        | _ => cases h
      | _ => cases h
  | _ => cases h
theorem s_aug {i : Nat} {o : Bop} {e : E} : SOk Γ sc cl gc cv H0 F0 g (.aug i o e) := by
  intro X W st f h
  cases st with
  | AugAssign t op e' pos =>
    cases t with
    | Name x p =>
      have h' : (nameAt Γ i x && locB sc x && augB o op && chkE Γ e sc e') = true := h
      rw [Bool.and_eq_true, Bool.and_eq_true, Bool.and_eq_true] at h'
      obtain ⟨⟨⟨h1, h2⟩, h3⟩, h4⟩ := h'
      have hN : X.N.Nodup := by rw [f.ft.nm]; exact f.ft.nd
      have hi : X.N[i]? = some x := by rw [f.ft.nm]; exact (name_at h1).1
      have pe := (al (H0 := H0) (F0 := F0) e).ex X W sc e' f.ft f.tk h4
      refine ⟨fun pins s σ H D I ⟨F, τ, gg, q⟩ => ?_⟩
      change OkF _ _ _ _ _ _ _ (match τ[i]? with | some (.fz (.int n)) => _ | _ => _) at q
      split at q
      · rename_i n hτ
        obtain ⟨v, a1, a2⟩ := gg.slot i _ hτ
        have hv : v = .int n := (Pk.int (H := H) (.inl a2))
        subst hv
        cases o with
        | add =>
          cases op with
          | Add =>
            refine (ps_aug hN hi (loc_of h2 f.ft.sc) pe iop_add (.inl (f.fn x))).run pins s σ H D I ⟨_, a1, F, τ, gg, OkF.expr gg q fun k d w F1 H1 _ e1 r1 q1 => ?_⟩
            cases d with
            | int m => exact ⟨n, m, rfl, r1.pk.int, q1 _ H1 F1 (Same.refl _) ((gg.step e1).setF i (.int _))⟩
            | _ => exact q1.elim
          | _ => cases h3
        | sub =>
          cases op with
          | Sub =>
            refine (ps_aug hN hi (loc_of h2 f.ft.sc) pe iop_sub (.inl (f.fn x))).run pins s σ H D I ⟨_, a1, F, τ, gg, OkF.expr gg q fun k d w F1 H1 _ e1 r1 q1 => ?_⟩
            cases d with
            | int m => exact ⟨n, m, rfl, r1.pk.int, q1 _ H1 F1 (Same.refl _) ((gg.step e1).setF i (.int _))⟩
            | _ => exact q1.elim
          | _ => cases h3
        | _ => cases op <;> exact absurd h3 Bool.false_ne_true
      · exact q.elim
    | _ => cases h
  | _ => cases h
theorem s_exx {e : E} : SOk Γ sc cl gc cv H0 F0 g (.exx e) := by
  intro X W st f h
  cases st with
  | Expr e' pos =>
    have h' : (chkE Γ e sc e' && !isLc e') = true := h
    rw [Bool.and_eq_true, Bool.not_eq_true'] at h'
    have hs : swapsWith e' none pos.line X.env = pure false := by
      cases e' with
      | ListComp => cases h'.2
      | SetComp => exact absurd h'.1 (by cases e <;> exact Bool.false_ne_true)
      | DictComp => exact absurd h'.1 (by cases e <;> exact Bool.false_ne_true)
      | _ => rfl
    exact PS.weak (ps_expr ((al (H0 := H0) (F0 := F0) e).ex X W sc e' f.ft f.tk h'.1) hs) fun D σ H ⟨F, τ, gg, q⟩ => ⟨F, τ, gg, OkF.expr gg q fun k d v F1 H1 _ e1 r1 q1 => q1 σ H1 F1 (Same.refl _) (gg.step e1)⟩
  | _ => cases h
theorem s_ret {e : E} : SOk Γ sc cl gc cv H0 F0 g (.ret e) := by
  intro X W st f h
  cases st with
  | Return o pos =>
    cases o with
    | none => cases h
    | some e' =>
      refine PS.weak (ps_ret ((al (H0 := H0) (F0 := F0) e).ex X W sc e' f.ft f.tk h)) fun D σ H ⟨F, τ, gg, q⟩ => ⟨F, τ, gg, OkF.expr gg q fun k d v F1 H1 _ e1 r1 q1 => ?_⟩
      have g1 := gg.step e1
      -- a new cell, its own part of the frozen heap taken away
      cases k with
      | fz => exact q1 v H1 F1 g1.base g1.ext g1.sub g1.new r1
      | pk => exact q1.elim
      | ow =>
        obtain ⟨l, rfl, hn, hF, o⟩ := r1
        exact q1 _ H1 F1 g1.base g1.ext g1.sub g1.new ⟨l, rfl, gg.base.free hn, hF, o⟩
      | mv =>
        obtain ⟨l, rfl, h0, hF, o⟩ := r1
        exact q1 _ H1 F1 g1.base g1.ext g1.sub g1.new ⟨l, rfl, h0, hF, o⟩
      | nw =>
        obtain ⟨l, rfl, h0, nc⟩ := r1
        refine q1 _ H1 (cutA F1 l) g1.base (cutA_of g1.ext ?_) (cutA_le.trans g1.sub) (fun a o z => g1.new a o (cutA_le _ _ z)) ⟨l, rfl, h0, cutA_self, nc.own g1.sub⟩
        exact g1.sub0.free h0
  | _ => cases h
theorem s_retn : SOk Γ sc cl gc cv H0 F0 g .retn := by
  intro X W st f h
  cases st with
  | Return o pos =>
    cases o with
    | some e' => cases h
    | none => exact PS.weak ps_retN fun D σ H ⟨F, τ, gg, q⟩ => q _ H F gg.base gg.ext gg.sub gg.new Rp.non
  | _ => cases h
theorem s_brk : SOk Γ sc cl gc cv H0 F0 g .brk := by
  intro X W st f h
  cases st with
  | Break pos => exact PS.weak ps_break fun D σ H ⟨F, τ, gg, q⟩ => q σ H F (Same.refl _) gg
  | _ => cases h
theorem s_cnt : SOk Γ sc cl gc cv H0 F0 g .cnt := by
  intro X W st f h
  cases st with
  | Continue pos => exact PS.weak ps_continue fun D σ H ⟨F, τ, gg, q⟩ => q σ H F (Same.refl _) gg
  | _ => cases h
theorem s_rai {c : Nat} : SOk Γ sc cl gc cv H0 F0 g (.rai c) := by
  intro X W st f h
  cases st with
  | Raise o o2 pos =>
    cases o with
    | none => cases h
    | some ex =>
      cases ex with
      | Call fn es ks p =>
        cases fn with
        | Name x p2 =>
          match es, ks, o2, h with
          | [], _, _, h => cases h
          | a :: _ :: _, _, _, h => 
            cases a with
            | Constant c _ _ => cases c <;> cases h
            | _ => cases h
          | [a], _ :: _, _, h =>
            cases a with
            | Constant c _ _ => cases c <;> cases h
            | _ => cases h
          | [a], [], some _, h =>
            cases a with
            | Constant c _ _ => cases c <;> cases h
            | _ => cases h
          | [a], [], none, h =>
            cases a with
            | Constant cc j p3 =>
              cases cc with
              | str m =>
                have h' : (okn x && glB sc x && decide (Γ.ex.lookup x = some c)) = true := h
                rw [Bool.and_eq_true, Bool.and_eq_true, decide_eq_true_eq] at h'
                obtain ⟨C, hm, hx, hk, hr, hc⟩ := f.ex x c h'.2
                refine PS.weak (ps_raise f.ft.calm f.tk (pmk_own F.excBase_ValueError hx hm hk hr (gl_of h'.1.2 f.ft.sc) (okn_of h'.1.1).1)) fun D σ H ⟨F, τ, gg, q⟩ => ?_
                have q : ∀ σ' H', Same H0 H' → W (cv c) none σ' H' := q
                rw [hc] at q
                exact q σ H gg.base
              | _ => cases h
            | _ => cases h
        | _ => cases es with
          | nil => cases h
          | cons a r => cases a with
            | Constant c _ _ => cases c <;> cases r <;> cases ks <;> cases o2 <;> cases h
            | _ => cases r <;> cases ks <;> cases o2 <;> cases h
      | _ => cases h
  | _ => cases h
/-! ### blocks, branches, loops -/
theorem l_nil : LOk Γ sc cl gc cv H0 F0 g .nil := by
  intro X W st f h
  cases st with
  | nil => exact PSs.weak pss_nil fun D σ H ⟨F, τ, gg, q⟩ => q σ H F (Same.refl _) gg
  | cons => cases h
theorem l_seq {a r : S} (ha : SOk Γ sc cl gc cv H0 F0 g a) (hr : LOk Γ sc cl gc cv H0 F0 g r) : LOk Γ sc cl gc cv H0 F0 g (.seq a r) := by
  intro X W st f h
  cases st with
  | nil => cases h
  | cons s ss =>
    have h' : (chkS Γ sc a s && chkL Γ sc r ss) = true := h
    rw [Bool.and_eq_true] at h'
    refine PSs.weak (pss_cons (ha X W s f h'.1) (hr X W ss f h'.2)) fun D σ H ⟨F, τ, gg, q⟩ => ⟨F, τ, gg, ?_⟩
    change OkF _ _ _ _ _ _ _ ((run cl gc g a τ).bind _) at q
    cases ea : run cl gc g a τ with
    | stuck => rw [ea] at q; exact q
    | raise c => rw [ea] at q; exact q
    | ok fl =>
      rw [ea] at q
      cases fl with
      | nx τ' => exact fun σ' H' F' s g' => ⟨F', τ', g', OkF.mono s q⟩
      | bk τ' => exact q
      | ct τ' => exact q
      | rt o d => exact q
theorem s_ife {c : E} {a b : S} (ha : LOk Γ sc cl gc cv H0 F0 g a) (hb : LOk Γ sc cl gc cv H0 F0 g b) : SOk Γ sc cl gc cv H0 F0 g (.ife c a b) := by
  intro X W st f h
  cases st with
  | If c' a' b' pos =>
    have h' : (chkE Γ c sc c' && !isIfE c' && chkL Γ sc a a' && chkL Γ sc b b') = true := h
    rw [Bool.and_eq_true, Bool.and_eq_true, Bool.and_eq_true, Bool.not_eq_true'] at h'
    obtain ⟨⟨⟨h1, h2⟩, h3⟩, h4⟩ := h'
    refine PS.weak (ps_if ((al (H0 := H0) (F0 := F0) c).te X W sc c' f.ft f.tk h1 h2) (ha X W a' f h3) (hb X W b' f h4)) fun D σ H ⟨F, τ, gg, q⟩ => ⟨F, τ, gg, OkF.test gg q fun k F1 H1 _ e1 q1 => ?_⟩
    cases k with
    | true => exact ⟨F1, τ, gg.step e1, q1⟩
    | false => exact ⟨F1, τ, gg.step e1, q1⟩
  | _ => cases h
theorem s_forr {vs : List Nat} {one : Bool} {it : E} {b : S} {ks : List Nat} (hb : LOk Γ sc cl gc cv H0 F0 g b) : SOk Γ sc cl gc cv H0 F0 g (.forr vs one it b ks) := by
  intro X W st f h
  cases st with
  | For tg it' b' els pos =>
    cases els with
    | cons => cases h
    | nil =>
      have h' : (chkI Γ it sc it' && tgtB Γ (locB sc) vs one tg && (!isEn it || !one) && chkL Γ sc b b') = true := h
      rw [Bool.and_eq_true, Bool.and_eq_true, Bool.and_eq_true] at h'
      obtain ⟨⟨⟨h1, h2⟩, h3⟩, h4⟩ := h'
      have hen : isEn it = true → isTupE tg = true := fun q => by
        rw [q] at h3
        cases one with
        | true => cases h3
        | false => cases tg with
          | Tuple => rfl
          | _ => cases h2
      have pi := (al (H0 := H0) (F0 := F0) it).it X W sc tg it' f.ft f.tk h1 hen
      have hfold : ∀ v, foldedSetIterable it' X.env v = pure v := fun v => by
        cases it' with
        | Set => cases it with
          | one a => exact absurd h1 (by cases a <;> exact Bool.false_ne_true)
          | _ => cases h1
        | _ => rfl
      have pg := pg_of f.ft.calm f.ft.nm f.ft.nd f.loc h2
      refine PS.weak (ps_for f.po f.ft.calm pi pg (hb X W b' f h4) hfold) fun D σ H ⟨F, τ, gg, q⟩ => ⟨F, τ, gg, OkF.iter gg q fun xs J F1 H1 _ e1 w q1 => ?_⟩
      obtain ⟨G, Y, wk, wG, wY⟩ := w.ex
      have g1 := gg.step e1
      refine for_it wk (fun i σ' H' => ∃ F' τ', Good X.K H0 F0 F' σ' τ' H' ∧ Same F1 F' ∧ OkF X.K H0 F0 cv W F' D (forGo (fun τ => run cl gc g b τ) (bindT vs one) ks (xs.drop i) τ')) ⟨F1, τ, g1, Same.refl _, q1⟩ ?_ ?_ ?_
      · rintro i σ' H' hi ⟨F', τ', gg', s1, _⟩
        exact wG H' (s1.trans gg'.sub)
      · rintro i x σ' H' H'' hi ⟨F', τ', gg', s1, qq⟩ y
        obtain ⟨d, hd⟩ : ∃ d, xs[i]? = some d := ⟨_, List.getElem?_eq_getElem hi⟩
        obtain ⟨F2, x2, r2⟩ := wY i H' x H'' d F' hd s1 gg'.sub y
        have hdrop : xs.drop i = d :: xs.drop (i + 1) := by
          rw [List.drop_eq_getElem_cons hi]
          rw [List.getElem?_eq_getElem hi] at hd
          cases hd; rfl
        rw [hdrop] at qq
        have qq : OkF X.K H0 F0 cv W F' D (match bindT vs one d τ' with
          | none => .stuck
          | some τ1 => (run cl gc g b τ1).bind fun r => match r with
            | .nx τ2 => forGo (fun τ => run cl gc g b τ) (bindT vs one) ks (xs.drop (i + 1)) (wipeT ks τ2)
            | .ct τ2 => forGo (fun τ => run cl gc g b τ) (bindT vs one) ks (xs.drop (i + 1)) (wipeT ks τ2)
            | .bk τ2 => .ok (.nx (wipeT ks τ2))
            | .rt o d => .ok (.rt o d)) := qq
        split at qq
        · exact qq.elim
        · rename_i τ1 hτ
          refine g_spec x2.sub r2 hτ fun σ2 sets => ?_
          have g2 := Good.sets sets (gg'.step x2)
          refine ⟨F2, τ1, g2, ?_⟩
          have qq := OkF.mono x2.le qq
          cases er : run cl gc g b τ1 with
          | stuck => rw [er] at qq; exact qq
          | raise c => rw [er] at qq; exact qq
          | ok fl =>
            rw [er] at qq
            cases fl with
            | nx τ2 => exact fun σ3 H3 F3 s3 g3 => ⟨F3, _, g3.forget ks, (s1.trans x2.le).trans s3, OkF.mono s3 qq⟩
            | ct τ2 => exact fun σ3 H3 F3 s3 g3 => ⟨F3, _, g3.forget ks, (s1.trans x2.le).trans s3, OkF.mono s3 qq⟩
            | bk τ2 => exact fun σ3 H3 F3 s3 g3 => qq σ3 H3 F3 s3 (g3.forget ks)
            | rt o d => exact qq
      · rintro σ' H' ⟨F', τ', gg', s1, qq⟩
        rw [List.drop_length] at qq
        exact qq σ' H' F' (Same.refl _) gg'
  | _ => cases h
theorem s_whl {c : E} {b : S} {ks : List Nat} (hb : LOk Γ sc cl gc cv H0 F0 g b) : SOk Γ sc cl gc cv H0 F0 g (.whl c b ks) := by
  intro X W st f h
  cases st with
  | While c' b' els pos =>
    cases els with
    | cons => cases h
    | nil =>
      have h' : (chkE Γ c sc c' && !isIfE c' && chkL Γ sc b b') = true := h
      rw [Bool.and_eq_true, Bool.and_eq_true, Bool.not_eq_true'] at h'
      obtain ⟨⟨h1, h2⟩, h3⟩ := h'
      refine PS.weak (ps_while f.po ((al (H0 := H0) (F0 := F0) c).te X W sc c' f.ft f.tk h1 h2) (hb X W b' f h3)) fun D σ H ⟨F, τ, gg, q⟩ => ?_
      refine ⟨fun m σ' H' => ∃ F' τ', Good X.K H0 F0 F' σ' τ' H' ∧ OkF X.K H0 F0 cv W F' D (whlGo (evB cl gc c) (fun τ => run cl gc g b τ) ks m τ'), ⟨g, F, τ, gg, q⟩, ?_⟩
      rintro m σ' H' ⟨F', τ', gg', qq⟩
      cases m with
      | zero => exact qq.elim
      | succ n =>
        refine ⟨F', τ', gg', OkF.test gg' qq fun k F1 H1 _ e1 q1 => ?_⟩
        have g1 := gg'.step e1
        cases k with
        | false => exact q1 σ' H1 F1 (Same.refl _) g1
        | true =>
          refine ⟨fun σ3 H3 => ∃ F3 τ3, Good X.K H0 F0 F3 σ3 τ3 H3 ∧ OkF X.K H0 F0 cv W F3 D (whlGo (evB cl gc c) (fun τ => run cl gc g b τ) ks n τ3), fun σ3 H3 z => ⟨n, Nat.lt_succ_self n, z⟩, F1, τ', g1, ?_⟩
          have q1 : OkF X.K H0 F0 cv W F1 D ((run cl gc g b τ').bind fun r => match r with
            | .nx τ2 => whlGo (evB cl gc c) (fun τ => run cl gc g b τ) ks n (wipeT ks τ2)
            | .ct τ2 => whlGo (evB cl gc c) (fun τ => run cl gc g b τ) ks n (wipeT ks τ2)
            | .bk τ2 => .ok (.nx (wipeT ks τ2))
            | .rt o d => .ok (.rt o d)) := q1
          cases er : run cl gc g b τ' with
          | stuck => rw [er] at q1; exact q1
          | raise c => rw [er] at q1; exact q1
          | ok fl =>
            rw [er] at q1
            cases fl with
            | nx τ2 => exact fun σ3 H3 F3 s3 g3 => ⟨F3, _, g3.forget ks, OkF.mono s3 q1⟩
            | ct τ2 => exact fun σ3 H3 F3 s3 g3 => ⟨F3, _, g3.forget ks, OkF.mono s3 q1⟩
            | bk τ2 => exact fun σ3 H3 F3 s3 g3 => q1 σ3 H3 F3 s3 (g3.forget ks)
            | rt o d => exact q1
  | _ => cases h
theorem s_frz {is : List Nat} {a : S} (ha : SOk Γ sc cl gc cv H0 F0 g a) : SOk Γ sc cl gc cv H0 F0 g (.frz is a) := by
  intro X W st f h
  refine PS.weak (ha X W st f h) fun D σ H ⟨F, τ, gg, q⟩ => ?_
  obtain ⟨F1, s1, g1⟩ := Good.frz is gg
  exact ⟨F1, _, g1, OkF.mono s1 q⟩
theorem s_wip {is : List Nat} {a : S} (ha : SOk Γ sc cl gc cv H0 F0 g a) : SOk Γ sc cl gc cv H0 F0 g (.wip is a) := by
  intro X W st f h
  exact PS.weak (ha X W st f h) fun D σ H ⟨F, τ, gg, q⟩ => ⟨F, _, gg.forget is, q⟩
theorem als (s : S) : SOk Γ sc cl gc cv H0 F0 g s ∧ LOk Γ sc cl gc cv H0 F0 g s := by
  have noL : ∀ {s : S}, (∀ x, chkL Γ sc s x = false) → LOk Γ sc cl gc cv H0 F0 g s := fun hf X W x f h => by rw [hf] at h; cases h
  have noS : ∀ {s : S}, (∀ x, chkS Γ sc s x = false) → SOk Γ sc cl gc cv H0 F0 g s := fun hf X W x f h => by rw [hf] at h; cases h
  induction s with
  | nil => exact ⟨noS fun _ => rfl, l_nil⟩
  | seq a r ia ir => exact ⟨noS fun _ => rfl, l_seq ia.1 ir.2⟩
  | asg i e => exact ⟨s_asg, noL fun x => by cases x <;> rfl⟩
  | asz i e => exact ⟨s_asz, noL fun x => by cases x <;> rfl⟩
  | unp is e => exact ⟨s_unp, noL fun x => by cases x <;> rfl⟩
  | app i e => exact ⟨s_app, noL fun x => by cases x <;> rfl⟩
  | ext i e => exact ⟨s_ext, noL fun x => by cases x <;> rfl⟩
  | ins i a b => exact ⟨s_ins, noL fun x => by cases x <;> rfl⟩
  | pop j i => exact ⟨s_pop, noL fun x => by cases x <;> rfl⟩
  | popu is i => exact ⟨s_popu, noL fun x => by cases x <;> rfl⟩
  | sti i k v => exact ⟨s_sti, noL fun x => by cases x <;> rfl⟩
  | aug i o e => exact ⟨s_aug, noL fun x => by cases x <;> rfl⟩
  | exx e => exact ⟨s_exx, noL fun x => by cases x <;> rfl⟩
  | ife c a b ia ib => exact ⟨s_ife ia.2 ib.2, noL fun x => by cases x <;> rfl⟩
  | whl c b ks ib => exact ⟨s_whl ib.2, noL fun x => by cases x <;> rfl⟩
  | forr vs one it b ks ib => exact ⟨s_forr ib.2, noL fun x => by cases x <;> rfl⟩
  | ret e => exact ⟨s_ret, noL fun x => by cases x <;> rfl⟩
  | retn => exact ⟨s_retn, noL fun x => by cases x <;> rfl⟩
  | rai c => exact ⟨s_rai, noL fun x => by cases x <;> rfl⟩
  | brk => exact ⟨s_brk, noL fun x => by cases x <;> rfl⟩
  | cnt => exact ⟨s_cnt, noL fun x => by cases x <;> rfl⟩
  | frz is a ia => exact ⟨s_frz ia.1, noL fun x => by cases x <;> rfl⟩
  | wip is a ia => exact ⟨s_wip ia.1, noL fun x => by cases x <;> rfl⟩
end

end VL
namespace VL
open PySem PySem.Spec L2

/-- a def of the table, where it stands -/
structure DefAt (K : PySem.W.Frag) (mg : Str → Option Value) (fn gl ex : List (Str × Nat)) (x : Str) (d : Def) (f : Addr) (fd : FuncData) (ps : List Str) : Prop where
  mgf : mg x = some (.ref f)
  at_ : ∃ st N qual, Fun K x qual st f fd ∧ FnScope N ps (defScope st) ∧ chkL ⟨N, fn, gl, ex⟩ (defScope st) d.body (defBody st) = true ∧ N.length = d.ns
  bi : Binds K fd ps []
  np : ps.length = d.np
structure Tab (K : PySem.W.Frag) (mg : Str → Option Value) (Φ : Nat → Option Def) (fn gl ex : List (Str × Nat)) (gc : Nat → PyData) (cv : Nat → Value) : Prop where
  defs : ∀ x j, fn.lookup x = some j → ∃ d f fd ps, Φ j = some d ∧ DefAt K mg fn gl ex x d f fd ps
  blt : ∀ x ∈ bltNames, mg x = none
  gls : ∀ x j, gl.lookup x = some j → ∃ u v, mg x = some u ∧ RelV v u ∧ ∀ F, Rp K F v (gc j)
  exs : ∀ x c, ex.lookup x = some c → ∃ C, mg x = some (.ref C) ∧ PySem.W.excIn K C [.type "ValueError", .type "Exception", .type "BaseException", .type "object"] "ValueError.__new__" = true ∧ PySem.W.keepIn K (.ref C) = true ∧
    PySem.W.subIn K (.ref C) (.type "BaseException") = some true ∧ PySem.W.typeIn K (.ref C) = some (.type "type") ∧ cv c = .ref C
theorem start_ok {K : PySem.W.Frag} {F H : Hp} {N : List Str} {vs : List V} {ds : List PyData} {d : Def} (s : Same F H) (r : RpA K F vs ds) (hn : N.length = d.ns) : Good K H F F (L2.start N vs) (VL.start d ds) H where
  sub0 := s
  sub := s
  base := Same.refl _
  ext := Same.refl _
  new := fun _ _ e => .inl e
  len := by
    unfold L2.start VL.start
    rw [List.length_append, List.length_append, List.length_map, List.length_map, List.length_replicate, List.length_replicate, r.length, hn]
  slot := fun i t ht => by
    unfold VL.start at ht
    by_cases hi : i < ds.length
    · rw [List.getElem?_append_left (by rw [List.length_map]; exact hi), List.getElem?_map] at ht
      cases e : ds[i]? with
      | none => rw [e] at ht; cases ht
      | some x =>
        rw [e] at ht
        cases ht
        obtain ⟨v, hv, rv⟩ := r.get e
        refine ⟨v, ?_, rv⟩
        unfold L2.start
        rw [List.getElem?_append_left (by rw [List.length_map, r.length]; exact hi), List.getElem?_map, hv]
        rfl
    · rw [List.getElem?_append_right (by rw [List.length_map]; omega)] at ht
      rcases List.getElem?_eq_some_iff.mp ht with ⟨hh, e⟩
      rw [List.getElem_replicate] at e
      subst e
      trivial
  dist := fun i j d1 d2 l h1 h2 h3 h4 => by
    unfold VL.start at h1
    by_cases hi : i < ds.length
    · rw [List.getElem?_append_left (by rw [List.length_map]; exact hi), List.getElem?_map] at h1
      cases e : ds[i]? with
      | none => rw [e] at h1; cases h1
      | some x => rw [e] at h1; cases h1
    · rw [List.getElem?_append_right (by rw [List.length_map]; omega)] at h1
      rcases List.getElem?_eq_some_iff.mp h1 with ⟨hh, e⟩
      rw [List.getElem_replicate] at e
      cases e
theorem call_ok {P : Program} {w : World} {K : PySem.W.Frag} {mg : Str → Option Value} {base : Heap} {Φ : Nat → Option Def} {fn gl ex : List (Str × Nat)} {gc : Nat → PyData} {cv : Nat → Value} (T : Tab K mg Φ fn gl ex gc cv) (g : Nat) :
    ∀ (n : Nat) (x : Str) (j : Nat), fn.lookup x = some j → ∀ d f fd ps, Φ j = some d → DefAt K mg fn gl ex x d f fd ps → FnOk P w K mg base (L2.CX P w) n f fd ps (spV K cv (call Φ gc g n j)) := by
  intro n
  induction n with
  | zero => exact fun x j _ d f fd ps _ _ => ⟨fun vs H Q E ⟨_, _, _, _, z⟩ => z.elim, fun A outer s H args us vs Q E _ _ _ _ ⟨_, _, _, _, z⟩ => z.elim⟩
  | succ n ih =>
    intro x j hx d f fd ps hΦ D
    obtain ⟨st, N, qual, hF, hS, hc, hN⟩ := D.at_
    refine hF.okX hS (fun vs H Q E ⟨F, ds, s, r, z⟩ => ?_) (fun cdv A outer s H vs Q E hr ⟨F, ds, sm, r, z⟩ => ?_)
    · rw [r.length, D.np]
      have z : match (match Φ j with | some d => runDef (call Φ gc g n) gc g d ds | none => .stuck) with | .ok (own, d) => _ | .raise c => _ | .stuck => False := z
      rw [hΦ] at z
      unfold runDef at z
      by_cases e : ds.length = d.np
      · exact e
      · simp only [e, if_false] at z
    · have z : match (match Φ j with | some d => runDef (call Φ gc g n) gc g d ds | none => .stuck) with | .ok (own, d) => _ | .raise c => _ | .stuck => False := z
      rw [hΦ] at z
      have hl : ds.length = d.np := by
        by_cases e : ds.length = d.np
        · exact e
        · simp only [runDef, e, if_false] at z
      simp only [runDef, hl, if_true] at z
      have fits : FitsS ⟨N, fn, gl, ex⟩ (call Φ gc g n) gc cv (cxOf (L2.CX P w) P w K mg base N qual (defScope st) f cdv A outer s H E) (defScope st) (fun cls d _ H' => E cls d H') := by
        refine ⟨⟨rfl, hS.nd, rfl, rfl, hr.units, fun y k hy => ?_, T.blt, T.gls⟩, takes_of rfl rfl rfl rfl, fun _ => rfl, passes_of rfl, hS.kind, fun y c hy => ?_⟩
        · obtain ⟨d', f', fd', ps', h1, D'⟩ := T.defs y k hy
          obtain ⟨st', N', qual', hF', _⟩ := D'.at_
          exact ⟨f', fd', ps', n, D'.mgf, hF'.kp, hr, ih y k hy d' f' fd' ps' h1 D', D'.bi⟩
        · obtain ⟨C, h1, h2, h3, h4, h5, h6⟩ := T.exs y c hy
          exact ⟨C, h1, h2, h3, raises_own h4 h5, h6⟩
      refine ⟨_, (als (H0 := H) (F0 := F) (g := g) (cl := call Φ gc g n) d.body).2 _ _ (defBody st) fits hc, ?_⟩
      refine ⟨F, VL.start d ds, start_ok sm r hN, ?_⟩
      cases er : run (call Φ gc g n) gc g d.body (VL.start d ds) with
      | stuck => rw [er] at z; exact z
      | raise c => rw [er] at z; exact fun σ' H' s' => z H' s'
      | ok fl =>
        rw [er] at z
        cases fl with
        | nx τ => exact fun σ' H' F' s' g' => z _ F' H' ⟨g'.base, s', g'.sub, g'.new⟩ Rp.non
        | rt own v => exact fun u H' F' b1 b2 b3 b4 b5 => z u F' H' ⟨b1, b2, b3, b4⟩ b5
        | bk τ => exact z.elim
        | ct τ => exact z.elim
end VL
namespace VL
open PySem PySem.Spec L2

/-! ### the head -/
/-- a row of a law's table: the def's name, its number, its slots' names, its parameters' names, its place in the text -/
structure FRow where
  x : Str
  j : Nat
  N : List Str
  ps : List Str
  i : Nat
def scB (N P : List Str) (sc : Scope) : Bool :=
  (match sc.kind with | .function => true | _ => false) && !sc.isCoroutine && !sc.isGenerator && decide N.Nodup && decide (N.take P.length = P) &&
  P.all (fun x => match sc.names.lookup x with | some .local => true | some .cell => true | _ => false) && sc.names.all (fun y => match y.2 with | .free => false | _ => true)
theorem scB_ok {N P : List Str} {sc : Scope} (h : scB N P sc = true) : FnScope N P sc := by
  unfold scB at h
  simp only [Bool.and_eq_true, Bool.not_eq_true', decide_eq_true_eq, List.all_eq_true] at h
  obtain ⟨⟨⟨⟨⟨⟨h1, h2⟩, h3⟩, h4⟩, h5⟩, h6⟩, h7⟩ := h
  refine ⟨?_, h2, h3, h4, h5, fun x hx => ?_, fun y hy e => ?_⟩
  · split at h1
    · assumption
    · cases h1
  · have q := h6 x hx
    split at q
    · exact .inl (by assumption)
    · exact .inr (by assumption)
    · cases q
  · have q := h7 y hy
    rw [e] at q
    cases q
def stAt (body : List Stmt) (i : Nat) : Stmt := body.getD i (.Pass ⟨0, 0, 0, 0⟩)
def fnOfRows (rs : List FRow) : List (Str × Nat) := rs.map fun r => (r.x, r.j)
def rowB (Φ : Nat → Option Def) (fn gl ex : List (Str × Nat)) (body : List Stmt) (r : FRow) : Bool := match Φ r.j with
  | none => false
  | some d => scB r.N r.ps (defScope (stAt body r.i)) && chkL ⟨r.N, fn, gl, ex⟩ (defScope (stAt body r.i)) d.body (defBody (stAt body r.i)) && decide (r.N.length = d.ns) && decide (r.ps.length = d.np)
/-- a def of the module, in the heap -/
def FnAt (K : PySem.W.Frag) (x : Str) (st : Stmt) (ps : List Str) : Prop := ∃ f fd, PySem.W.nsIn K mainGlobals x = some (some (.ref f)) ∧ Fun K x x st f fd ∧ Binds K fd ps []
theorem fnAt_of {K : PySem.W.Frag} {x : Str} {st : Stmt} {ps : List Str} {f : Addr} {oc : Value} {od an : Option Addr} {osl : Array (Option Value)} {kV doc pm cdv ct : Value}
    (b : ∀ (kV doc pm : Value) (an : Option Addr) (cdv ct : Value) (us : List Value), us.length = ps.length → bindArgs (PySem.W.fnOf x x (defArgs st) (defBody st) (defScope st) .none kV doc pm an cdv ct) ⟨us, []⟩ = pure (ps.zip us))
    (a : PySem.W.nsIn K mainGlobals x = some (some (.ref f))) (l : K.lookup f = some ⟨oc, od, .func (PySem.W.fnOf x x (defArgs st) (defBody st) (defScope st) .none kV doc pm an cdv ct), osl⟩)
    (c : PySem.W.codeIn K cdv x = true) (k : PySem.W.keepIn K (.ref f) = true) : FnAt K x st ps :=
  have F := fun_mk (st := st) l c k
  ⟨f, _, a, F, F.binds b⟩
def AllAt (K : PySem.W.Frag) (body : List Stmt) : List FRow → Prop
  | [] => True
  | r :: rs => FnAt K r.x (stAt body r.i) r.ps ∧ AllAt K body rs
theorem AllAt.get {K : PySem.W.Frag} {body : List Stmt} : ∀ {rs : List FRow} {r : FRow}, AllAt K body rs → r ∈ rs → FnAt K r.x (stAt body r.i) r.ps
  | _ :: _, _, h, .head _ => h.1
  | _ :: _, _, h, .tail _ m => AllAt.get h.2 m
def BltAt (K : PySem.W.Frag) : List Str → Prop
  | [] => True
  | x :: xs => PySem.W.nsIn K mainGlobals x = some none ∧ BltAt K xs
theorem BltAt.get {K : PySem.W.Frag} : ∀ {xs : List Str} {x : Str}, BltAt K xs → x ∈ xs → PySem.W.nsIn K mainGlobals x = some none
  | _ :: _, _, h, .head _ => h.1
  | _ :: _, _, h, .tail _ m => BltAt.get h.2 m
/-- an exception class of the module -/
def ExAt (K : PySem.W.Frag) (x : Str) (C : Addr) : Prop := PySem.W.nsIn K mainGlobals x = some (some (.ref C)) ∧ PySem.W.excIn K C [.type "ValueError", .type "Exception", .type "BaseException", .type "object"] "ValueError.__new__" = true ∧ PySem.W.keepIn K (.ref C) = true ∧
    PySem.W.subIn K (.ref C) (.type "BaseException") = some true ∧ PySem.W.typeIn K (.ref C) = some (.type "type")
def ExsAt (K : PySem.W.Frag) (cv : Nat → Value) : List (Str × Nat) → Prop
  | [] => True
  | p :: ps => (∃ C, ExAt K p.1 C ∧ cv p.2 = .ref C) ∧ ExsAt K cv ps
theorem lookup_mem {α : Type} {x : Str} {j : α} : ∀ {l : List (Str × α)}, l.lookup x = some j → (x, j) ∈ l
  | [], h => by cases h
  | (y, k) :: l, h => by
    rw [List.lookup_cons] at h
    split at h
    · rename_i e
      rw [eq_of_beq e]
      cases h
      exact .head _
    · exact .tail _ (lookup_mem h)
theorem ExsAt.get {K : PySem.W.Frag} {cv : Nat → Value} : ∀ {ps : List (Str × Nat)} {p : Str × Nat}, ExsAt K cv ps → p ∈ ps → ∃ C, ExAt K p.1 C ∧ cv p.2 = .ref C
  | _ :: _, _, h, .head _ => h.1
  | _ :: _, _, h, .tail _ m => ExsAt.get h.2 m
theorem row_at {K : PySem.W.Frag} {h : Heap} {mg : Str → Option Value} (X : K.In h) (G : h.Ns mainGlobals mg) {Φ : Nat → Option Def} {ex : List (Str × Nat)} {body : List Stmt} {rs : List FRow}
    (hr : rs.all (rowB Φ (fnOfRows rs) [] ex body) = true) (hf : AllAt K body rs) {r : FRow} (hm : r ∈ rs) : ∃ d f fd, Φ r.j = some d ∧ Fun K r.x r.x (stAt body r.i) f fd ∧ DefAt K mg (fnOfRows rs) [] ex r.x d f fd r.ps := by
  obtain ⟨f, fd, a, F, b⟩ := hf.get hm
  have q := List.all_eq_true.mp hr r hm
  unfold rowB at q
  cases hΦ : Φ r.j with
  | none => rw [hΦ] at q; cases q
  | some d =>
    rw [hΦ] at q
    simp only [Bool.and_eq_true, decide_eq_true_eq] at q
    exact ⟨d, f, fd, rfl, F, PySem.W.mg_of X G a, ⟨_, r.N, r.x, F, scB_ok q.1.1.1, q.1.1.2, q.1.2⟩, b, q.2⟩
theorem tab_of {K : PySem.W.Frag} {h : Heap} {mg : Str → Option Value} (X : K.In h) (G : h.Ns mainGlobals mg) {Φ : Nat → Option Def} {gc : Nat → PyData} {cv : Nat → Value} {ex : List (Str × Nat)} {body : List Stmt} {rs : List FRow}
    (hr : rs.all (rowB Φ (fnOfRows rs) [] ex body) = true) (hf : AllAt K body rs) (hb : BltAt K bltNames) (he : ExsAt K cv ex) : Tab K mg Φ (fnOfRows rs) [] ex gc cv where
  defs := fun x j e => by
    have m := lookup_mem e
    unfold fnOfRows at m
    obtain ⟨r, hm, er⟩ := List.mem_map.mp m
    cases er
    obtain ⟨d, f, fd, h1, _, h3⟩ := row_at X G hr hf hm
    exact ⟨d, f, fd, r.ps, h1, h3⟩
  blt := fun x hx => PySem.W.mg_none_of X G (hb.get hx)
  gls := fun x j e => by cases e
  exs := fun x c e => by
    obtain ⟨C, ⟨a, h1, h2, h3, h4⟩, h5⟩ := he.get (lookup_mem e)
    exact ⟨C, PySem.W.mg_of X G a, h1, h2, h3, h4, h5⟩

/-! ### the law -/
def noListB (K : PySem.W.Frag) : Bool := K.all fun p => match p.2.cls with | .type t => !(t == "list") | _ => true
def spLaw (K : PySem.W.Frag) : Sp := fun vs H Q _ => ∃ (a : Addr) (ns : List Int), vs = [.ref a] ∧ SqL K H a (ns.map V.int) ∧ ns.length ≤ 63 ∧ ∀ H', Q (.bl true) H'
theorem intsRp {K : PySem.W.Frag} {F : Hp} : ∀ ns : List Int, RpA K F (ns.map V.int) (ns.map PyData.int)
  | [] => .nil
  | n :: ns => .cons (.int n) (intsRp ns)
theorem spLaw_imp {K : PySem.W.Frag} {cv : Nat → Value} {m : List D → Out (Bool × D)} (nl : noListB K = true) (h : ∀ ns : List Int, ns.length ≤ 63 → m [.list (ns.map .int)] = .ok (false, .bool true)) :
    ∀ vs H Q E, spLaw K vs H Q E → spV K cv m vs H Q E := by
  rintro vs H Q E ⟨a, ns, rfl, hS, hl, hQ⟩
  have hR : Rd H a (.lst (ns.map V.int)) := by
    rcases hS with r | ⟨o, its, n, hk, hc, _⟩
    · exact r
    · exfalso
      have hm : (a, o) ∈ K := by
        clear nl hQ
        induction K with
        | nil => cases hk
        | cons p K ih =>
          obtain ⟨b, u⟩ := p
          rw [List.lookup_cons] at hk
          split at hk
          · rename_i e
            rw [eq_of_beq e]
            cases hk
            exact .head _
          · exact .tail _ (ih hk)
      have q := List.all_eq_true.mp nl _ hm
      simp [hc] at q
  refine ⟨H, [.list (ns.map .int)], Same.refl _, .cons (.lst hR (by rw [List.length_map]; exact Nat.le_trans hl (by decide)) (intsRp ns)) .nil, ?_⟩
  rw [h ns hl]
  intro v F' H' _ r
  cases r
  exact hQ _
theorem walk {l : PySem.W.OpenLaw} {q : Program} {loose : List Str} {XP : (Str → Option Value) → Heap → Prop} {YP : World → Heap → Prop} {d : DefRec} {K : Params → PySem.W.Frag} (n : Nat) (hr : Room n callerA) (hn : l.most = some 63) (hdf : d.params.defaults = [])
    (hY : ∀ (w : World) (h : Heap), YP w h → (K w.params).In h)
    (F : ∀ (w : World) (mg : Str → Option Value) (fa : Addr) (h : Heap), (K w.params).In h → h.Ns mainGlobals mg → mg d.name = some (.ref fa) →
      ∃ fd : FuncData, (∀ (s : Shared) (u : Value), BindsTo s fd ⟨[u], []⟩ [("script", u)]) ∧ ∀ base : Heap, (K w.params).In base → base.Ns mainGlobals mg → FnOk l.prog w (K w.params) mg base (L2.CX l.prog w) n fa fd ["script"] (spLaw (K w.params))) :
    PySem.W.WalkO q loose XP YP l.row.toRowW d [] (fun f vs => PySem.call f vs) :=
  L2.walk_of (n := 63) (k := n) (x := "script") (CX := fun w => L2.CX l.prog w) (sp := fun w => spLaw (K w.params)) hn (by decide) hdf hr hY F (fun _ _ a ns hl _ hS => ⟨a, ns, rfl, hS, hl, fun _ => rfl⟩) fun _ H s e s' h => by
    obtain ⟨_, _, _, _, _, _, _, _, _, _, _, _, z⟩ := h
    exact z
/-- the law's def keeps its promise -/
theorem law_ok {P : Program} {w : World} {K : PySem.W.Frag} {h : Heap} {mg : Str → Option Value} {fa : Addr} (X : K.In h) (G : h.Ns mainGlobals mg) (hfa : mg "law" = some (.ref fa)) {Φ : Nat → Option Def} {gc : Nat → PyData} {cv : Nat → Value} {ex : List (Str × Nat)} {body : List Stmt} {rs : List FRow} (g n : Nat) (r : FRow)
    (hr : rs.all (rowB Φ (fnOfRows rs) [] ex body) = true) (hf : AllAt K body rs) (hb : BltAt K bltNames) (he : ExsAt K cv ex) (nl : noListB K = true)
    (hm : r ∈ rs) (hx : r.x = "law") (hp : r.ps = [("script" : Str)]) (hj : (fnOfRows rs).lookup r.x = some r.j)
    (hb1 : ∀ kV doc pm an cdv ct (s : Shared) (u : Value), BindsTo s (PySem.W.fnOf r.x r.x (defArgs (stAt body r.i)) (defBody (stAt body r.i)) (defScope (stAt body r.i)) .none kV doc pm an cdv ct) ⟨[u], []⟩ [("script", u)])
    (hc : ∀ ns : List Int, ns.length ≤ 63 → call Φ gc g n r.j [.list (ns.map .int)] = .ok (false, .bool true)) :
    ∃ fd : FuncData, (∀ (s : Shared) (u : Value), BindsTo s fd ⟨[u], []⟩ [("script", u)]) ∧ ∀ base : Heap, K.In base → base.Ns mainGlobals mg → FnOk P w K mg base (L2.CX P w) n fa fd ["script"] (spLaw K) := by
  obtain ⟨d, f, fd, hΦ, F, D⟩ := row_at X G hr hf hm
  have T := tab_of X G (gc := gc) hr hf hb he
  have e1 := hfa.symm.trans (hx ▸ D.mgf)
  cases e1
  obtain ⟨oc, od, kV, doc, pm, an, cdv, ct, osl, e, lk, cc⟩ := id F.ex
  refine ⟨fd, fun s u => ?_, fun base _ _ => ?_⟩
  · rw [e]
    exact hb1 _ _ _ _ _ _ s u
  · have C := call_ok (P := P) (w := w) (base := base) T g n r.x r.j hj d _ fd r.ps hΦ D
    rw [hp] at C
    exact C.imp (spLaw_imp nl hc)
end VL
namespace VL
open PySem PySem.Spec L2

/-! ### reckoning with the evaluator -/
section
variable {α β : Type}
theorem nr {γ : Sort u} {a b : γ} (h : a = b) : a = b := h
@[simp] theorem bind_ok (a : α) (f : α → Out β) : Out.bind (.ok a) f = f a := nr rfl
@[simp] theorem bind_stuck (f : α → Out β) : Out.bind (.stuck : Out α) f = .stuck := nr rfl
@[simp] theorem bind_raise (c : Nat) (f : α → Out β) : Out.bind (.raise c : Out α) f = .raise c := nr rfl
theorem bind_head {x x' : Out α} (f : α → Out β) (h : x = x') : Out.bind x f = Out.bind x' f := by rw [h]
theorem ite_head {c c' : Prop} [Decidable c] [Decidable c'] {x y : α} (h : c = c') : (if c then x else y) = (if c' then x else y) := by
  subst h; congr
end
/-- a turn of a comprehension -/
def lcF (cl : Nat → List D → Out (Bool × D)) (gc : Nat → D) (vs : List Nat) (one : Bool) (c e : E) (τ : Ta) (d : D) : Out (Option D) := match bindT vs one d (wipeT vs τ) with
  | some τ' => (ev cl gc c τ').bind fun x => (asBool x).bind fun b => if b then (ev cl gc e τ').bind fun y => (keep y).bind fun z => .ok (some z) else .ok none
  | none => .stuck
section
variable (cl : Nat → List D → Out (Bool × D)) (gc : Nat → D) (g : Nat)
@[simp] theorem e_lc (vs : List Nat) (one : Bool) (it c e : E) (τ : Ta) : ev cl gc (.lc vs one it c e) τ = (evIt cl gc it τ).bind fun xs => (lcGo (lcF cl gc vs one c e τ) xs).bind fun ys => .ok (.ow, .list ys) := ev_lc cl gc vs one it c e τ
def fgo (vs : List Nat) (one : Bool) (b : S) (ks : List Nat) (xs : List D) (τ : Ta) : Out Fl := forGo (fun τ => run cl gc g b τ) (bindT vs one) ks xs τ
def wgo (c : E) (b : S) (ks : List Nat) (n : Nat) (τ : Ta) : Out Fl := whlGo (evB cl gc c) (fun τ => run cl gc g b τ) ks n τ
@[simp] theorem r_for (vs : List Nat) (one : Bool) (it : E) (b : S) (ks : List Nat) (τ : Ta) : run cl gc g (.forr vs one it b ks) τ = (evIt cl gc it τ).bind fun xs => fgo cl gc g vs one b ks xs τ := rfl
@[simp] theorem r_whl (c : E) (b : S) (ks : List Nat) (τ : Ta) : run cl gc g (.whl c b ks) τ = wgo cl gc g c b ks g τ := rfl
/-- behind a statement -/
def nxt (k : Ta → Out Fl) : Fl → Out Fl
  | .nx τ => k τ
  | f => .ok f
def nxf (k : Ta → Out Fl) (ks : List Nat) : Fl → Out Fl
  | .nx τ2 => k (wipeT ks τ2)
  | .ct τ2 => k (wipeT ks τ2)
  | .bk τ2 => .ok (.nx (wipeT ks τ2))
  | .rt o d => .ok (.rt o d)
theorem r_seq (a r : S) (τ : Ta) : run cl gc g (.seq a r) τ = (run cl gc g a τ).bind (nxt fun τ => run cl gc g r τ) := by
  show (run cl gc g a τ).bind _ = _
  refine congrArg (Out.bind (run cl gc g a τ)) (funext fun f => ?_)
  cases f <;> rfl
theorem fgo_nil (vs : List Nat) (one : Bool) (b : S) (ks : List Nat) (τ : Ta) : fgo cl gc g vs one b ks [] τ = .ok (.nx τ) := rfl
@[simp] def setT (vs : List Nat) (one : Bool) (d : D) (τ : Ta) : Out Ta := match bindT vs one d τ with | some τ' => .ok τ' | none => .stuck
theorem fgo_cons (vs : List Nat) (one : Bool) (b : S) (ks : List Nat) (d : D) (ds : List D) (τ : Ta) :
    fgo cl gc g vs one b ks (d :: ds) τ = (setT vs one d τ).bind fun τ1 => (run cl gc g b τ1).bind (nxf (fun τ2 => fgo cl gc g vs one b ks ds τ2) ks) := by
  show (match bindT vs one d τ with | none => Out.stuck | some τ1 => (run cl gc g b τ1).bind fun r => match r with
      | .nx τ2 => fgo cl gc g vs one b ks ds (wipeT ks τ2)
      | .ct τ2 => fgo cl gc g vs one b ks ds (wipeT ks τ2)
      | .bk τ2 => .ok (.nx (wipeT ks τ2))
      | .rt o d => .ok (.rt o d)) = _
  unfold setT
  cases bindT vs one d τ with
  | none => rfl
  | some τ1 =>
    refine congrArg (Out.bind (run cl gc g b τ1)) (funext fun f => ?_)
    cases f <;> rfl
theorem wgo_succ (c : E) (b : S) (ks : List Nat) (n : Nat) (τ : Ta) :
    wgo cl gc g c b ks (n + 1) τ = (evB cl gc c τ).bind fun k => if k then (run cl gc g b τ).bind (nxf (fun τ2 => wgo cl gc g c b ks n τ2) ks) else .ok (.nx τ) := by
  refine congrArg (Out.bind (evB cl gc c τ)) (funext fun k => ?_)
  cases k with
  | false => rfl
  | true =>
    refine congrArg (Out.bind (run cl gc g b τ)) (funext fun f => ?_)
    cases f <;> rfl
end
@[simp] def endF : Fl → Out (Bool × D)
  | .nx _ => .ok (false, .none)
  | .rt o v => .ok (o, v)
  | _ => .stuck
theorem call_at {Φ : Nat → Option Def} {gc : Nat → D} {g n j : Nat} (d : Def) {ds : List D} (h : Φ j = some d) (hl : ds.length = d.np) : call Φ gc g (n + 1) j ds = (run (call Φ gc g n) gc g d.body (start d ds)).bind endF := by
  show (match Φ j with | some d => runDef (call Φ gc g n) gc g d ds | none => .stuck) = _
  rw [h]
  show runDef (call Φ gc g n) gc g d ds = _
  unfold runDef
  rw [if_pos hl]
  refine congrArg (Out.bind _) (funext fun f => ?_)
  cases f <;> rfl
/-! ### loops -/
theorem lcGo_map {α : Type} {f : D → Out (Option D)} {enc : α → D} {k : α → Option D} : ∀ {l : List α}, (∀ a ∈ l, f (enc a) = .ok (k a)) → lcGo f (l.map enc) = .ok (l.filterMap k)
  | [], _ => rfl
  | a :: l, h => by
    have ih := lcGo_map fun b hb => h b (List.mem_cons_of_mem _ hb)
    rw [List.map_cons]
    unfold lcGo
    rw [h a (List.mem_cons_self ..), ih]
    cases hk : k a with
    | none => rw [List.filterMap_cons_none hk]
    | some x => rw [List.filterMap_cons_some hk]; rfl
/-- each item gives something that is right -/
theorem lcGo_ex {f : D → Out (Option D)} {P : D → Prop} : ∀ {l : List D}, (∀ d ∈ l, ∃ x, f d = .ok (some x) ∧ P x) → ∃ ys, lcGo f l = .ok ys ∧ ys.length = l.length ∧ ∀ y ∈ ys, P y
  | [], _ => ⟨[], rfl, rfl, fun _ h => by cases h⟩
  | a :: l, h => by
    obtain ⟨ys, h1, h2, h3⟩ := lcGo_ex fun b hb => h b (List.mem_cons_of_mem _ hb)
    obtain ⟨x, hx, px⟩ := h a (List.mem_cons_self ..)
    refine ⟨x :: ys, ?_, by rw [List.length_cons, List.length_cons, h2], fun y hy => ?_⟩
    · unfold lcGo
      rw [hx, h1]; rfl
    · cases hy with
      | head => exact px
      | tail _ m => exact h3 _ m
/-- a walk along typed items, with ways out -/
def walkE {α β : Type} (step : β → α → β ⊕ (Bool × D)) : List α → β → β ⊕ (Bool × D)
  | [], b => .inl b
  | a :: l, b => match step b a with
    | .inl b' => walkE step l b'
    | .inr r => .inr r
section
variable {cl : Nat → List D → Out (Bool × D)} {gc : Nat → D} {g : Nat} {vs : List Nat} {one : Bool} {b : S} {ks : List Nat} {α β : Type} {enc : α → D} {pack : β → Ta}
theorem fgo_fold {step : β → α → β} (Inv : β → Prop) : ∀ {l : List α} {x : β}, (∀ a ∈ l, ∀ x ds, Inv x → fgo cl gc g vs one b ks (enc a :: ds) (pack x) = fgo cl gc g vs one b ks ds (pack (step x a)) ∧ Inv (step x a)) → Inv x →
    fgo cl gc g vs one b ks (l.map enc) (pack x) = .ok (.nx (pack (l.foldl step x))) ∧ Inv (l.foldl step x)
  | [], _, _, i => ⟨rfl, i⟩
  | a :: l, x, h, i => by
    obtain ⟨h1, h2⟩ := h a (List.mem_cons_self ..) x (l.map enc) i
    rw [List.map_cons, h1, List.foldl_cons]
    exact fgo_fold Inv (fun a m => h a (List.mem_cons_of_mem _ m)) h2
def outE (pack : β → Ta) : β ⊕ (Bool × D) → Out Fl
  | .inl x => .ok (.nx (pack x))
  | .inr r => .ok (.rt r.1 r.2)
theorem fgo_walk {step : β → α → β ⊕ (Bool × D)} (Inv : β → Prop) : ∀ {l : List α} {x : β}, (∀ a ∈ l, ∀ x ds, Inv x → (match step x a with
      | .inl y => fgo cl gc g vs one b ks (enc a :: ds) (pack x) = fgo cl gc g vs one b ks ds (pack y) ∧ Inv y
      | .inr r => fgo cl gc g vs one b ks (enc a :: ds) (pack x) = .ok (.rt r.1 r.2))) → Inv x →
    fgo cl gc g vs one b ks (l.map enc) (pack x) = outE pack (walkE step l x)
  | [], _, _, i => rfl
  | a :: l, x, h, i => by
    have h1 := h a (List.mem_cons_self ..) x (l.map enc) i
    rw [List.map_cons]
    unfold walkE
    cases hs : step x a with
    | inl y =>
      rw [hs] at h1
      rw [h1.1]
      exact fgo_walk Inv (fun a m => h a (List.mem_cons_of_mem _ m)) h1.2
    | inr r =>
      rw [hs] at h1
      exact h1
/-- .. with an eye on what is left -/
theorem fgo_walkN {step : β → α → β ⊕ (Bool × D)} (Inv : List α → β → Prop) : ∀ {l : List α} {x : β}, (∀ a r x ds, Inv (a :: r) x → (match step x a with
      | .inl y => fgo cl gc g vs one b ks (enc a :: ds) (pack x) = fgo cl gc g vs one b ks ds (pack y) ∧ Inv r y
      | .inr r => fgo cl gc g vs one b ks (enc a :: ds) (pack x) = .ok (.rt r.1 r.2))) → Inv l x →
    fgo cl gc g vs one b ks (l.map enc) (pack x) = outE pack (walkE step l x)
  | [], _, _, i => rfl
  | a :: l, x, h, i => by
    have h1 := h a l x (l.map enc) i
    rw [List.map_cons]
    unfold walkE
    cases hs : step x a with
    | inl y =>
      rw [hs] at h1
      rw [h1.1]
      exact fgo_walkN Inv h h1.2
    | inr r =>
      rw [hs] at h1
      exact h1
/-- a walk of which only this is told -/
theorem fgo_ex {P : Ta → Prop} : ∀ {l : List D} {τ : Ta}, (∀ d ∈ l, ∀ τ ds, P τ → ∃ τ', fgo cl gc g vs one b ks (d :: ds) τ = fgo cl gc g vs one b ks ds τ' ∧ P τ') → P τ → ∃ τ', fgo cl gc g vs one b ks l τ = .ok (.nx τ') ∧ P τ'
  | [], τ, _, i => ⟨τ, rfl, i⟩
  | a :: l, τ, h, i => by
    obtain ⟨τ1, h1, h2⟩ := h a (List.mem_cons_self ..) τ l i
    rw [h1]
    exact fgo_ex (fun a m => h a (List.mem_cons_of_mem _ m)) h2
end
section
variable {cl : Nat → List D → Out (Bool × D)} {gc : Nat → D} {g : Nat} {vs : List Nat} {one : Bool} {b : S} {ks : List Nat}
theorem fgo_exN {P : List D → Ta → Prop} : ∀ {l : List D} {τ : Ta}, (∀ d r τ ds, P (d :: r) τ → ∃ τ', fgo cl gc g vs one b ks (d :: ds) τ = fgo cl gc g vs one b ks ds τ' ∧ P r τ') → P l τ → ∃ τ', fgo cl gc g vs one b ks l τ = .ok (.nx τ') ∧ P [] τ'
  | [], τ, _, i => ⟨τ, rfl, i⟩
  | a :: l, τ, h, i => by
    obtain ⟨τ1, h1, h2⟩ := h a l τ l i
    rw [h1]
    exact fgo_exN h h2
end
/-! ### small words -/
theorem atI_nat {α : Type} {xs : List α} {i : Nat} {a : α} (h : xs[i]? = some a) : L2.atI xs (i : Int) = some a := by
  have hl := (List.getElem?_eq_some_iff.mp h).1
  unfold L2.atI L2.ixN
  rw [if_pos (by omega), if_pos (by omega)]
  show xs[(i : Int).toNat]? = _
  rw [Int.toNat_natCast, h]
theorem atI_last {α : Type} {xs : List α} {a : α} : L2.atI (xs ++ [a]) (-1) = some a := by
  unfold L2.atI L2.ixN
  rw [if_neg (by omega), List.length_append, List.length_singleton, if_pos (by omega)]
  show (xs ++ [a])[((-1 : Int) + ((xs.length + 1 : Nat) : Int)).toNat]? = _
  rw [show ((-1 : Int) + ((xs.length + 1 : Nat) : Int)).toNat = xs.length by omega]
  simp
@[simp] theorem eqv_str (x y : Str) : PyData.eqv (.str x) (.str y) = (x == y) := rfl
@[simp] theorem eqv_int (x y : Int) : PyData.eqv (.int x) (.int y) = (x == y) := rfl
@[simp] theorem eqv_bool (x y : Bool) : PyData.eqv (.bool x) (.bool y) = (x == y) := rfl
@[simp] theorem sh_int (i : Int) : SeqAt.shaped (.int i) = true := rfl
@[simp] theorem sh_bool (i : Bool) : SeqAt.shaped (.bool i) = true := rfl
@[simp] theorem sh_none : SeqAt.shaped .none = true := rfl
@[simp] theorem at0 {α : Type} (a : α) (r : List α) : L2.atI (a :: r) 0 = some a := atI_nat (i := 0) rfl
@[simp] theorem at1 {α : Type} (a b : α) (r : List α) : L2.atI (a :: b :: r) 1 = some b := atI_nat (i := 1) rfl
@[simp] theorem at2 {α : Type} (a b c : α) (r : List α) : L2.atI (a :: b :: c :: r) 2 = some c := atI_nat (i := 2) rfl
@[simp] theorem at3 {α : Type} (a b c d : α) (r : List α) : L2.atI (a :: b :: c :: d :: r) 3 = some d := atI_nat (i := 3) rfl
@[simp] theorem at4 {α : Type} (a b c d e : α) (r : List α) : L2.atI (a :: b :: c :: d :: e :: r) 4 = some e := atI_nat (i := 4) rfl
@[simp] theorem at_l1 {α : Type} (a : α) : L2.atI [a] (-1) = some a := atI_last (xs := [])
/-! ### the evaluator without binders -/
abbrev OE := Out (Kd × D)
def b1 (x : OE) (f : D → OE) : OE := x.bind fun x => f x.2
def b2 (x y : OE) (f : D → D → OE) : OE := x.bind fun x => y.bind fun y => f x.2 y.2
def consk (x y : OE) : OE := x.bind fun x => (keep x).bind fun d => y.bind fun y => match y with | (.fz, .list ds) => .ok (.fz, .list (d :: ds)) | _ => .stuck
def conpk (x y : OE) : OE := x.bind fun x => y.bind fun y => match y with | (_, .list ds) => .ok (.pk, .list (x.2 :: ds)) | _ => .stuck
def andk (x y : OE) : OE := x.bind fun x => (asBool x).bind fun c => if c then y else .ok (.fz, .bool false)
def ork (x y : OE) : OE := x.bind fun x => (asBool x).bind fun c => if c then .ok (.fz, .bool true) else y
def ifek (c x y : OE) : OE := c.bind fun z => (asBool z).bind fun k => if k then x else y
def slk (x : OE) (l h : Out (Option Int)) : OE := x.bind fun x => l.bind fun l => h.bind fun h => slD x.2 l h
def mek (m : ME) (x y : OE) : OE := x.bind fun x => if meTy m x.2 then y.bind fun y => (match y with | (.fz, .list ds) => meD m x.2 ds | _ => .stuck) else .stuck
def tupk (y : OE) : OE := y.bind fun y => match y with | (.fz, .list ds) => if ds.length ≤ line then .ok (.fz, .tuple ds) else .stuck | _ => .stuck
def lstk (y : OE) : OE := y.bind fun y => match y with | (.fz, .list ds) => if ds.length ≤ line then .ok (.ow, .list ds) else .stuck | _ => .stuck
def bik (b : BI) (y : OE) : OE := y.bind fun y => match y with | (_, .list ds) => biD b ds | _ => .stuck
def callk (cl : Nat → List D → Out (Bool × D)) (j : Nat) (y : OE) : OE := y.bind fun y => match y with | (.fz, .list ds) => (cl j ds).bind fun z => .ok (ownK z.1, z.2) | _ => .stuck
def notk (y : OE) : OE := y.bind fun x => (asBool x).bind fun c => .ok (.fz, .bool (!c))
def vark : Option Sl → OE
  | some (.fz d) => .ok (.fz, d)
  | some (.nw d) => .ok (.nw, d)
  | _ => .stuck
def pkk : Option Sl → OE
  | some (.fz d) => .ok (.pk, d)
  | some (.nw d) => .ok (.pk, d)
  | some (.ow d) => .ok (.pk, d)
  | _ => .stuck
def tkk : Option Sl → OE
  | some (.fz d) => .ok (.fz, d)
  | some (.nw d) => .ok (.nw, d)
  | some (.ow d) => .ok (.mv, d)
  | _ => .stuck
def unpk (x : OE) (is : List Nat) (τ : Ta) : Out Fl := x.bind fun x => (tupOf x).bind fun ds => match setAll is ds τ with | some τ' => .ok (.nx τ') | none => .stuck
def unpt : Option Ta → Out Fl
  | some τ' => .ok (.nx τ')
  | none => .stuck
def appk (x : Option Sl) (y : Out D) (i : Nat) (τ : Ta) : Out Fl := match x with
    | some (.ow (.list xs)) => y.bind fun d => if xs.length < line then .ok (.nx (τ.set i (.ow (.list (xs ++ [d]))))) else .stuck
    | _ => .stuck
def stik (x : Option Sl) (y : Out D) (z : OE) (i : Nat) (τ : Ta) : Out Fl := match x with
    | some (.ow (.dict kvs)) => y.bind fun d => z.bind fun x => if keyD x.2 && decide (kvs.length < line) then .ok (.nx (τ.set i (.ow (.dict (putD kvs x.2 d))))) else .stuck
    | some (.ow (.list xs)) => y.bind fun d => z.bind fun x => match x.2 with
      | .int n => match L2.ixN xs.length n with
        | some j => .ok (.nx (τ.set i (.ow (.list (xs.set j d)))))
        | none => .stuck
      | _ => .stuck
    | _ => .stuck
def exxk (x : OE) (τ : Ta) : Out Fl := x.bind fun _ => .ok (.nx τ)
def isik (x : OE) (ts : List Ty) : OE := x.bind fun x => .ok (.fz, .bool (ts.any fun t => isTy t x.2))
def popk (x : Option Sl) (j i : Nat) (τ : Ta) : Out Fl := match x with
    | some (.ow (.list xs)) => match xs[xs.length - 1]? with
      | some d => .ok (.nx ((τ.set i (.ow (.list xs.dropLast))).set j (.fz d)))
      | none => .stuck
    | _ => .stuck
def popuk (x : Option Sl) (is : List Nat) (i : Nat) (τ : Ta) : Out Fl := match x with
    | some (.ow (.list xs)) => match xs[xs.length - 1]? with
      | some (.tuple ds) => match setAll is ds (τ.set i (.ow (.list xs.dropLast))) with
        | some τ' => .ok (.nx τ')
        | none => .stuck
      | _ => .stuck
    | _ => .stuck
def extk (x : Option Sl) (y : OE) (i : Nat) (τ : Ta) : Out Fl := match x with
    | some (.ow (.list xs)) => y.bind fun x => match x.2 with
      | .list ys => if xs.length + ys.length ≤ line then .ok (.nx (τ.set i (.ow (.list (xs ++ ys))))) else .stuck
      | _ => .stuck
    | _ => .stuck
def negD : D → OE
  | .int i => .ok (.fz, .int (-i))
  | _ => .stuck
def lendk (x : OE) : OE := x.bind fun x => if flatD x.2 then .ok (.fz, x.2) else .stuck
def retk (x : OE) : Out Fl := x.bind fun x => match x with | (.pk, _) => .stuck | (k, d) => .ok (.rt (decide (k ≠ .fz)) d)
def asgk (f : Kd → D → Option Sl) (x : OE) (i : Nat) (τ : Ta) : Out Fl := x.bind fun x => match f x.1 x.2 with | some s => .ok (.nx (τ.set i s)) | none => .stuck
def asb (x : OE) : Out Bool := x.bind asBool
def asd (x : OE) : Out D := x.bind keep
def natD (n : Nat) : D := .int (n : Int)
def rngk (x : OE) : Out (List D) := x.bind fun x => match x.2 with | .int n => if rngOk 0 n && decide (n ≤ line) then .ok (rngD 0 n) else .stuck | _ => .stuck
def rng2k (x y : OE) : Out (List D) := x.bind fun x => y.bind fun y => match x.2, y.2 with | .int m, .int n => if rngOk m n && decide (n - m ≤ line) then .ok (rngD m n) else .stuck | _, _ => .stuck
def enumk (x : OE) : Out (List D) := x.bind fun x => match x with | (.pk, _) => .stuck | (.mv, _) => .stuck | (_, .list ds) => .ok (enumD 0 ds) | _ => .stuck
def onek (x : OE) : Out (List D) := x.bind listOf
section
variable (cl : Nat → List D → Out (Bool × D)) (gc : Nat → D) (g : Nat)
def sqk (x : Out Fl) (r : S) : Out Fl := x.bind (nxt fun τ => run cl gc g r τ)
def ifk (x : Out Bool) (a b : S) (τ : Ta) : Out Fl := x.bind fun k => if k then run cl gc g a τ else run cl gc g b τ
def fk (x : Out Fl) (vs : List Nat) (one : Bool) (b : S) (ks : List Nat) (ds : List D) : Out Fl := x.bind (nxf (fun τ2 => fgo cl gc g vs one b ks ds τ2) ks)
def wk (x : Out Bool) (c : E) (b : S) (ks : List Nat) (n : Nat) (τ : Ta) : Out Fl := x.bind fun k => if k then (run cl gc g b τ).bind (nxf (fun τ2 => wgo cl gc g c b ks n τ2) ks) else .ok (.nx τ)
def wk2 (x : Out Fl) (c : E) (b : S) (ks : List Nat) (n : Nat) : Out Fl := x.bind (nxf (fun τ2 => wgo cl gc g c b ks n τ2) ks)
variable (τ : Ta) (a b r e : E) (i : Nat)
@[simp] theorem e_bin (o : Bop) : ev cl gc (.bin o a b) τ = b2 (ev cl gc a τ) (ev cl gc b τ) (binD o) := nr rfl
@[simp] theorem e_cmp (o : Cop) : ev cl gc (.cmp o a b) τ = b2 (ev cl gc a τ) (ev cl gc b τ) (cmpD o) := nr rfl
@[simp] theorem e_ix : ev cl gc (.ix a b) τ = b2 (ev cl gc a τ) (ev cl gc b τ) ixD := nr rfl
@[simp] theorem e_cons : ev cl gc (.cons a r) τ = consk (ev cl gc a τ) (ev cl gc r τ) := nr rfl
@[simp] theorem e_conp : ev cl gc (.conp a r) τ = conpk (ev cl gc a τ) (ev cl gc r τ) := nr rfl
@[simp] theorem e_and : ev cl gc (.and a b) τ = andk (ev cl gc a τ) (ev cl gc b τ) := nr rfl
@[simp] theorem e_or : ev cl gc (.or a b) τ = ork (ev cl gc a τ) (ev cl gc b τ) := nr rfl
@[simp] theorem e_ife : ev cl gc (.ife e a b) τ = ifek (ev cl gc e τ) (ev cl gc a τ) (ev cl gc b τ) := nr rfl
@[simp] theorem e_sl : ev cl gc (.sl a b r) τ = slk (ev cl gc a τ) (match b with | .one b => (ev cl gc b τ).bind optInt | _ => .ok none) (match r with | .one b => (ev cl gc b τ).bind optInt | _ => .ok none) := by
  cases b <;> cases r <;> rfl
@[simp] theorem e_me (m : ME) : ev cl gc (.me m a r) τ = mek m (ev cl gc a τ) (ev cl gc r τ) := nr rfl
@[simp] theorem e_tup : ev cl gc (.tup r) τ = tupk (ev cl gc r τ) := nr rfl
@[simp] theorem e_lst : ev cl gc (.lst r) τ = lstk (ev cl gc r τ) := nr rfl
@[simp] theorem e_bi (m : BI) : ev cl gc (.bi m r) τ = bik m (ev cl gc r τ) := nr rfl
@[simp] theorem e_call (j : Nat) : ev cl gc (.call j r) τ = callk cl j (ev cl gc r τ) := nr rfl
@[simp] theorem e_not : ev cl gc (.not a) τ = notk (ev cl gc a τ) := nr rfl
@[simp] theorem e_neg : ev cl gc (.neg a) τ = b1 (ev cl gc a τ) negD := by
  show (ev cl gc a τ).bind _ = (ev cl gc a τ).bind _
  refine congrArg (Out.bind _) (funext fun x => ?_)
  obtain ⟨k, d⟩ := x
  cases d <;> rfl
@[simp] theorem e_rng1 : evIt cl gc (.rng1 a) τ = rngk (ev cl gc a τ) := nr rfl
@[simp] theorem e_rng2 : evIt cl gc (.rng2 a b) τ = rng2k (ev cl gc a τ) (ev cl gc b τ) := nr rfl
@[simp] theorem e_enum : evIt cl gc (.enum a) τ = enumk (ev cl gc a τ) := nr rfl
@[simp] theorem e_one : evIt cl gc (.one a) τ = onek (ev cl gc a τ) := nr rfl
@[simp] theorem e_lend (is : List Nat) : ev cl gc (.lend is a) τ = lendk (ev cl gc a (frzT is τ)) := nr rfl
@[simp] theorem e_rev : ev cl gc (.rev a) τ = b1 (ev cl gc a τ) revD := nr rfl
@[simp] theorem e_b : evB cl gc a τ = asb (ev cl gc a τ) := nr rfl
@[simp] theorem e_d : evD cl gc a τ = asd (ev cl gc a τ) := nr rfl
@[simp] theorem e_var : ev cl gc (.var i) τ = vark τ[i]? := nr rfl
@[simp] theorem e_pk : ev cl gc (.pk i) τ = pkk τ[i]? := nr rfl
@[simp] theorem e_tk : ev cl gc (.tk i) τ = tkk τ[i]? := nr rfl
@[simp] theorem e_cst (d : D) : ev cl gc (.cst d) τ = .ok (.fz, d) := nr rfl
@[simp] theorem e_glb (j : Nat) : ev cl gc (.glb j) τ = .ok (.fz, gc j) := nr rfl
@[simp] theorem e_nil : ev cl gc .nil τ = .ok (.fz, .list []) := nr rfl
@[simp] theorem e_on1 : ev cl gc (.one a) τ = ev cl gc a τ := nr rfl
@[simp] theorem e_dic : ev cl gc .dic τ = .ok (.ow, .dict []) := nr rfl
@[simp] theorem e_isi (ts : List Ty) : ev cl gc (.isi a ts) τ = isik (ev cl gc a τ) ts := nr rfl
@[simp] theorem gs_nil : run cl gc g .nil τ = .ok (.nx τ) := nr rfl
@[simp] theorem gs_unp (is : List Nat) : run cl gc g (.unp is a) τ = unpk (ev cl gc a τ) is τ := nr rfl
@[simp] theorem gs_app : run cl gc g (.app i a) τ = appk τ[i]? (evD cl gc a τ) i τ := nr rfl
@[simp] theorem gs_popu (is : List Nat) : run cl gc g (.popu is i) τ = popuk τ[i]? is i τ := nr rfl
@[simp] theorem gs_pop (j : Nat) : run cl gc g (.pop j i) τ = popk τ[i]? j i τ := nr rfl
@[simp] theorem gs_ext : run cl gc g (.ext i a) τ = extk τ[i]? (ev cl gc a τ) i τ := nr rfl
@[simp] theorem gs_sti : run cl gc g (.sti i a b) τ = stik τ[i]? (evD cl gc b τ) (ev cl gc a τ) i τ := nr rfl
@[simp] theorem gs_exx : run cl gc g (.exx a) τ = exxk (ev cl gc a τ) τ := nr rfl
@[simp] theorem gs_retn : run cl gc g .retn τ = .ok (.rt false .none) := nr rfl
@[simp] theorem gs_rai (c : Nat) : run cl gc g (.rai c) τ = .raise c := nr rfl
@[simp] theorem gs_brk : run cl gc g .brk τ = .ok (.bk τ) := nr rfl
@[simp] theorem gs_cnt : run cl gc g .cnt τ = .ok (.ct τ) := nr rfl
@[simp] theorem gs_frzS (is : List Nat) (s : S) : run cl gc g (.frz is s) τ = run cl gc g s (frzT is τ) := nr rfl
@[simp] theorem gs_wip (is : List Nat) (s : S) : run cl gc g (.wip is s) τ = run cl gc g s (wipeT is τ) := nr rfl
@[simp] theorem s_seq (s t : S) : run cl gc g (.seq s t) τ = sqk cl gc g (run cl gc g s τ) t := r_seq cl gc g s t τ
@[simp] theorem s_ifb (s t : S) : run cl gc g (.ife a s t) τ = ifk cl gc g (asb (ev cl gc a τ)) s t τ := nr rfl
@[simp] theorem s_rtn : run cl gc g (.ret a) τ = retk (ev cl gc a τ) := nr rfl
@[simp] theorem s_set : run cl gc g (.asg i a) τ = asgk slK (ev cl gc a τ) i τ := nr rfl
@[simp] theorem s_sez : run cl gc g (.asz i a) τ = asgk slZ (ev cl gc a τ) i τ := nr rfl
theorem s_fgo (vs : List Nat) (one : Bool) (b : S) (ks : List Nat) (d : D) (ds : List D) :
    fgo cl gc g vs one b ks (d :: ds) τ = (setT vs one d τ).bind fun τ1 => fk cl gc g (run cl gc g b τ1) vs one b ks ds := fgo_cons cl gc g vs one b ks d ds τ
theorem s_wgo (b : S) (ks : List Nat) (n : Nat) : wgo cl gc g a b ks (n + 1) τ = wk cl gc g (asb (ev cl gc a τ)) a b ks n τ := wgo_succ cl gc g a b ks n τ
end
section
variable {cl : Nat → List D → Out (Bool × D)} {gc : Nat → D} {g : Nat} {τ : Ta} {d d' : D} {k k' : Kd} {ds : List D} {x y : OE} {vs ks : List Nat} {one : Bool} {b s t : S} {n : Nat} {c : E} {o : Bool} {m : Nat}
@[simp] theorem k_b1 {f : D → OE} : b1 (.ok (k, d)) f = f d := nr rfl
@[simp] theorem k_b2 {f : D → D → OE} : b2 (.ok (k, d)) (.ok (k', d')) f = f d d' := nr rfl
@[simp] theorem k_var1 : vark (some (.fz d)) = .ok (.fz, d) := nr rfl
@[simp] theorem k_var2 : vark (some (.nw d)) = .ok (.nw, d) := nr rfl
@[simp] theorem k_pk1 : pkk (some (.fz d)) = .ok (.pk, d) := nr rfl
@[simp] theorem k_pk2 : pkk (some (.nw d)) = .ok (.pk, d) := nr rfl
@[simp] theorem k_pk3 : pkk (some (.ow d)) = .ok (.pk, d) := nr rfl
@[simp] theorem k_tk1 : tkk (some (.fz d)) = .ok (.fz, d) := nr rfl
@[simp] theorem k_tk2 : tkk (some (.nw d)) = .ok (.nw, d) := nr rfl
@[simp] theorem k_tk3 : tkk (some (.ow d)) = .ok (.mv, d) := nr rfl
@[simp] theorem k_unp1 {is : List Nat} : unpk (.ok (.fz, .tuple ds)) is τ = unpt (setAll is ds τ) := by cases h : setAll is ds τ <;> simp [unpk, tupOf, h, unpt]
@[simp] theorem k_unp2 {is : List Nat} : unpk (.ok (.nw, .tuple ds)) is τ = unpt (setAll is ds τ) := by cases h : setAll is ds τ <;> simp [unpk, tupOf, h, unpt]
@[simp] theorem k_unt : unpt (some τ) = .ok (.nx τ) := nr rfl
@[simp] theorem k_app1 (h : ds.length < line) : appk (some (.ow (.list ds))) (.ok d) m τ = .ok (.nx (τ.set m (.ow (.list (ds ++ [d]))))) := if_pos h
@[simp] theorem k_stid {kvs : List (D × D)} (h1 : keyD d' = true) (h2 : kvs.length < line) : stik (some (.ow (.dict kvs))) (.ok d) (.ok (k, d')) m τ = .ok (.nx (τ.set m (.ow (.dict (putD kvs d' d))))) := by
  have hc : (keyD d' && decide (kvs.length < line)) = true := by rw [Bool.and_eq_true]; exact ⟨h1, decide_eq_true h2⟩
  exact if_pos hc
@[simp] theorem k_exx : exxk (.ok (k, d)) τ = .ok (.nx τ) := nr rfl
@[simp] theorem k_isi {ts : List Ty} : isik (.ok (k, d)) ts = .ok (.fz, .bool (ts.any fun t => isTy t d)) := nr rfl
@[simp] theorem k_exxr : exxk (.raise m) τ = .raise m := nr rfl
@[simp] theorem k_cons1 : consk (.ok (.fz, d)) (.ok (.fz, .list ds)) = .ok (.fz, .list (d :: ds)) := nr rfl
@[simp] theorem k_cons2 : consk (.ok (.nw, d)) (.ok (.fz, .list ds)) = .ok (.fz, .list (d :: ds)) := nr rfl
@[simp] theorem k_cons3 : consk (.ok (.ow, d)) (.ok (.fz, .list ds)) = .ok (.fz, .list (d :: ds)) := nr rfl
@[simp] theorem k_conp : conpk (.ok (k, d)) (.ok (k', .list ds)) = .ok (.pk, .list (d :: ds)) := nr rfl
@[simp] theorem k_and1 : andk (.ok (k, .bool true)) y = y := nr rfl
@[simp] theorem k_and0 : andk (.ok (k, .bool false)) y = .ok (.fz, .bool false) := nr rfl
@[simp] theorem k_and {p q : Bool} : andk (.ok (k, .bool p)) (.ok (.fz, .bool q)) = .ok (.fz, .bool (p && q)) := by cases p <;> rfl
@[simp] theorem k_or1 : ork (.ok (k, .bool true)) y = .ok (.fz, .bool true) := nr rfl
@[simp] theorem k_or0 : ork (.ok (k, .bool false)) y = y := nr rfl
@[simp] theorem k_or {p q : Bool} : ork (.ok (k, .bool p)) (.ok (.fz, .bool q)) = .ok (.fz, .bool (p || q)) := by cases p <;> rfl
@[simp] theorem k_ife1 : ifek (.ok (k, .bool true)) x y = x := nr rfl
@[simp] theorem k_ife0 : ifek (.ok (k, .bool false)) x y = y := nr rfl
@[simp] theorem k_sl {l h : Option Int} : slk (.ok (k, d)) (.ok l) (.ok h) = slD d l h := nr rfl
@[simp] theorem k_mei {xs : List D} : mek .index (.ok (k, .list xs)) (.ok (.fz, .list ds)) = meD .index (.list xs) ds := nr rfl
@[simp] theorem k_me1 {xs : List (D × D)} : mek .get1 (.ok (k, .dict xs)) (.ok (.fz, .list ds)) = meD .get1 (.dict xs) ds := nr rfl
@[simp] theorem k_me2 {xs : List (D × D)} : mek .get2 (.ok (k, .dict xs)) (.ok (.fz, .list ds)) = meD .get2 (.dict xs) ds := nr rfl
theorem k_me {w : ME} (h : meTy w d = true) : mek w (.ok (k, d)) (.ok (.fz, .list ds)) = meD w d ds := by
  show (if meTy w d = true then _ else _) = _
  rw [if_pos h]; rfl
@[simp] theorem k_one1 : onek (.ok (.fz, .list ds)) = .ok ds := nr rfl
@[simp] theorem k_one2 : onek (.ok (.nw, .list ds)) = .ok ds := nr rfl
@[simp] theorem k_one3 : onek (.ok (.ow, .list ds)) = .ok ds := nr rfl
@[simp] theorem k_one4 : onek (.ok (.fz, .tuple ds)) = .ok ds := nr rfl
@[simp] theorem k_enum1 : enumk (.ok (.fz, .list ds)) = .ok (enumD 0 ds) := nr rfl
@[simp] theorem k_enum2 : enumk (.ok (.nw, .list ds)) = .ok (enumD 0 ds) := nr rfl
theorem rng_ok {i j : Nat} (h1 : i ≤ j) (h : j ≤ 1000) : rngOk (i : Int) (j : Int) = true := by
  unfold rngOk
  rw [decide_eq_true_eq]
  omega
@[simp] theorem k_rng {j : Nat} (h : j ≤ 1000) : rngk (.ok (k, .int (j : Int))) = .ok ((List.range j).map natD) := by
  have hc : (rngOk 0 (j : Int) && decide ((j : Int) ≤ (line : Nat))) = true := by
    have h0 := rng_ok (Nat.zero_le j) h
    rw [show ((0 : Nat) : Int) = 0 from rfl] at h0
    rw [h0, Bool.true_and, decide_eq_true_eq]
    exact Int.ofNat_le.mpr (Nat.le_trans h (by decide))
  unfold rngk
  rw [bind_ok]
  simp only [hc, if_true]
  unfold rngD natD
  rw [Int.sub_zero, Int.toNat_natCast]
  simp
theorem k_rng0 : rngk (.ok (k, .int 0)) = .ok [] := nr rfl
theorem k_rng2 {i j : Nat} (h : j ≤ 1000) (h1 : i ≤ j) : rng2k (.ok (k, .int (i : Int))) (.ok (k', .int (j : Int))) = .ok ((List.range (j - i)).map fun q => natD (i + q)) := by
  have hc : (rngOk (i : Int) (j : Int) && decide ((j : Int) - (i : Int) ≤ (line : Nat))) = true := by
    rw [rng_ok h1 h, Bool.true_and, decide_eq_true_eq]
    exact Int.le_trans (by omega) (Int.ofNat_le.mpr (Nat.le_trans h (by decide : 1000 ≤ line)))
  unfold rng2k
  rw [bind_ok, bind_ok]
  simp only [hc, if_true]
  unfold rngD natD
  rw [show ((j : Int) - (i : Int)).toNat = j - i by omega]
  simp
@[simp] theorem k_tup (h : ds.length ≤ line) : tupk (.ok (.fz, .list ds)) = .ok (.fz, .tuple ds) := if_pos h
@[simp] theorem k_lst (h : ds.length ≤ line) : lstk (.ok (.fz, .list ds)) = .ok (.ow, .list ds) := if_pos h
@[simp] theorem k_bi {w : BI} : bik w (.ok (k, .list ds)) = biD w ds := nr rfl
@[simp] theorem k_call {j : Nat} : callk cl j (.ok (.fz, .list ds)) = (cl j ds).bind fun z => .ok (ownK z.1, z.2) := nr rfl
@[simp] theorem k_not {p : Bool} : notk (.ok (k, .bool p)) = .ok (.fz, .bool (!p)) := nr rfl
@[simp] theorem k_lend (h : flatD d = true) : lendk (.ok (k, d)) = .ok (.fz, d) := if_pos h
@[simp] theorem k_ret1 : retk (.ok (.fz, d)) = .ok (.rt false d) := nr rfl
@[simp] theorem k_ret2 : retk (.ok (.nw, d)) = .ok (.rt true d) := nr rfl
@[simp] theorem k_ret3 : retk (.ok (.ow, d)) = .ok (.rt true d) := nr rfl
@[simp] theorem k_ret4 : retk (.ok (.mv, d)) = .ok (.rt true d) := nr rfl
@[simp] theorem k_asg1 : asgk slK (.ok (.fz, d)) m τ = .ok (.nx (τ.set m (.fz d))) := nr rfl
@[simp] theorem k_asg2 : asgk slK (.ok (.nw, d)) m τ = .ok (.nx (τ.set m (.nw d))) := nr rfl
@[simp] theorem k_asg3 : asgk slK (.ok (.ow, d)) m τ = .ok (.nx (τ.set m (.ow d))) := nr rfl
@[simp] theorem k_asz1 : asgk slZ (.ok (.fz, d)) m τ = .ok (.nx (τ.set m (.fz d))) := nr rfl
@[simp] theorem k_asz2 : asgk slZ (.ok (.nw, d)) m τ = .ok (.nx (τ.set m (.nw d))) := nr rfl
@[simp] theorem k_asz3 : asgk slZ (.ok (.ow, d)) m τ = .ok (.nx (τ.set m (.nw d))) := nr rfl
@[simp] theorem k_asb {p : Bool} : asb (.ok (k, .bool p)) = .ok p := nr rfl
@[simp] theorem k_asd1 : asd (.ok (.fz, d)) = .ok d := nr rfl
@[simp] theorem k_asd2 : asd (.ok (.nw, d)) = .ok d := nr rfl
@[simp] theorem k_asd3 : asd (.ok (.ow, d)) = .ok d := nr rfl
@[simp] theorem k_sq1 : sqk cl gc g (.ok (.nx τ)) s = run cl gc g s τ := nr rfl
@[simp] theorem k_sq2 : sqk cl gc g (.ok (.rt o d)) s = .ok (.rt o d) := nr rfl
@[simp] theorem k_sq3 : sqk cl gc g (.ok (.bk τ)) s = .ok (.bk τ) := nr rfl
@[simp] theorem k_sq4 : sqk cl gc g (.ok (.ct τ)) s = .ok (.ct τ) := nr rfl
@[simp] theorem k_sq5 : sqk cl gc g (.raise m) s = .raise m := nr rfl
@[simp] theorem k_if1 : ifk cl gc g (.ok true) s t τ = run cl gc g s τ := nr rfl
@[simp] theorem k_if0 : ifk cl gc g (.ok false) s t τ = run cl gc g t τ := nr rfl
@[simp] theorem k_fk1 : fk cl gc g (.ok (.nx τ)) vs one b ks ds = fgo cl gc g vs one b ks ds (wipeT ks τ) := nr rfl
@[simp] theorem k_fk2 : fk cl gc g (.ok (.ct τ)) vs one b ks ds = fgo cl gc g vs one b ks ds (wipeT ks τ) := nr rfl
@[simp] theorem k_fk3 : fk cl gc g (.ok (.bk τ)) vs one b ks ds = .ok (.nx (wipeT ks τ)) := nr rfl
@[simp] theorem k_fk4 : fk cl gc g (.ok (.rt o d)) vs one b ks ds = .ok (.rt o d) := nr rfl
@[simp] theorem k_fk5 : fk cl gc g (.raise m) vs one b ks ds = .raise m := nr rfl
@[simp] theorem k_wk1 : wk cl gc g (.ok true) c b ks n τ = wk2 cl gc g (run cl gc g b τ) c b ks n := nr rfl
@[simp] theorem k_wk0 : wk cl gc g (.ok false) c b ks n τ = .ok (.nx τ) := nr rfl
@[simp] theorem k_wk2 : wk2 cl gc g (.ok (.nx τ)) c b ks n = wgo cl gc g c b ks n (wipeT ks τ) := nr rfl
@[simp] theorem k_wk3 : wk2 cl gc g (.ok (.ct τ)) c b ks n = wgo cl gc g c b ks n (wipeT ks τ) := nr rfl
@[simp] theorem k_wk4 : wk2 cl gc g (.ok (.bk τ)) c b ks n = .ok (.nx (wipeT ks τ)) := nr rfl
@[simp] theorem k_wk5 : wk2 cl gc g (.ok (.rt o d)) c b ks n = .ok (.rt o d) := nr rfl
end
@[simp] theorem o_add {i j : Int} : binD .add (.int i) (.int j) = .ok (.fz, .int (i + j)) := nr rfl
@[simp] theorem o_sub {i j : Int} : binD .sub (.int i) (.int j) = .ok (.fz, .int (i - j)) := nr rfl
@[simp] theorem o_mod {i j : Int} (h : 0 < j) : binD .mod (.int i) (.int j) = .ok (.fz, .int (i % j)) := if_pos h
theorem o_fdiv {i j : Int} (h : 0 < j) (h2 : j.natAbs.log2 < 9000) : binD .fdiv (.int i) (.int j) = .ok (.fz, .int (i / j)) := if_pos ⟨h, h2⟩
@[simp] theorem o_fdl {i j : Int} (h : 0 < j) (h1 : j < 1000000000000000000000000000000) : binD .fdiv (.int i) (.int j) = .ok (.fz, .int (i / j)) := o_fdiv h (by
  have h2 : j.natAbs < 2 ^ 100 := by omega
  exact Nat.lt_trans ((Nat.log2_lt (by omega)).mpr h2) (by decide))
@[simp] theorem o_fdivp {i : Int} {k : Nat} (h : k ≤ 1000) : binD .fdiv (.int i) (.int (2 ^ k)) = .ok (.fz, .int (i / 2 ^ k)) := by
  have e : (2 : Int) ^ k = ((2 ^ k : Nat) : Int) := by simp
  rw [e]
  exact o_fdiv (by have := Nat.two_pow_pos k; omega) (by rw [Int.natAbs_natCast, Nat.log2_two_pow]; omega)
theorem o_fdivs {i : Int} {k : Nat} (h1 : 0 < k) (h : k < 2 ^ 1000) : binD .fdiv (.int i) (.int (k : Int)) = .ok (.fz, .int (i / (k : Int))) :=
  o_fdiv (by omega) (by rw [Int.natAbs_natCast]; exact Nat.lt_trans ((Nat.log2_lt (by omega)).mpr h) (by decide))
theorem o_mul {i j : Int} (h : mulOk i j = true) : binD .mul (.int i) (.int j) = .ok (.fz, .int (i * j)) := if_pos h
theorem o_mul1 {i j : Int} (h0 : 0 ≤ i) (h : i < 2 ^ 64) : binD .mul (.int i) (.int j) = .ok (.fz, .int (i * j)) := o_mul (by
  unfold mulOk
  rw [decide_eq_true (show -(2 ^ 64) < i ∧ i < 2 ^ 64 by constructor <;> omega)]; rfl)
theorem o_mul2 {i j : Int} (h0 : 0 ≤ j) (h : j < 2 ^ 64) : binD .mul (.int i) (.int j) = .ok (.fz, .int (i * j)) := o_mul (by
  unfold mulOk
  rw [decide_eq_true (show -(2 ^ 64) < j ∧ j < 2 ^ 64 by constructor <;> omega), Bool.or_true]; rfl)
@[simp] theorem o_shl1 {k : Nat} (h : k ≤ 1000) : binD .shl (.int 1) (.int (k : Int)) = .ok (.fz, .int (2 ^ k)) := by
  show (if (0 : Int) ≤ k ∧ (k : Int) ≤ 1000000 ∧ (1 : Int).natAbs < 2 ^ 64 then Out.ok (Kd.fz, PyData.int (1 * 2 ^ (k : Int).toNat)) else .stuck) = _
  rw [if_pos ⟨by omega, by omega, by decide⟩, Int.toNat_natCast, Int.one_mul]
@[simp] theorem o_shr {i : Int} {k : Nat} : binD .shr (.int i) (.int (k : Int)) = .ok (.fz, .int (i / 2 ^ k)) := by
  show (if (0 : Int) ≤ k then Out.ok (Kd.fz, PyData.int (i / 2 ^ (k : Int).toNat)) else .stuck) = _
  rw [if_pos (by omega), Int.toNat_natCast]
@[simp] theorem o_band {i j : Int} : binD .band (.int i) (.int j) = .ok (.fz, .int (Builtin.bitAnd i j)) := nr rfl
@[simp] theorem o_bor {i j : Int} : binD .bor (.int i) (.int j) = .ok (.fz, .int (Builtin.bitOr i j)) := nr rfl
@[simp] theorem o_bxor {i j : Int} : binD .bxor (.int i) (.int j) = .ok (.fz, .int (Builtin.bitXor i j)) := nr rfl
@[simp] theorem o_addl {xs ys : List D} (h : xs.length + ys.length ≤ line) : binD .add (.list xs) (.list ys) = .ok (.ow, .list (xs ++ ys)) := if_pos h
@[simp] theorem o_addt {xs ys : List D} (h : xs.length + ys.length ≤ line) : binD .add (.tuple xs) (.tuple ys) = .ok (.fz, .tuple (xs ++ ys)) := if_pos h
theorem x_t {xs : List D} {i : Int} {d : D} (h : L2.atI xs i = some d) : ixD (.tuple xs) (.int i) = .ok (.fz, d) := by
  show (match L2.atI xs i with | some d => Out.ok (Kd.fz, d) | none => .stuck) = _
  rw [h]
theorem x_l {xs : List D} {i : Int} {d : D} (h : L2.atI xs i = some d) : ixD (.list xs) (.int i) = .ok (.fz, d) := by
  show (match L2.atI xs i with | some d => Out.ok (Kd.fz, d) | none => .stuck) = _
  rw [h]
@[simp] theorem x_last {xs : List D} {d : D} : ixD (.list (xs ++ [d])) (.int (-1)) = .ok (.fz, d) := x_l atI_last
@[simp] theorem x_last1 {d : D} : ixD (.list [d]) (.int (-1)) = .ok (.fz, d) := x_l (atI_last (xs := []))
@[simp] theorem x_t0 {a : D} {r : List D} : ixD (.tuple (a :: r)) (.int 0) = .ok (.fz, a) := x_t (atI_nat (i := 0) rfl)
@[simp] theorem x_t1 {a b : D} {r : List D} : ixD (.tuple (a :: b :: r)) (.int 1) = .ok (.fz, b) := x_t (atI_nat (i := 1) rfl)
@[simp] theorem x_t2 {a b c : D} {r : List D} : ixD (.tuple (a :: b :: c :: r)) (.int 2) = .ok (.fz, c) := x_t (atI_nat (i := 2) rfl)
@[simp] theorem x_t3 {a b c d : D} {r : List D} : ixD (.tuple (a :: b :: c :: d :: r)) (.int 3) = .ok (.fz, d) := x_t (atI_nat (i := 3) rfl)
@[simp] theorem x_t4 {a b c d e : D} {r : List D} : ixD (.tuple (a :: b :: c :: d :: e :: r)) (.int 4) = .ok (.fz, e) := x_t (atI_nat (i := 4) rfl)
@[simp] theorem x_t5 {a b c d e f : D} {r : List D} : ixD (.tuple (a :: b :: c :: d :: e :: f :: r)) (.int 5) = .ok (.fz, f) := x_t (atI_nat (i := 5) rfl)
@[simp] theorem x_l0 {a : D} {r : List D} : ixD (.list (a :: r)) (.int 0) = .ok (.fz, a) := x_l (atI_nat (i := 0) rfl)
@[simp] theorem x_l1 {a b : D} {r : List D} : ixD (.list (a :: b :: r)) (.int 1) = .ok (.fz, b) := x_l (atI_nat (i := 1) rfl)
@[simp] theorem x_l2 {a b c : D} {r : List D} : ixD (.list (a :: b :: c :: r)) (.int 2) = .ok (.fz, c) := x_l (atI_nat (i := 2) rfl)
@[simp] theorem x_l3 {a b c d : D} {r : List D} : ixD (.list (a :: b :: c :: d :: r)) (.int 3) = .ok (.fz, d) := x_l (atI_nat (i := 3) rfl)
@[simp] theorem x_l4 {a b c d e : D} {r : List D} : ixD (.list (a :: b :: c :: d :: e :: r)) (.int 4) = .ok (.fz, e) := x_l (atI_nat (i := 4) rfl)
@[simp] theorem x_l5 {a b c d e f : D} {r : List D} : ixD (.list (a :: b :: c :: d :: e :: f :: r)) (.int 5) = .ok (.fz, f) := x_l (atI_nat (i := 5) rfl)
@[simp] theorem keyD_int {i : Int} : keyD (.int i) = true := nr rfl
@[simp] theorem keyD_str {i : Str} : keyD (.str i) = true := nr rfl
def lck (x : Out Bool) (y : OE) : Out (Option D) := x.bind fun b => if b then y.bind fun y => (keep y).bind fun z => .ok (some z) else .ok none
theorem lcF_eq (cl : Nat → List D → Out (Bool × D)) (gc : Nat → D) (vs : List Nat) (one : Bool) (c e : E) (τ : Ta) (d : D) : lcF cl gc vs one c e τ d = (setT vs one d (wipeT vs τ)).bind fun τ' => lck (asb (ev cl gc c τ')) (ev cl gc e τ') := by
  unfold lcF setT
  cases bindT vs one d (wipeT vs τ) with
  | none => rfl
  | some τ' =>
    show (ev cl gc c τ').bind (fun x => (asBool x).bind fun b => if b then (ev cl gc e τ').bind fun y => (keep y).bind fun z => .ok (some z) else .ok none) = lck (asb (ev cl gc c τ')) (ev cl gc e τ')
    unfold lck asb
    cases ev cl gc c τ' with
    | ok x => rfl
    | _ => rfl
@[simp] theorem lck_0 {y : OE} : lck (.ok false) y = .ok none := nr rfl
@[simp] theorem lck_1 {d : D} : lck (.ok true) (.ok (.fz, d)) = .ok (some d) := nr rfl
@[simp] theorem lck_2 {d : D} : lck (.ok true) (.ok (.nw, d)) = .ok (some d) := nr rfl
@[simp] theorem lck_3 {d : D} : lck (.ok true) (.ok (.ow, d)) = .ok (some d) := nr rfl
theorem line_ge {n : Nat} (h : n ≤ 1000) : n ≤ line := Nat.le_trans h (by decide)
@[simp] theorem le_line {n : Nat} (h : n ≤ 1000) : (n ≤ line) = True := eq_true (line_ge h)
/-! ### what the plain words say -/
section
variable {d d' : D} {k : Kd} {b : Bool} {i j : Int} {xs ys : List D} {kvs : List (D × D)} {x y : Str} {τ : Ta} {v : Nat} {vs : List Nat}
@[simp] theorem y_start (e : Def) : start e xs = xs.map .fz ++ List.replicate (e.ns - xs.length) .un := nr rfl
@[simp] theorem y_keep1 : keep (.fz, d) = .ok d := nr rfl
@[simp] theorem y_keep2 : keep (.nw, d) = .ok d := nr rfl
@[simp] theorem y_keep3 : keep (.ow, d) = .ok d := nr rfl
@[simp] theorem y_own : ownK b = if b = true then .ow else .fz := nr rfl
@[simp] theorem y_opt : optInt (k, .int i) = .ok (some i) := nr rfl
@[simp] theorem y_frz : frzT vs τ = vs.foldl (fun (τ : Ta) i => match τ[i]? with | some (Sl.ow d) => τ.set i (Sl.nw d) | _ => τ) τ := nr rfl
@[simp] theorem y_wip0 : wipeT [] τ = τ := nr rfl
@[simp] theorem y_wip1 : wipeT (v :: vs) τ = (wipeT vs τ).set v .un := nr rfl
@[simp] theorem y_bind1 : bindT [v] true d τ = some (τ.set v (.fz d)) := nr rfl
@[simp] theorem y_bind2 : bindT vs false (.tuple xs) τ = setAll vs xs τ := by cases vs with
  | nil => rfl
  | cons a r => cases r <;> rfl
@[simp] theorem y_set0 : setAll [] [] τ = some τ := nr rfl
@[simp] theorem y_set1 : setAll (v :: vs) (d :: xs) τ = setAll vs xs (τ.set v (.fz d)) := nr rfl
@[simp] theorem y_bool : asBool (k, .bool b) = .ok b := nr rfl
@[simp] theorem y_fl1 : flatD .none = true := nr rfl
@[simp] theorem y_fl2 : flatD (.bool b) = true := nr rfl
@[simp] theorem y_fl3 : flatD (.int i) = true := nr rfl
@[simp] theorem y_fl4 : flatD (.str x) = true := nr rfl
@[simp] theorem y_ty1 : isTy .tuple (.tuple xs) = true := nr rfl
@[simp] theorem y_ty2 : isTy .list (.list xs) = true := nr rfl
@[simp] theorem y_ty3 : isTy .int (.int i) = true := nr rfl
@[simp] theorem y_ty4 : isTy .int (.bool b) = true := nr rfl
@[simp] theorem y_ty5 : isTy .bool (.bool b) = true := nr rfl
@[simp] theorem y_ty6 : isTy .str (.str x) = true := nr rfl
@[simp] theorem y_eq : cmpD .eq d d' = if (SeqAt.shaped d && SeqAt.shaped d') = true then .ok (.fz, .bool (PyData.eqv d d')) else .stuck := nr rfl
@[simp] theorem y_ne : cmpD .ne d d' = if (SeqAt.shaped d && SeqAt.shaped d') = true then .ok (.fz, .bool (!PyData.eqv d d')) else .stuck := nr rfl
@[simp] theorem y_lt : cmpD .lt (.int i) (.int j) = .ok (.fz, .bool (decide (i < j))) := nr rfl
@[simp] theorem y_le : cmpD .le (.int i) (.int j) = .ok (.fz, .bool (decide (i ≤ j))) := nr rfl
@[simp] theorem y_gt : cmpD .gt (.int i) (.int j) = .ok (.fz, .bool (decide (j < i))) := nr rfl
@[simp] theorem y_ge : cmpD .ge (.int i) (.int j) = .ok (.fz, .bool (decide (j ≤ i))) := nr rfl
@[simp] theorem y_is0 : cmpD .isN .none .none = .ok (.fz, .bool true) := nr rfl
@[simp] theorem y_is1 : cmpD .isN (.int i) .none = .ok (.fz, .bool false) := nr rfl
@[simp] theorem y_is2 : cmpD .isN (.str x) .none = .ok (.fz, .bool false) := nr rfl
@[simp] theorem y_is3 : cmpD .isN (.list xs) .none = .ok (.fz, .bool false) := nr rfl
@[simp] theorem y_is4 : cmpD .isN (.tuple xs) .none = .ok (.fz, .bool false) := nr rfl
@[simp] theorem y_is5 : cmpD .isN (.bool b) .none = .ok (.fz, .bool false) := nr rfl
@[simp] theorem y_not0 : cmpD .notN .none .none = .ok (.fz, .bool false) := nr rfl
@[simp] theorem y_not1 : cmpD .notN (.int i) .none = .ok (.fz, .bool true) := nr rfl
@[simp] theorem y_not2 : cmpD .notN (.str x) .none = .ok (.fz, .bool true) := nr rfl
@[simp] theorem y_not3 : cmpD .notN (.list xs) .none = .ok (.fz, .bool true) := nr rfl
@[simp] theorem y_not4 : cmpD .notN (.tuple xs) .none = .ok (.fz, .bool true) := nr rfl
@[simp] theorem y_not5 : cmpD .notN (.bool b) .none = .ok (.fz, .bool true) := nr rfl
@[simp] theorem y_rev : revD (.list xs) = .ok (.ow, .list xs.reverse) := nr rfl
@[simp] theorem y_neg : negD (.int i) = .ok (.fz, .int (-i)) := nr rfl
@[simp] theorem y_len1 : biD .len [.list xs] = .ok (.fz, .int xs.length) := nr rfl
@[simp] theorem y_len2 : biD .len [.tuple xs] = .ok (.fz, .int xs.length) := nr rfl
@[simp] theorem y_len3 : biD .len [.dict kvs] = .ok (.fz, .int kvs.length) := nr rfl
@[simp] theorem y_max : biD .max [.int i, .int j] = .ok (.fz, .int (if j > i then j else i)) := nr rfl
@[simp] theorem y_min : biD .min [.int i, .int j] = .ok (.fz, .int (if j < i then j else i)) := nr rfl
@[simp] theorem y_int1 : biD .int [.int i] = .ok (.fz, .int i) := nr rfl
@[simp] theorem y_int2 : biD .int [.bool b] = .ok (.fz, .int (if b then 1 else 0)) := nr rfl
@[simp] theorem y_list1 : biD .list [.list xs] = .ok (.ow, .list xs) := nr rfl
@[simp] theorem y_list2 : biD .list [.tuple xs] = .ok (.ow, .list xs) := nr rfl
@[simp] theorem y_tup1 : biD .tuple [.list xs] = .ok (.fz, .tuple xs) := nr rfl
@[simp] theorem y_tup2 : biD .tuple [.tuple xs] = .ok (.fz, .tuple xs) := nr rfl
@[simp] theorem y_abs : biD .abs [.int i] = .ok (.fz, .int (if i < 0 then -i else i)) := nr rfl
end
end VL
namespace VL
open PySem PySem.Spec L2
namespace F1
/-- 0: holds(facts, condition, world); slots: 0 facts, 1 condition, 2 world -/
def d_holds : Def := ⟨3, 3,
  (.seq (.ife (.cmp .eq (.ix (.var 1) (.cst (.int 0))) (.cst (.str "yes"))) 
    (.seq (.ret (.cst (.bool true))) .nil) .nil) 
  (.seq (.ife (.cmp .eq (.ix (.var 1) (.cst (.int 0))) (.cst (.str "fact"))) 
    (.seq (.ret (.cmp .eq (.bin .band (.bin .shr (.var 2) (.me .index (.var 0) (.cons (.ix (.var 1) (.cst (.int 1))) .nil))) (.cst (.int 1))) (.cst (.int 1)))) .nil) .nil) 
  (.seq (.ife (.cmp .eq (.ix (.var 1) (.cst (.int 0))) (.cst (.str "not"))) 
    (.seq (.ret (.not (.call 0 (.cons (.var 0) (.cons (.ix (.var 1) (.cst (.int 1))) (.cons (.var 2) .nil)))))) .nil) .nil) 
  (.seq (.ife (.cmp .eq (.ix (.var 1) (.cst (.int 0))) (.cst (.str "both"))) 
    (.seq (.ret (.and (.call 0 (.cons (.var 0) (.cons (.ix (.var 1) (.cst (.int 1))) (.cons (.var 2) .nil)))) (.one (.call 0 (.cons (.var 0) (.cons (.ix (.var 1) (.cst (.int 2))) (.cons (.var 2) .nil))))))) .nil) .nil) 
  (.seq (.ret (.or (.call 0 (.cons (.var 0) (.cons (.ix (.var 1) (.cst (.int 1))) (.cons (.var 2) .nil)))) (.one (.call 0 (.cons (.var 0) (.cons (.ix (.var 1) (.cst (.int 2))) (.cons (.var 2) .nil))))))) .nil)))))⟩
/-- 1: how_many_worlds(facts); slots: 0 facts -/
def d_how_many_worlds : Def := ⟨1, 1,
  (.seq (.ret (.bin .shl (.cst (.int 1)) (.bi .len (.conp (.var 0) .nil)))) .nil)⟩
/-- 2: holds_in(house, condition, world); slots: 0 house, 1 condition, 2 world -/
def d_holds_in : Def := ⟨3, 3,
  (.seq (.ret (.call 0 (.cons (.ix (.var 0) (.cst (.int 0))) (.cons (.var 1) (.cons (.var 2) .nil))))) .nil)⟩
/-- 3: need_deed(house, name); slots: 0 house, 1 name, 2 deed -/
def b_need_deed_0 : S :=
  (.seq (.ife (.cmp .eq (.ix (.var 2) (.cst (.int 0))) (.var 1)) 
    (.seq (.ret (.tk 2)) .nil) .nil) .nil)
def d_need_deed : Def := ⟨2, 3,
  (.seq (.forr [2] true (.one (.ix (.var 0) (.cst (.int 1)))) b_need_deed_0 [2]) 
  (.seq (.rai 1) .nil))⟩
/-- 4: is_crowd(house, crowd); slots: 0 house, 1 crowd, 2 k -/
def d_is_crowd : Def := ⟨2, 3,
  (.seq (.ife (.or (.cmp .eq (.var 1) (.tup .nil)) (.one (.cmp .ne (.lc [2] true (.rng2 (.cst (.int 1)) (.bi .len (.conp (.var 1) .nil))) (.one (.cmp .le (.ix (.var 1) (.var 2)) (.ix (.var 1) (.bin .sub (.var 2) (.cst (.int 1)))))) (.var 2)) (.lst .nil)))) 
    (.seq (.ret (.cst (.bool false))) .nil) .nil) 
  (.seq (.ret (.and (.cmp .ge (.ix (.var 1) (.cst (.int 0))) (.cst (.int 0))) (.one (.cmp .lt (.ix (.var 1) (.neg (.cst (.int 1)))) (.call 1 (.cons (.ix (.var 0) (.cst (.int 0))) .nil)))))) .nil))⟩
/-- 5: need_crowd(house, crowd); slots: 0 house, 1 crowd -/
def d_need_crowd : Def := ⟨2, 2,
  (.seq (.ife (.not (.call 4 (.cons (.var 0) (.cons (.var 1) .nil)))) 
    (.seq (.rai 2) .nil) .nil) .nil)⟩
/-- 6: changed(house, way, world); slots: 0 house, 1 way, 2 world, 3 facts, 4 found, 5 when, 6 fact, 7 truth, 8 bit -/
def b_changed_0 : S :=
  (.seq (.ife (.call 0 (.cons (.var 3) (.cons (.var 5) (.cons (.var 2) .nil)))) 
    (.seq (.asz 8 (.bin .shl (.cst (.int 1)) (.me .index (.var 3) (.cons (.var 6) .nil)))) 
    (.seq (.asz 4 (.bin .bor (.var 4) (.var 8))) 
    (.seq (.ife (.not (.var 7)) 
    (.seq (.asz 4 (.bin .bxor (.var 4) (.var 8))) .nil) .nil) .nil))) .nil) .nil)
def d_changed : Def := ⟨3, 9,
  (.seq (.asz 3 (.ix (.var 0) (.cst (.int 0)))) 
  (.seq (.asz 4 (.var 2)) 
  (.seq (.forr [5, 6, 7] false (.one (.var 1)) b_changed_0 [5, 6, 7, 8]) 
  (.seq (.ret (.tk 4)) .nil))))⟩
/-- 7: all_behind(house, deed, crowd); slots: 0 house, 1 deed, 2 crowd, 3 found, 4 world, 5 way -/
def b_all_behind_0 : S :=
  (.seq (.sti 3 (.call 6 (.cons (.var 0) (.cons (.var 5) (.cons (.var 4) .nil)))) (.cst (.bool true))) .nil)
def b_all_behind_1 : S :=
  (.seq (.forr [5] true (.one (.ix (.var 1) (.cst (.int 2)))) b_all_behind_0 [5]) .nil)
def d_all_behind : Def := ⟨3, 6,
  (.seq (.asg 3 .dic) 
  (.seq (.forr [4] true (.one (.var 2)) b_all_behind_1 [4, 5]) 
  (.seq (.ret (.bi .tuple (.conp (.bi .sorted (.conp (.pk 3) .nil)) .nil))) .nil)))⟩
/-- 8: need_deeds(house, row); slots: 0 house, 1 row, 2 name -/
def d_need_deeds : Def := ⟨2, 3,
  (.seq (.ret (.lc [2] true (.one (.var 1)) (.cst (.bool true)) (.call 3 (.cons (.var 0) (.cons (.var 2) .nil))))) .nil)⟩
/-- 9: failing_in(house, condition, crowd); slots: 0 house, 1 condition, 2 crowd, 3 world -/
def b_failing_in_0 : S :=
  (.seq (.ife (.not (.call 2 (.cons (.var 0) (.cons (.var 1) (.cons (.var 3) .nil))))) 
    (.seq (.ret (.tk 3)) .nil) .nil) .nil)
def d_failing_in : Def := ⟨3, 4,
  (.seq (.forr [3] true (.one (.var 2)) b_failing_in_0 [3]) 
  (.seq (.ret (.cst .none)) .nil))⟩
/-- 10: row_goes(house, crowd, row); slots: 0 house, 1 crowd, 2 row, 3 deeds, 4 crowds, 5 place, 6 deed, 7 world -/
def b_row_goes_0 : S :=
  (.seq (.asz 7 (.call 9 (.cons (.var 0) (.cons (.ix (.var 6) (.cst (.int 1))) (.cons (.ix (.pk 4) (.neg (.cst (.int 1)))) .nil))))) 
  (.seq (.ife (.cmp .notN (.var 7) (.cst .none)) 
    (.seq (.ret (.tup (.cons (.cst (.str "stuck")) (.cons (.var 5) (.cons (.var 7) .nil))))) .nil) .nil) 
  (.seq (.app 4 (.call 7 (.cons (.var 0) (.cons (.var 6) (.cons (.ix (.pk 4) (.neg (.cst (.int 1)))) .nil))))) .nil)))
def d_row_goes : Def := ⟨3, 8,
  (.seq (.asz 3 (.call 8 (.cons (.var 0) (.cons (.var 2) .nil)))) 
  (.seq (.exx (.call 5 (.cons (.var 0) (.cons (.var 1) .nil)))) 
  (.seq (.asg 4 (.lst (.cons (.var 1) .nil))) 
  (.seq (.forr [5, 6] false (.enum (.var 3)) b_row_goes_0 [5, 6, 7]) 
  (.seq (.asz 7 (.call 9 (.cons (.var 0) (.cons (.ix (.var 0) (.cst (.int 4))) (.cons (.ix (.pk 4) (.neg (.cst (.int 1)))) .nil))))) 
  (.seq (.ife (.cmp .notN (.var 7) (.cst .none)) 
    (.seq (.ret (.tup (.cons (.cst (.str "ends")) (.cons (.var 7) .nil)))) .nil) .nil) 
  (.seq (.frz [4] (.ret (.tup (.cons (.cst (.str "well")) (.cons (.var 4) .nil))))) .nil)))))))⟩
/-- 11: shorter_row(house, crowd, row); slots: 0 house, 1 crowd, 2 row, 3 place, 4 less -/
def b_shorter_row_0 : S :=
  (.seq (.asz 4 (.bin .add (.sl (.var 2) .nil (.one (.var 3))) (.sl (.var 2) (.one (.bin .add (.var 3) (.cst (.int 1)))) .nil))) 
  (.seq (.ife (.cmp .eq (.ix (.call 10 (.cons (.var 0) (.cons (.var 1) (.cons (.var 4) .nil)))) (.cst (.int 0))) (.cst (.str "well"))) 
    (.seq (.ret (.tk 4)) .nil) .nil) .nil))
def d_shorter_row : Def := ⟨3, 5,
  (.seq (.forr [3] true (.rng1 (.bi .len (.conp (.var 2) .nil))) b_shorter_row_0 [3, 4]) 
  (.seq (.ret (.cst .none)) .nil))⟩
/-- 12: row_made_less(house, crowd, row); slots: 0 house, 1 crowd, 2 row, 3 found, 4 less -/
def b_row_made_less_0 : S :=
  (.seq (.asz 3 (.var 4)) 
  (.seq (.asz 4 (.call 11 (.cons (.var 0) (.cons (.var 1) (.cons (.var 3) .nil))))) .nil))
def d_row_made_less : Def := ⟨3, 5,
  (.seq (.exx (.call 5 (.cons (.var 0) (.cons (.var 1) .nil)))) 
  (.seq (.ife (.cmp .ne (.ix (.call 10 (.cons (.var 0) (.cons (.var 1) (.cons (.var 2) .nil)))) (.cst (.int 0))) (.cst (.str "well"))) 
    (.seq (.rai 3) .nil) .nil) 
  (.seq (.asz 3 (.bi .list (.conp (.var 2) .nil))) 
  (.seq (.asz 4 (.call 11 (.cons (.var 0) (.cons (.var 1) (.cons (.var 3) .nil))))) 
  (.seq (.whl (.cmp .notN (.var 4) (.cst .none)) b_row_made_less_0 []) 
  (.seq (.ret (.tk 3)) .nil))))))⟩
/-- 13: _law_cell_at(script, k); slots: 0 script, 1 k -/
def d__law_cell_at : Def := ⟨2, 2,
  (.seq (.ife (.cmp .lt (.var 1) (.bi .len (.conp (.var 0) .nil))) 
    (.seq (.ret (.ix (.var 0) (.var 1))) .nil) .nil) 
  (.seq (.ret (.cst (.int 0))) .nil))⟩
/-- 14: _law_digits(cell, many, top); slots: 0 cell, 1 many, 2 top, 3 found, 4 rest, 5 k, 6 stir -/
def b__law_digits_0 : S :=
  (.seq (.asz 6 (.bin .mod (.bin .mul (.bin .add (.bin .add (.var 0) (.bin .mul (.cst (.int 977)) (.var 5))) (.cst (.int 1))) (.cst (.int 48271))) (.cst (.int 2147483647)))) 
  (.seq (.asz 6 (.bin .mod (.bin .mul (.var 6) (.var 6)) (.cst (.int 2147483629)))) 
  (.seq (.asz 6 (.bin .fdiv (.bin .mod (.bin .mul (.bin .add (.var 6) (.bin .mul (.cst (.int 40692)) (.bin .add (.var 5) (.cst (.int 3))))) (.cst (.int 69621))) (.cst (.int 2147483423))) (.cst (.int 8)))) 
  (.seq (.ife (.cmp .ge (.var 0) (.bin .pow (.cst (.int 10)) (.cst (.int 18)))) 
    (.seq (.asz 6 (.var 4)) .nil) .nil) 
  (.seq (.app 3 (.bin .mod (.var 6) (.var 2))) 
  (.seq (.asz 4 (.bin .fdiv (.var 4) (.var 2))) .nil))))))
def d__law_digits : Def := ⟨3, 7,
  (.seq (.asg 3 (.lst .nil)) 
  (.seq (.asz 4 (.var 0)) 
  (.seq (.forr [5] true (.rng1 (.var 1)) b__law_digits_0 [5, 6]) 
  (.seq (.ret (.tk 3)) .nil))))⟩
/-- 15: _law_holds(facts, condition, world); slots: 0 facts, 1 condition, 2 world, 3 word, 4 one, 5 other -/
def d__law_holds : Def := ⟨3, 6,
  (.seq (.asz 3 (.ix (.var 1) (.cst (.int 0)))) 
  (.seq (.ife (.cmp .eq (.var 3) (.cst (.str "yes"))) 
    (.seq (.ret (.cst (.bool true))) .nil) .nil) 
  (.seq (.ife (.cmp .eq (.var 3) (.cst (.str "fact"))) 
    (.seq (.ret (.cmp .eq (.bin .mod (.bin .fdiv (.var 2) (.bin .shl (.cst (.int 1)) (.me .index (.var 0) (.cons (.ix (.var 1) (.cst (.int 1))) .nil)))) (.cst (.int 2))) (.cst (.int 1)))) .nil) .nil) 
  (.seq (.ife (.cmp .eq (.var 3) (.cst (.str "not"))) 
    (.seq (.ret (.not (.call 15 (.cons (.var 0) (.cons (.ix (.var 1) (.cst (.int 1))) (.cons (.var 2) .nil)))))) .nil) .nil) 
  (.seq (.asz 4 (.call 15 (.cons (.var 0) (.cons (.ix (.var 1) (.cst (.int 1))) (.cons (.var 2) .nil))))) 
  (.seq (.asz 5 (.call 15 (.cons (.var 0) (.cons (.ix (.var 1) (.cst (.int 2))) (.cons (.var 2) .nil))))) 
  (.seq (.ret (.ix (.lst (.cons (.and (.var 4) (.one (.var 5))) (.cons (.or (.var 4) (.one (.var 5))) .nil))) (.bi .int (.conp (.cmp .eq (.var 3) (.cst (.str "either"))) .nil)))) .nil)))))))⟩
/-- 16: _law_can(facts, need, crowd); slots: 0 facts, 1 need, 2 crowd, 3 world -/
def d__law_can : Def := ⟨3, 4,
  (.seq (.ret (.cmp .eq (.lc [3] true (.one (.var 2)) (.one (.not (.call 15 (.cons (.var 0) (.cons (.var 1) (.cons (.var 3) .nil)))))) (.var 3)) (.lst .nil))) .nil)⟩
/-- 17: _law_behind(facts, deed, crowd); slots: 0 facts, 1 deed, 2 crowd, 3 found, 4 world, 5 way, 6 there, 7 when, 8 fact, 9 truth, 10 other, 11 k, 12 so -/
def b__law_behind_0 : S :=
  (.seq (.asz 12 (.me .get2 (.var 6) (.cons (.ix (.var 0) (.var 11)) (.cons (.cmp .eq (.bin .mod (.bin .fdiv (.var 4) (.bin .shl (.cst (.int 1)) (.var 11))) (.cst (.int 2))) (.cst (.int 1))) .nil)))) 
  (.seq (.asz 10 (.bin .add (.var 10) (.bin .mul (.bin .shl (.cst (.int 1)) (.var 11)) (.bi .int (.conp (.var 12) .nil))))) .nil))
def b__law_behind_1 : S :=
  (.seq (.asz 6 (.bi .dict (.conp (.lc [7, 8, 9] false (.one (.var 5)) (.one (.call 15 (.cons (.var 0) (.cons (.var 7) (.cons (.var 4) .nil))))) (.tup (.cons (.var 8) (.cons (.var 9) .nil)))) .nil))) 
  (.seq (.asz 10 (.cst (.int 0))) 
  (.seq (.wip [7, 8, 9] (.forr [11] true (.rng1 (.bi .len (.conp (.var 0) .nil))) b__law_behind_0 [11, 12])) 
  (.seq (.sti 3 (.var 10) (.cst (.bool true))) .nil))))
def b__law_behind_2 : S :=
  (.seq (.forr [5] true (.one (.ix (.var 1) (.cst (.int 2)))) b__law_behind_1 [5, 6, 7, 8, 9, 10, 11, 12]) .nil)
def d__law_behind : Def := ⟨3, 13,
  (.seq (.asg 3 .dic) 
  (.seq (.forr [4] true (.one (.var 2)) b__law_behind_2 [4, 5, 6, 7, 8, 9, 10, 11, 12]) 
  (.seq (.ret (.bi .tuple (.conp (.bi .sorted (.conp (.pk 3) .nil)) .nil))) .nil)))⟩
/-- 18: _law_named(some, name); slots: 0 some, 1 name, 2 one -/
def d__law_named : Def := ⟨2, 3,
  (.seq (.ret (.ix (.lc [2] true (.one (.var 0)) (.one (.cmp .eq (.ix (.var 2) (.cst (.int 0))) (.var 1))) (.var 2)) (.cst (.int 0)))) .nil)⟩
/-- 19: _law_condition(number, facts); slots: 0 number, 1 facts, 2 one, 3 two, 4 some -/
def d__law_condition : Def := ⟨2, 5,
  (.seq (.asz 2 (.tup (.cons (.cst (.str "fact")) (.cons (.ix (.var 1) (.bin .mod (.bin .fdiv (.var 0) (.cst (.int 8))) (.bi .len (.conp (.var 1) .nil)))) .nil)))) 
  (.seq (.asz 3 (.ix (.lst (.cons (.var 2) (.cons (.tup (.cons (.cst (.str "not")) (.cons (.tup (.cons (.cst (.str "fact")) (.cons (.ix (.var 1) (.bin .mod (.bin .fdiv (.var 0) (.cst (.int 64))) (.bi .len (.conp (.var 1) .nil)))) .nil))) .nil))) .nil))) (.bin .mod (.bin .fdiv (.var 0) (.cst (.int 512))) (.cst (.int 2))))) 
  (.seq (.asz 4 (.lst (.cons (.var 2) (.cons (.tup (.cons (.cst (.str "not")) (.cons (.var 2) .nil))) (.cons (.tup (.cons (.cst (.str "yes")) .nil)) (.cons (.tup (.cons (.cst (.str "both")) (.cons (.var 2) (.cons (.var 3) .nil)))) (.cons (.tup (.cons (.cst (.str "either")) (.cons (.var 3) (.cons (.var 2) .nil)))) (.cons (.tup (.cons (.cst (.str "not")) (.cons (.tup (.cons (.cst (.str "both")) (.cons (.var 3) (.cons (.var 2) .nil)))) .nil))) .nil)))))))) 
  (.seq (.ret (.ix (.bin .add (.var 4) (.lst (.cons (.tup (.cons (.cst (.str "yes")) .nil)) (.cons (.tup (.cons (.cst (.str "either")) (.cons (.tup (.cons (.cst (.str "not")) (.cons (.var 2) .nil))) (.cons (.var 3) .nil)))) .nil)))) (.bin .mod (.var 0) (.cst (.int 8))))) .nil))))⟩
/-- 20: _law_drawn_house(xs); slots: 0 xs, 1 names, 2 facts, 3 deeds, 4 k, 5 ways, 6 j, 7 number, 8 way, 9 i, 10 when, 11 need, 12 looks, 13 firsts, 14 world -/
def b__law_drawn_house_0 : S :=
  (.seq (.asz 10 (.ix (.lst (.cons (.tup (.cons (.cst (.str "yes")) .nil)) (.cons (.call 19 (.cons (.bin .fdiv (.var 7) (.bin .add (.cst (.int 64)) (.var 9))) (.cons (.var 2) .nil))) .nil))) (.bin .mod (.bin .fdiv (.var 7) (.bin .add (.cst (.int 4)) (.var 9))) (.cst (.int 2))))) 
  (.seq (.app 8 (.tup (.cons (.var 10) (.cons (.ix (.var 2) (.bin .mod (.bin .fdiv (.var 7) (.bin .add (.cst (.int 8)) (.var 9))) (.bi .len (.conp (.var 2) .nil)))) (.cons (.cmp .gt (.bin .mod (.bin .fdiv (.var 7) (.bin .add (.cst (.int 32)) (.var 9))) (.cst (.int 3))) (.cst (.int 0))) .nil))))) .nil))
def b__law_drawn_house_1 : S :=
  (.seq (.asz 7 (.ix (.var 0) (.bin .add (.cst (.int 6)) (.bin .mod (.bin .add (.bin .mul (.cst (.int 3)) (.var 4)) (.var 6)) (.cst (.int 8)))))) 
  (.seq (.asg 8 (.lst .nil)) 
  (.seq (.wip [1] (.forr [9] true (.rng1 (.ix (.lst (.cons (.cst (.int 1)) (.cons (.cst (.int 1)) (.cons (.cst (.int 2)) (.cons (.cst (.int 0)) .nil))))) (.bin .mod (.var 7) (.cst (.int 4))))) b__law_drawn_house_0 [9, 10])) 
  (.seq (.frz [8] (.app 5 (.var 8))) .nil))))
def b__law_drawn_house_2 : S :=
  (.seq (.asg 5 (.lst .nil)) 
  (.seq (.wip [1] (.forr [6] true (.rng1 (.ix (.lst (.cons (.cst (.int 1)) (.cons (.cst (.int 1)) (.cons (.cst (.int 2)) (.cons (.cst (.int 3)) (.cons (.cst (.int 1)) (.cons (.cst (.int 1)) (.cons (.cst (.int 2)) (.cons (.cst (.int 4)) .nil))))))))) (.bin .mod (.bin .fdiv (.ix (.var 0) (.bin .add (.cst (.int 2)) (.var 4))) (.cst (.int 16))) (.cst (.int 8))))) b__law_drawn_house_1 [6, 7, 8, 9, 10])) 
  (.seq (.asz 11 (.ix (.lst (.cons (.tup (.cons (.cst (.str "yes")) .nil)) (.cons (.tup (.cons (.cst (.str "yes")) .nil)) (.cons (.tup (.cons (.cst (.str "yes")) .nil)) (.cons (.call 19 (.cons (.bin .fdiv (.ix (.var 0) (.bin .add (.cst (.int 2)) (.var 4))) (.cst (.int 64))) (.cons (.var 2) .nil))) .nil))))) (.bin .mod (.ix (.var 0) (.bin .add (.cst (.int 2)) (.var 4))) (.cst (.int 4))))) 
  (.seq (.frz [5] (.app 3 (.tup (.cons (.ix (.lst (.cons (.cst (.str "go")) (.cons (.cst (.str "open")) (.cons (.cst (.str "a")) (.cons (.cst (.str "wash")) .nil))))) (.var 4)) (.cons (.var 11) (.cons (.var 5) .nil)))))) .nil))))
def b__law_drawn_house_3 : S :=
  (.seq (.asz 11 (.ix (.lst (.cons (.tup (.cons (.cst (.str "yes")) .nil)) (.cons (.tup (.cons (.cst (.str "yes")) .nil)) (.cons (.call 19 (.cons (.bin .fdiv (.ix (.var 0) (.bin .add (.cst (.int 15)) (.var 4))) (.cst (.int 64))) (.cons (.var 2) .nil))) .nil)))) (.bin .mod (.ix (.var 0) (.bin .add (.cst (.int 15)) (.var 4))) (.cst (.int 3))))) 
  (.seq (.app 12 (.tup (.cons (.ix (.lst (.cons (.cst (.str "look")) (.cons (.cst (.str "key")) (.cons (.cst (.str "feel")) .nil)))) (.var 4)) (.cons (.var 11) (.cons (.call 19 (.cons (.bin .fdiv (.ix (.var 0) (.bin .add (.cst (.int 15)) (.var 4))) (.cst (.int 8))) (.cons (.var 2) .nil))) .nil))))) .nil))
def d__law_drawn_house : Def := ⟨1, 15,
  (.seq (.asz 1 (.lst (.cons (.cst (.str "a")) (.cons (.cst (.str "door")) (.cons (.cst (.str "key")) (.cons (.cst (.str "wet")) (.cons (.cst (.str "yes")) (.cons (.cst (.str "x")) .nil)))))))) 
  (.seq (.asz 2 (.sl (.sl (.var 1) (.one (.bin .mod (.ix (.var 0) (.cst (.int 0))) (.cst (.int 3)))) .nil) .nil (.one (.bin .add (.cst (.int 2)) (.bin .mod (.bin .fdiv (.ix (.var 0) (.cst (.int 0))) (.cst (.int 3))) (.cst (.int 3))))))) 
  (.seq (.asg 3 (.lst .nil)) 
  (.seq (.wip [1] (.forr [4] true (.rng1 (.bin .add (.cst (.int 1)) (.bin .mod (.ix (.var 0) (.cst (.int 1))) (.cst (.int 4))))) b__law_drawn_house_2 [4, 5, 6, 7, 8, 9, 10, 11])) 
  (.seq (.asg 12 (.lst .nil)) 
  (.seq (.wip [1, 4, 5, 6, 7, 8, 9, 10, 11] (.forr [4] true (.rng1 (.bin .mod (.ix (.var 0) (.cst (.int 14))) (.cst (.int 4)))) b__law_drawn_house_3 [4, 11])) 
  (.seq (.asz 13 (.lc [14] true (.rng1 (.bin .shl (.cst (.int 1)) (.bi .len (.conp (.var 2) .nil)))) (.one (.cmp .eq (.bin .mod (.bin .fdiv (.ix (.var 0) (.cst (.int 18))) (.bin .add (.cst (.int 1)) (.bin .mul (.var 14) (.cst (.int 7))))) (.cst (.int 3))) (.cst (.int 0)))) (.var 14))) 
  (.seq (.ife (.cmp .eq (.var 13) (.lst .nil)) 
    (.seq (.asz 13 (.lst (.cons (.bin .mod (.ix (.var 0) (.cst (.int 18))) (.bin .shl (.cst (.int 1)) (.bi .len (.conp (.var 2) .nil)))) .nil))) .nil) .nil) 
  (.seq (.frz [3, 12] (.ret (.tup (.cons (.var 2) (.cons (.var 3) (.cons (.var 12) (.cons (.var 13) (.cons (.tup (.cons (.cst (.str "yes")) .nil)) .nil)))))))) .nil)))))))))⟩
/-- 21: _law_crowd(house, xs); slots: 0 house, 1 xs, 2 many, 3 drawn, 4 world -/
def d__law_crowd : Def := ⟨2, 5,
  (.seq (.asz 2 (.bin .shl (.cst (.int 1)) (.bi .len (.conp (.ix (.var 0) (.cst (.int 0))) .nil)))) 
  (.seq (.asz 3 (.bi .tuple (.conp (.lc [4] true (.rng1 (.var 2)) (.one (.cmp .eq (.bin .mod (.bin .fdiv (.ix (.var 1) (.cst (.int 1))) (.bin .add (.cst (.int 1)) (.bin .mul (.cst (.int 5)) (.var 4)))) (.cst (.int 3))) (.cst (.int 0)))) (.var 4)) .nil))) 
  (.seq (.ife (.cmp .eq (.bin .mod (.ix (.var 1) (.cst (.int 0))) (.cst (.int 4))) (.cst (.int 0))) 
    (.seq (.ret (.bi .tuple (.conp (.ix (.var 0) (.cst (.int 3))) .nil))) .nil) .nil) 
  (.seq (.ife (.or (.cmp .eq (.bin .mod (.ix (.var 1) (.cst (.int 0))) (.cst (.int 4))) (.cst (.int 1))) (.one (.cmp .eq (.var 3) (.tup .nil)))) 
    (.seq (.ret (.tup (.cons (.ix (.ix (.var 0) (.cst (.int 3))) (.bin .mod (.ix (.var 1) (.cst (.int 1))) (.bi .len (.conp (.ix (.var 0) (.cst (.int 3))) .nil)))) .nil))) .nil) .nil) 
  (.seq (.ret (.tk 3)) .nil)))))⟩
/-- 22: _law_known(facts, crowds); slots: 0 facts, 1 crowds, 2 found, 3 k, 4 truths, 5 crowd, 6 world -/
def b__law_known_0 : S :=
  (.seq (.asz 4 (.bin .add (.var 4) (.lc [6] true (.one (.var 5)) (.cst (.bool true)) (.bin .mod (.bin .fdiv (.var 6) (.bin .shl (.cst (.int 1)) (.var 3))) (.cst (.int 2)))))) .nil)
def b__law_known_1 : S :=
  (.seq (.asz 4 (.lst .nil)) 
  (.seq (.forr [5] true (.one (.var 1)) b__law_known_0 [5, 6]) 
  (.seq (.ife (.cmp .nin (.cst (.int 0)) (.var 4)) 
    (.seq (.app 2 (.tup (.cons (.cst (.str "fact")) (.cons (.ix (.var 0) (.var 3)) .nil)))) .nil) 
    (.seq (.ife (.cmp .nin (.cst (.int 1)) (.var 4)) 
    (.seq (.app 2 (.tup (.cons (.cst (.str "not")) (.cons (.tup (.cons (.cst (.str "fact")) (.cons (.ix (.var 0) (.var 3)) .nil))) .nil)))) .nil) .nil) .nil)) .nil)))
def d__law_known : Def := ⟨2, 7,
  (.seq (.asg 2 (.lst .nil)) 
  (.seq (.forr [3] true (.rng1 (.bi .len (.conp (.var 0) .nil))) b__law_known_1 [3, 4, 5, 6]) 
  (.seq (.ret (.tk 2)) .nil)))⟩
/-- 23: _law_wished(house, crowds, number); slots: 0 house, 1 crowds, 2 number, 3 wish, 4 one -/
def b__law_wished_0 : S :=
  (.seq (.ife (.cmp .gt (.bin .mod (.var 2) (.cst (.int 4))) (.cst (.int 0))) 
    (.seq (.asz 3 (.tup (.cons (.cst (.str "both")) (.cons (.var 4) (.cons (.var 3) .nil))))) .nil) .nil) 
  (.seq (.asz 2 (.bin .fdiv (.var 2) (.cst (.int 4)))) .nil))
def d__law_wished : Def := ⟨3, 5,
  (.seq (.asz 3 (.tup (.cons (.cst (.str "yes")) .nil))) 
  (.seq (.forr [4] true (.one (.call 22 (.cons (.ix (.var 0) (.cst (.int 0))) (.cons (.var 1) .nil)))) b__law_wished_0 [4]) 
  (.seq (.ret (.bin .add (.sl (.var 0) .nil (.one (.cst (.int 4)))) (.tup (.cons (.var 3) .nil)))) .nil)))⟩
/-- 24: _law_alike(found, due); slots: 0 found, 1 due, 2 k -/
def d__law_alike : Def := ⟨2, 3,
  (.seq (.ife (.or (.cmp .isN (.var 1) (.cst .none)) (.one (.isi (.var 1) [.str]))) 
    (.seq (.ret (.cmp .eq (.var 0) (.var 1))) .nil) .nil) 
  (.seq (.ife (.isi (.var 1) [.tuple, .list]) 
    (.seq (.ife (.or (.cmp .ne (.isi (.var 0) [.tuple]) (.isi (.var 1) [.tuple])) (.one (.not (.isi (.var 0) [.tuple, .list])))) 
    (.seq (.ret (.cst (.bool false))) .nil) .nil) 
    (.seq (.ife (.cmp .ne (.bi .len (.conp (.var 0) .nil)) (.bi .len (.conp (.var 1) .nil))) 
    (.seq (.ret (.cst (.bool false))) .nil) .nil) 
    (.seq (.ret (.cmp .eq (.lc [2] true (.rng1 (.bi .len (.conp (.var 1) .nil))) (.one (.not (.call 24 (.cons (.ix (.var 0) (.var 2)) (.cons (.ix (.var 1) (.var 2)) .nil))))) (.var 2)) (.lst .nil))) .nil))) .nil) 
  (.seq (.ret (.and (.isi (.var 0) [.int]) (.and (.not (.isi (.var 0) [.bool])) (.one (.cmp .eq (.var 0) (.var 1)))))) .nil)))⟩
/-- 25: _law_row_walked(house, crowd, row); slots: 0 house, 1 crowd, 2 row, 3 done, 4 name, 5 deed -/
def b__law_row_walked_0 : S :=
  (.seq (.asz 5 (.call 18 (.cons (.ix (.var 0) (.cst (.int 1))) (.cons (.var 4) .nil)))) 
  (.seq (.ife (.not (.call 16 (.cons (.ix (.var 0) (.cst (.int 0))) (.cons (.ix (.var 5) (.cst (.int 1))) (.cons (.var 1) .nil))))) 
    (.seq (.frz [3] (.ret (.tup (.cons (.var 3) (.cons (.var 1) .nil))))) .nil) .nil) 
  (.seq (.asz 1 (.call 17 (.cons (.ix (.var 0) (.cst (.int 0))) (.cons (.var 5) (.cons (.var 1) .nil))))) 
  (.seq (.app 3 (.var 4)) .nil))))
def d__law_row_walked : Def := ⟨3, 6,
  (.seq (.asg 3 (.lst .nil)) 
  (.seq (.forr [4] true (.one (.var 2)) b__law_row_walked_0 [4, 5]) 
  (.seq (.frz [3] (.ret (.tup (.cons (.var 3) (.cons (.var 1) .nil))))) .nil)))⟩
/-- 26: _law_goes_well(house, crowd, row); slots: 0 house, 1 crowd, 2 row, 3 done, 4 last -/
def d__law_goes_well : Def := ⟨3, 5,
  (.seq (.unp [3, 4] (.call 25 (.cons (.var 0) (.cons (.var 1) (.cons (.var 2) .nil))))) 
  (.seq (.ret (.and (.cmp .eq (.var 3) (.bi .list (.conp (.var 2) .nil))) (.one (.call 16 (.cons (.ix (.var 0) (.cst (.int 0))) (.cons (.ix (.var 0) (.cst (.int 4))) (.cons (.var 4) .nil))))))) .nil))⟩
/-- 27: _law_copy(house); slots: 0 house, 1 deeds, 2 way, 3 name, 4 need, 5 ways -/
def d__law_copy : Def := ⟨1, 6,
  (.seq (.asz 1 (.lc [3, 4, 5] false (.one (.ix (.var 0) (.cst (.int 1)))) (.cst (.bool true)) (.tup (.cons (.var 3) (.cons (.var 4) (.cons (.lc [2] true (.one (.var 5)) (.cst (.bool true)) (.bi .list (.conp (.var 2) .nil))) .nil)))))) 
  (.seq (.ret (.tup (.cons (.bi .list (.conp (.ix (.var 0) (.cst (.int 0))) .nil)) (.cons (.var 1) (.cons (.bi .list (.conp (.ix (.var 0) (.cst (.int 2))) .nil)) (.cons (.bi .list (.conp (.ix (.var 0) (.cst (.int 3))) .nil)) (.cons (.ix (.var 0) (.cst (.int 4))) .nil))))))) .nil))⟩
/-- 28: _law_first_less(house, crowd, row); slots: 0 house, 1 crowd, 2 row, 3 k -/
def b__law_first_less_0 : S :=
  (.seq (.ife (.call 26 (.cons (.var 0) (.cons (.var 1) (.cons (.bin .add (.sl (.var 2) .nil (.one (.var 3))) (.sl (.var 2) (.one (.bin .add (.var 3) (.cst (.int 1)))) .nil)) .nil)))) 
    (.seq (.ret (.bin .add (.sl (.var 2) .nil (.one (.var 3))) (.sl (.var 2) (.one (.bin .add (.var 3) (.cst (.int 1)))) .nil))) .nil) .nil) .nil)
def d__law_first_less : Def := ⟨3, 4,
  (.seq (.forr [3] true (.rng1 (.bi .len (.conp (.var 2) .nil))) b__law_first_less_0 [3]) 
  (.seq (.ret (.cst .none)) .nil))⟩
/-- 29: law(script); slots: 0 script, 1 k, 2 xs, 3 house, 4 crowd, 5 drawn, 6 j, 7 great, 8 row, 9 last, 10 due, 11 less, 12 given, 13 handed, 14 found -/
def b_law_0 : S :=
  (.seq (.asz 10 (.var 11)) 
  (.seq (.asz 11 (.call 28 (.cons (.var 3) (.cons (.var 4) (.cons (.var 10) .nil))))) .nil))
def b_law_1 : S :=
  (.seq (.asz 2 (.call 14 (.cons (.call 13 (.cons (.var 0) (.cons (.var 1) .nil))) (.cons (.cst (.int 30)) (.cons (.bin .pow (.cst (.int 10)) (.cst (.int 9))) .nil))))) 
  (.seq (.asz 3 (.call 20 (.cons (.var 2) .nil))) 
  (.seq (.asz 4 (.call 21 (.cons (.var 3) (.cons (.lst (.cons (.ix (.var 2) (.cst (.int 19))) (.cons (.bin .add (.ix (.var 2) (.cst (.int 18))) (.bin .mul (.cst (.int 7)) (.ix (.var 2) (.cst (.int 17))))) .nil))) .nil)))) 
  (.seq (.asz 5 (.lc [6] true (.rng1 (.bin .mod (.ix (.var 2) (.cst (.int 28))) (.cst (.int 8)))) (.cst (.bool true)) (.ix (.ix (.ix (.var 3) (.cst (.int 1))) (.bin .mod (.ix (.var 2) (.bin .add (.cst (.int 20)) (.var 6))) (.bi .len (.conp (.ix (.var 3) (.cst (.int 1))) .nil)))) (.cst (.int 0))))) 
  (.seq (.asz 7 (.and (.cmp .eq (.var 1) (.cst (.int 0))) (.one (.cmp .eq (.bin .mod (.ix (.var 2) (.cst (.int 27))) (.cst (.int 8))) (.cst (.int 3)))))) 
  (.seq (.ife (.var 7) 
    (.seq (.asz 4 (.sl (.var 4) .nil (.one (.cst (.int 1))))) 
    (.seq (.asz 5 (.lc [6] true (.rng1 (.bin .add (.cst (.int 9)) (.bin .mod (.ix (.var 2) (.cst (.int 28))) (.cst (.int 22))))) (.cst (.bool true)) (.ix (.ix (.ix (.var 3) (.cst (.int 1))) (.bin .mod (.bin .fdiv (.ix (.var 2) (.bin .mod (.var 6) (.cst (.int 30)))) (.bin .add (.cst (.int 1)) (.var 6))) (.bi .len (.conp (.ix (.var 3) (.cst (.int 1))) .nil)))) (.cst (.int 0))))) .nil)) .nil) 
  (.seq (.unp [8, 9] (.call 25 (.cons (.var 3) (.cons (.var 4) (.cons (.var 5) .nil))))) 
  (.seq (.asz 3 (.call 23 (.cons (.var 3) (.cons (.lst (.cons (.var 9) .nil)) (.cons (.ix (.var 2) (.cst (.int 29))) .nil))))) 
  (.seq (.asz 10 (.bi .list (.conp (.var 8) .nil))) 
  (.seq (.asz 11 (.call 28 (.cons (.var 3) (.cons (.var 4) (.cons (.var 10) .nil))))) 
  (.seq (.wip [2, 5, 6, 9] (.whl (.cmp .notN (.var 11) (.cst .none)) b_law_0 [])) 
  (.seq (.asz 12 (.call 27 (.cons (.var 3) .nil))) 
  (.seq (.asz 13 (.bi .list (.conp (.var 8) .nil))) 
  (.seq (.asg 14 (.call 12 (.cons (.var 12) (.cons (.var 4) (.cons (.var 13) .nil))))) 
  (.seq (.ife (.or (.not (.lend [14] (.call 24 (.cons (.var 14) (.cons (.var 10) .nil))))) (.or (.cmp .ne (.var 12) (.var 3)) (.one (.cmp .ne (.var 13) (.var 8))))) 
    (.seq (.ret (.cst (.bool false))) .nil) .nil) 
  (.seq (.app 14 (.cst (.str "go"))) 
  (.seq (.ife (.or (.and (.not (.var 7)) (.one (.not (.call 24 (.cons (.call 12 (.cons (.var 12) (.cons (.var 4) (.cons (.var 13) .nil)))) (.cons (.var 10) .nil)))))) (.one (.cmp .ne (.var 13) (.var 8)))) 
    (.seq (.ret (.cst (.bool false))) .nil) .nil) .nil)))))))))))))))))
def d_law : Def := ⟨1, 15,
  (.seq (.forr [1] true (.rng1 (.bi .max (.conp (.cst (.int 1)) (.conp (.bi .min (.conp (.bi .len (.conp (.var 0) .nil)) (.conp (.cst (.int 6)) .nil))) .nil)))) b_law_1 [1, 2, 3, 4, 5, 6, 7, 8, 9, 10, 11, 12, 13, 14]) 
  (.seq (.ret (.cst (.bool true))) .nil))⟩
/-- 30: need_look(house, name); slots: 0 house, 1 name, 2 look -/
def b_need_look_0 : S :=
  (.seq (.ife (.cmp .eq (.ix (.var 2) (.cst (.int 0))) (.var 1)) 
    (.seq (.ret (.tk 2)) .nil) .nil) .nil)
def d_need_look : Def := ⟨2, 3,
  (.seq (.forr [2] true (.one (.ix (.var 0) (.cst (.int 2)))) b_need_look_0 [2]) 
  (.seq (.rai 4) .nil))⟩
/-- 31: sides_by(house, look, crowd); slots: 0 house, 1 look, 2 crowd, 3 yes, 4 world -/
def d_sides_by : Def := ⟨3, 5,
  (.seq (.asz 3 (.lc [4] true (.one (.var 2)) (.one (.call 0 (.cons (.ix (.var 0) (.cst (.int 0))) (.cons (.ix (.var 1) (.cst (.int 2))) (.cons (.var 4) .nil))))) (.var 4))) 
  (.seq (.ret (.tup (.cons (.bi .tuple (.conp (.var 3) .nil)) (.cons (.bi .tuple (.conp (.lc [4] true (.one (.var 2)) (.one (.cmp .nin (.var 4) (.var 3))) (.var 4)) .nil)) .nil)))) .nil))⟩
/-- 32: trees_within(tree); slots: 0 tree -/
def d_trees_within : Def := ⟨1, 1,
  (.seq (.ife (.cmp .eq (.ix (.var 0) (.cst (.int 0))) (.cst (.str "end"))) 
    (.seq (.ret (.lst .nil)) .nil) .nil) 
  (.seq (.ret (.bi .list (.conp (.sl (.var 0) (.one (.cst (.int 2))) .nil) .nil))) .nil))⟩
/-- 33: all_parts(tree); slots: 0 tree, 1 found, 2 pile, 3 one -/
def b_all_parts_0 : S :=
  (.seq (.pop 3 2) 
  (.seq (.app 1 (.var 3)) 
  (.seq (.ext 2 (.rev (.call 32 (.cons (.var 3) .nil)))) .nil)))
def d_all_parts : Def := ⟨1, 4,
  (.seq (.asg 1 (.lst .nil)) 
  (.seq (.asg 2 (.lst (.cons (.var 0) .nil))) 
  (.seq (.whl (.cmp .ne (.pk 2) (.lst .nil)) b_all_parts_0 [3]) 
  (.seq (.ret (.tk 1)) .nil))))⟩
/-- 34: need_names(house, tree); slots: 0 house, 1 tree, 2 part -/
def b_need_names_0 : S :=
  (.seq (.ife (.cmp .eq (.ix (.var 2) (.cst (.int 0))) (.cst (.str "do"))) 
    (.seq (.exx (.call 3 (.cons (.var 0) (.cons (.ix (.var 2) (.cst (.int 1))) .nil)))) .nil) 
    (.seq (.ife (.cmp .eq (.ix (.var 2) (.cst (.int 0))) (.cst (.str "see"))) 
    (.seq (.exx (.call 30 (.cons (.var 0) (.cons (.ix (.var 2) (.cst (.int 1))) .nil)))) .nil) .nil) .nil)) .nil)
def d_need_names : Def := ⟨2, 3,
  (.seq (.forr [2] true (.one (.call 33 (.cons (.var 1) .nil))) b_need_names_0 [2]) .nil)⟩
/-- 35: barring(house, need, crowd); slots: 0 house, 1 need, 2 crowd, 3 world -/
def d_barring : Def := ⟨3, 4,
  (.seq (.ret (.lc [3] true (.one (.var 2)) (.one (.not (.call 0 (.cons (.ix (.var 0) (.cst (.int 0))) (.cons (.var 1) (.cons (.var 3) .nil)))))) (.var 3))) .nil)⟩
/-- 36: parts_walked(house, crowd, tree, way); slots: 0 house, 1 crowd, 2 tree, 3 way, 4 deed, 5 look, 6 yes, 7 no, 8 sides, 9 side -/
def d_parts_walked : Def := ⟨4, 10,
  (.seq (.ife (.cmp .eq (.ix (.var 2) (.cst (.int 0))) (.cst (.str "end"))) 
    (.seq (.ret (.tup (.cons (.ix (.var 0) (.cst (.int 4))) (.cons (.lst .nil) .nil)))) .nil) .nil) 
  (.seq (.ife (.cmp .eq (.ix (.var 2) (.cst (.int 0))) (.cst (.str "do"))) 
    (.seq (.asz 4 (.call 3 (.cons (.var 0) (.cons (.ix (.var 2) (.cst (.int 1))) .nil)))) 
    (.seq (.ret (.tup (.cons (.ix (.var 4) (.cst (.int 1))) (.cons (.lst (.cons (.tup (.cons (.var 4) (.cons (.ix (.var 2) (.cst (.int 2))) (.cons (.bin .add (.var 3) (.lst (.cons (.ix (.var 2) (.cst (.int 1))) .nil))) (.cons (.cst .none) .nil))))) .nil)) .nil)))) .nil)) .nil) 
  (.seq (.asz 5 (.call 30 (.cons (.var 0) (.cons (.ix (.var 2) (.cst (.int 1))) .nil)))) 
  (.seq (.unp [6, 7] (.call 31 (.cons (.var 0) (.cons (.var 5) (.cons (.var 1) .nil))))) 
  (.seq (.asz 8 (.lst (.cons (.tup (.cons (.cst .none) (.cons (.ix (.var 2) (.cst (.int 2))) (.cons (.bin .add (.var 3) (.lst (.cons (.tup (.cons (.ix (.var 2) (.cst (.int 1))) (.cons (.cst (.bool true)) .nil))) .nil))) (.cons (.var 6) .nil))))) (.cons (.tup (.cons (.cst .none) (.cons (.ix (.var 2) (.cst (.int 3))) (.cons (.bin .add (.var 3) (.lst (.cons (.tup (.cons (.ix (.var 2) (.cst (.int 1))) (.cons (.cst (.bool false)) .nil))) .nil))) (.cons (.var 7) .nil))))) .nil)))) 
  (.seq (.ret (.tup (.cons (.ix (.var 5) (.cst (.int 1))) (.cons (.lc [9] true (.one (.var 8)) (.one (.cmp .ne (.ix (.var 9) (.cst (.int 3))) (.tup .nil))) (.var 9)) .nil)))) .nil))))))⟩
/-- 37: tree_goes(house, crowd, tree); slots: 0 house, 1 crowd, 2 tree, 3 ends, 4 pile, 5 here, 6 one, 7 way, 8 need, 9 behind, 10 bars, 11 deed, 12 other, 13 longer, 14 side, 15 there -/
def b_tree_goes_0 : S :=
  (.seq (.asz 15 (.var 14)) 
  (.seq (.ife (.cmp .notN (.var 11) (.cst .none)) 
    (.seq (.asz 15 (.call 7 (.cons (.var 0) (.cons (.var 11) (.cons (.var 5) .nil))))) .nil) .nil) 
  (.seq (.app 4 (.tup (.cons (.var 15) (.cons (.var 12) (.cons (.var 13) .nil))))) .nil)))
def b_tree_goes_1 : S :=
  (.seq (.popu [5, 6, 7] 4) 
  (.seq (.unp [8, 9] (.call 36 (.cons (.var 0) (.cons (.var 5) (.cons (.var 6) (.cons (.var 7) .nil)))))) 
  (.seq (.asz 10 (.call 35 (.cons (.var 0) (.cons (.var 8) (.cons (.var 5) .nil))))) 
  (.seq (.ife (.cmp .ne (.var 10) (.lst .nil)) 
    (.seq (.ret (.tup (.cons (.ix (.lst (.cons (.cst (.str "stuck")) (.cons (.cst (.str "ends")) .nil))) (.bi .int (.conp (.cmp .eq (.ix (.var 6) (.cst (.int 0))) (.cst (.str "end"))) .nil))) (.cons (.var 7) (.cons (.ix (.var 10) (.cst (.int 0))) .nil))))) .nil) .nil) 
  (.seq (.ife (.cmp .eq (.ix (.var 6) (.cst (.int 0))) (.cst (.str "end"))) 
    (.seq (.app 3 (.var 5)) .nil) .nil) 
  (.seq (.wip [6, 7, 8, 10] (.forr [11, 12, 13, 14] false (.one (.rev (.var 9))) b_tree_goes_0 [11, 12, 13, 14, 15])) .nil))))))
def d_tree_goes : Def := ⟨3, 16,
  (.seq (.exx (.call 5 (.cons (.var 0) (.cons (.var 1) .nil)))) 
  (.seq (.exx (.call 34 (.cons (.var 0) (.cons (.var 2) .nil)))) 
  (.seq (.asg 3 (.lst .nil)) 
  (.seq (.asg 4 (.lst (.cons (.tup (.cons (.var 1) (.cons (.var 2) (.cons (.lst .nil) .nil)))) .nil))) 
  (.seq (.whl (.cmp .ne (.pk 4) (.lst .nil)) b_tree_goes_1 [5, 6, 7, 8, 9, 10, 11, 12, 13, 14, 15]) 
  (.seq (.frz [3] (.ret (.tup (.cons (.cst (.str "well")) (.cons (.var 3) .nil))))) .nil))))))⟩
/-- 38: trees_without(tree); slots: 0 tree, 1 less, 2 found -/
def d_trees_without : Def := ⟨1, 3,
  (.seq (.ife (.cmp .eq (.ix (.var 0) (.cst (.int 0))) (.cst (.str "end"))) 
    (.seq (.ret (.lst .nil)) .nil) .nil) 
  (.seq (.ife (.cmp .eq (.ix (.var 0) (.cst (.int 0))) (.cst (.str "do"))) 
    (.seq (.ret (.bin .add (.lst (.cons (.ix (.var 0) (.cst (.int 2))) .nil)) (.lc [1] true (.one (.call 38 (.cons (.ix (.var 0) (.cst (.int 2))) .nil))) (.cst (.bool true)) (.tup (.cons (.cst (.str "do")) (.cons (.ix (.var 0) (.cst (.int 1))) (.cons (.var 1) .nil))))))) .nil) .nil) 
  (.seq (.asg 2 (.lst (.cons (.ix (.var 0) (.cst (.int 2))) (.cons (.ix (.var 0) (.cst (.int 3))) .nil)))) 
  (.seq (.ext 2 (.lc [1] true (.one (.call 38 (.cons (.ix (.var 0) (.cst (.int 2))) .nil))) (.cst (.bool true)) (.tup (.cons (.cst (.str "see")) (.cons (.ix (.var 0) (.cst (.int 1))) (.cons (.var 1) (.cons (.ix (.var 0) (.cst (.int 3))) .nil))))))) 
  (.seq (.ext 2 (.lc [1] true (.one (.call 38 (.cons (.ix (.var 0) (.cst (.int 3))) .nil))) (.cst (.bool true)) (.tup (.cons (.cst (.str "see")) (.cons (.ix (.var 0) (.cst (.int 1))) (.cons (.ix (.var 0) (.cst (.int 2))) (.cons (.var 1) .nil))))))) 
  (.seq (.ret (.tk 2)) .nil))))))⟩
/-- 39: shorter_tree(house, crowd, tree); slots: 0 house, 1 crowd, 2 tree, 3 less -/
def b_shorter_tree_0 : S :=
  (.seq (.ife (.cmp .eq (.ix (.call 37 (.cons (.var 0) (.cons (.var 1) (.cons (.var 3) .nil)))) (.cst (.int 0))) (.cst (.str "well"))) 
    (.seq (.ret (.tk 3)) .nil) .nil) .nil)
def d_shorter_tree : Def := ⟨3, 4,
  (.seq (.forr [3] true (.one (.call 38 (.cons (.var 2) .nil))) b_shorter_tree_0 [3]) 
  (.seq (.ret (.cst .none)) .nil))⟩
/-- 40: need_good_tree(house, crowd, tree); slots: 0 house, 1 crowd, 2 tree -/
def d_need_good_tree : Def := ⟨3, 3,
  (.seq (.ife (.cmp .ne (.ix (.call 37 (.cons (.var 0) (.cons (.var 1) (.cons (.var 2) .nil)))) (.cst (.int 0))) (.cst (.str "well"))) 
    (.seq (.rai 3) .nil) .nil) .nil)⟩
/-- 41: tree_made_less(house, crowd, tree); slots: 0 house, 1 crowd, 2 tree, 3 found, 4 less -/
def b_tree_made_less_0 : S :=
  (.seq (.asz 3 (.var 4)) 
  (.seq (.asz 4 (.call 39 (.cons (.var 0) (.cons (.var 1) (.cons (.var 3) .nil))))) .nil))
def d_tree_made_less : Def := ⟨3, 5,
  (.seq (.exx (.call 40 (.cons (.var 0) (.cons (.var 1) (.cons (.var 2) .nil))))) 
  (.seq (.asz 3 (.var 2)) 
  (.seq (.asz 4 (.call 39 (.cons (.var 0) (.cons (.var 1) (.cons (.var 3) .nil))))) 
  (.seq (.whl (.cmp .notN (.var 4) (.cst .none)) b_tree_made_less_0 []) 
  (.seq (.ret (.tk 3)) .nil)))))⟩
/-- 42: _law_sides(house, look, crowd); slots: 0 house, 1 look, 2 crowd, 3 yes, 4 world -/
def d__law_sides : Def := ⟨3, 5,
  (.seq (.asz 3 (.bi .tuple (.conp (.lc [4] true (.one (.var 2)) (.one (.call 15 (.cons (.ix (.var 0) (.cst (.int 0))) (.cons (.ix (.var 1) (.cst (.int 2))) (.cons (.var 4) .nil))))) (.var 4)) .nil))) 
  (.seq (.ret (.tup (.cons (.var 3) (.cons (.bi .tuple (.conp (.lc [4] true (.one (.var 2)) (.one (.cmp .nin (.var 4) (.var 3))) (.var 4)) .nil)) .nil)))) .nil))⟩
/-- 43: _law_grown(house, crowd, xs, at, deep); slots: 0 house, 1 crowd, 2 xs, 3 at, 4 deep, 5 kind, 6 rest, 7 deed, 8 tree, 9 ends, 10 look, 11 sides, 12 yes, 13 no, 14 others -/
def d__law_grown : Def := ⟨5, 15,
  (.seq (.asz 5 (.bin .mod (.ix (.var 2) (.bin .mod (.var 3) (.bi .len (.conp (.var 2) .nil)))) (.cst (.int 5)))) 
  (.seq (.asz 6 (.bin .fdiv (.ix (.var 2) (.bin .mod (.var 3) (.bi .len (.conp (.var 2) .nil)))) (.cst (.int 5)))) 
  (.seq (.ife (.or (.cmp .eq (.var 4) (.cst (.int 0))) (.one (.cmp .eq (.var 5) (.cst (.int 0))))) 
    (.seq (.ret (.tup (.cons (.tup (.cons (.cst (.str "end")) .nil)) (.cons (.rep (.cons (.var 1) .nil) (.bi .int (.conp (.cmp .ne (.var 1) (.tup .nil)) .nil))) .nil)))) .nil) .nil) 
  (.seq (.ife (.or (.cmp .lt (.var 5) (.cst (.int 3))) (.one (.cmp .eq (.ix (.var 0) (.cst (.int 2))) (.lst .nil)))) 
    (.seq (.asz 7 (.ix (.ix (.var 0) (.cst (.int 1))) (.bin .mod (.var 6) (.bi .len (.conp (.ix (.var 0) (.cst (.int 1))) .nil))))) 
    (.seq (.ife (.not (.call 16 (.cons (.ix (.var 0) (.cst (.int 0))) (.cons (.ix (.var 7) (.cst (.int 1))) (.cons (.var 1) .nil))))) 
    (.seq (.ret (.tup (.cons (.tup (.cons (.cst (.str "end")) .nil)) (.cons (.rep (.cons (.var 1) .nil) (.bi .int (.conp (.cmp .ne (.var 1) (.tup .nil)) .nil))) .nil)))) .nil) .nil) 
    (.seq (.unp [8, 9] (.call 43 (.cons (.var 0) (.cons (.call 17 (.cons (.ix (.var 0) (.cst (.int 0))) (.cons (.var 7) (.cons (.var 1) .nil)))) (.cons (.var 2) (.cons (.bin .add (.bin .mul (.cst (.int 2)) (.var 3)) (.cst (.int 1))) (.cons (.bin .sub (.var 4) (.cst (.int 1))) .nil))))))) 
    (.seq (.ret (.tup (.cons (.tup (.cons (.cst (.str "do")) (.cons (.ix (.var 7) (.cst (.int 0))) (.cons (.var 8) .nil)))) (.cons (.var 9) .nil)))) .nil)))) .nil) 
  (.seq (.asz 10 (.ix (.ix (.var 0) (.cst (.int 2))) (.bin .mod (.var 6) (.bi .len (.conp (.ix (.var 0) (.cst (.int 2))) .nil))))) 
  (.seq (.ife (.not (.call 16 (.cons (.ix (.var 0) (.cst (.int 0))) (.cons (.ix (.var 10) (.cst (.int 1))) (.cons (.var 1) .nil))))) 
    (.seq (.ret (.tup (.cons (.tup (.cons (.cst (.str "end")) .nil)) (.cons (.rep (.cons (.var 1) .nil) (.bi .int (.conp (.cmp .ne (.var 1) (.tup .nil)) .nil))) .nil)))) .nil) .nil) 
  (.seq (.asz 11 (.call 42 (.cons (.var 0) (.cons (.var 10) (.cons (.var 1) .nil))))) 
  (.seq (.unp [12, 9] (.call 43 (.cons (.var 0) (.cons (.ix (.var 11) (.cst (.int 0))) (.cons (.var 2) (.cons (.bin .add (.bin .mul (.cst (.int 2)) (.var 3)) (.cst (.int 1))) (.cons (.bin .sub (.var 4) (.cst (.int 1))) .nil))))))) 
  (.seq (.unp [13, 14] (.call 43 (.cons (.var 0) (.cons (.ix (.var 11) (.cst (.int 1))) (.cons (.var 2) (.cons (.bin .add (.bin .mul (.cst (.int 2)) (.var 3)) (.cst (.int 2))) (.cons (.bin .sub (.var 4) (.cst (.int 1))) .nil))))))) 
  (.seq (.ret (.tup (.cons (.tup (.cons (.cst (.str "see")) (.cons (.ix (.var 10) (.cst (.int 0))) (.cons (.var 12) (.cons (.var 13) .nil))))) (.cons (.bin .add (.var 9) (.var 14)) .nil)))) .nil))))))))))⟩
/-- 44: _law_tree_well(house, crowd, tree); slots: 0 house, 1 crowd, 2 tree, 3 deed, 4 look, 5 yes, 6 no -/
def d__law_tree_well : Def := ⟨3, 7,
  (.seq (.ife (.cmp .eq (.var 1) (.tup .nil)) 
    (.seq (.ret (.cst (.bool true))) .nil) .nil) 
  (.seq (.ife (.cmp .eq (.ix (.var 2) (.cst (.int 0))) (.cst (.str "end"))) 
    (.seq (.ret (.call 16 (.cons (.ix (.var 0) (.cst (.int 0))) (.cons (.ix (.var 0) (.cst (.int 4))) (.cons (.var 1) .nil))))) .nil) .nil) 
  (.seq (.ife (.cmp .eq (.ix (.var 2) (.cst (.int 0))) (.cst (.str "do"))) 
    (.seq (.asz 3 (.call 18 (.cons (.ix (.var 0) (.cst (.int 1))) (.cons (.ix (.var 2) (.cst (.int 1))) .nil)))) 
    (.seq (.ife (.not (.call 16 (.cons (.ix (.var 0) (.cst (.int 0))) (.cons (.ix (.var 3) (.cst (.int 1))) (.cons (.var 1) .nil))))) 
    (.seq (.ret (.cst (.bool false))) .nil) .nil) 
    (.seq (.ret (.call 44 (.cons (.var 0) (.cons (.call 17 (.cons (.ix (.var 0) (.cst (.int 0))) (.cons (.var 3) (.cons (.var 1) .nil)))) (.cons (.ix (.var 2) (.cst (.int 2))) .nil))))) .nil))) .nil) 
  (.seq (.asz 4 (.call 18 (.cons (.ix (.var 0) (.cst (.int 2))) (.cons (.ix (.var 2) (.cst (.int 1))) .nil)))) 
  (.seq (.ife (.not (.call 16 (.cons (.ix (.var 0) (.cst (.int 0))) (.cons (.ix (.var 4) (.cst (.int 1))) (.cons (.var 1) .nil))))) 
    (.seq (.ret (.cst (.bool false))) .nil) .nil) 
  (.seq (.unp [5, 6] (.call 42 (.cons (.var 0) (.cons (.var 4) (.cons (.var 1) .nil))))) 
  (.seq (.ret (.and (.call 44 (.cons (.var 0) (.cons (.var 5) (.cons (.ix (.var 2) (.cst (.int 2))) .nil)))) (.one (.call 44 (.cons (.var 0) (.cons (.var 6) (.cons (.ix (.var 2) (.cst (.int 3))) .nil))))))) .nil)))))))⟩
/-- 45: _law_less_at(tree, way, side); slots: 0 tree, 1 way, 2 side, 3 at -/
def d__law_less_at : Def := ⟨3, 4,
  (.seq (.ife (.cmp .eq (.var 1) (.lst .nil)) 
    (.seq (.ret (.ix (.var 0) (.bin .add (.cst (.int 2)) (.var 2)))) .nil) .nil) 
  (.seq (.asz 3 (.ix (.var 1) (.cst (.int 0)))) 
  (.seq (.ret (.bin .add (.bin .add (.sl (.var 0) .nil (.one (.var 3))) (.tup (.cons (.call 45 (.cons (.ix (.var 0) (.var 3)) (.cons (.sl (.var 1) (.one (.cst (.int 1))) .nil) (.cons (.var 2) .nil)))) .nil))) (.sl (.var 0) (.one (.bin .add (.var 3) (.cst (.int 1)))) .nil))) .nil)))⟩
/-- 46: _law_ways(tree); slots: 0 tree, 1 found, 2 at, 3 way -/
def b__law_ways_0 : S :=
  (.seq (.asz 1 (.bin .add (.var 1) (.lc [3] true (.one (.call 46 (.cons (.ix (.var 0) (.var 2)) .nil))) (.cst (.bool true)) (.bin .add (.lst (.cons (.var 2) .nil)) (.var 3))))) .nil)
def d__law_ways : Def := ⟨1, 4,
  (.seq (.ife (.cmp .eq (.ix (.var 0) (.cst (.int 0))) (.cst (.str "end"))) 
    (.seq (.ret (.lst .nil)) .nil) .nil) 
  (.seq (.asz 1 (.lst (.cons (.lst .nil) .nil))) 
  (.seq (.forr [2] true (.rng2 (.cst (.int 2)) (.bi .len (.conp (.var 0) .nil))) b__law_ways_0 [2, 3]) 
  (.seq (.ret (.tk 1)) .nil))))⟩
/-- 47: _law_part(tree, way); slots: 0 tree, 1 way, 2 at -/
def b__law_part_0 : S :=
  (.seq (.asz 0 (.ix (.var 0) (.var 2))) .nil)
def d__law_part : Def := ⟨2, 3,
  (.seq (.forr [2] true (.one (.var 1)) b__law_part_0 [2]) 
  (.seq (.ret (.tk 0)) .nil))⟩
/-- 48: _law_first_less(house, crowd, tree); slots: 0 house, 1 crowd, 2 tree, 3 way, 4 side, 5 less -/
def b__law_first_less_48_0 : S :=
  (.seq (.asz 5 (.call 45 (.cons (.var 2) (.cons (.var 3) (.cons (.var 4) .nil))))) 
  (.seq (.ife (.call 44 (.cons (.var 0) (.cons (.var 1) (.cons (.var 5) .nil)))) 
    (.seq (.ret (.tk 5)) .nil) .nil) .nil))
def b__law_first_less_48_1 : S :=
  (.seq (.forr [4] true (.rng1 (.bin .sub (.bi .len (.conp (.call 47 (.cons (.var 2) (.cons (.var 3) .nil))) .nil)) (.cst (.int 2)))) b__law_first_less_48_0 [4, 5]) .nil)
def d__law_first_less_48 : Def := ⟨3, 6,
  (.seq (.forr [3] true (.one (.call 46 (.cons (.var 2) .nil))) b__law_first_less_48_1 [3, 4, 5]) 
  (.seq (.ret (.cst .none)) .nil))⟩
/-- 49: _law_made_less(house, crowd, tree); slots: 0 house, 1 crowd, 2 tree, 3 less -/
def b__law_made_less_0 : S :=
  (.seq (.asz 2 (.var 3)) 
  (.seq (.asz 3 (.call 48 (.cons (.var 0) (.cons (.var 1) (.cons (.var 2) .nil))))) .nil))
def d__law_made_less : Def := ⟨3, 4,
  (.seq (.asz 3 (.call 48 (.cons (.var 0) (.cons (.var 1) (.cons (.var 2) .nil))))) 
  (.seq (.whl (.cmp .notN (.var 3) (.cst .none)) b__law_made_less_0 []) 
  (.seq (.ret (.tk 2)) .nil)))⟩
/-- 50: _law_ahead(house, crowd, xs, many); slots: 0 house, 1 crowd, 2 xs, 3 many, 4 done, 5 j, 6 deed -/
def b__law_ahead_0 : S :=
  (.seq (.asz 6 (.ix (.ix (.var 0) (.cst (.int 1))) (.bin .mod (.bin .fdiv (.ix (.var 2) (.bin .mod (.var 5) (.cst (.int 14)))) (.bin .add (.cst (.int 1)) (.var 5))) (.bi .len (.conp (.ix (.var 0) (.cst (.int 1))) .nil))))) 
  (.seq (.ife (.not (.call 16 (.cons (.ix (.var 0) (.cst (.int 0))) (.cons (.ix (.var 6) (.cst (.int 1))) (.cons (.var 1) .nil))))) 
    (.seq (.frz [4] (.ret (.tup (.cons (.var 4) (.cons (.var 1) .nil))))) .nil) .nil) 
  (.seq (.asz 1 (.call 17 (.cons (.ix (.var 0) (.cst (.int 0))) (.cons (.var 6) (.cons (.var 1) .nil))))) 
  (.seq (.app 4 (.ix (.var 6) (.cst (.int 0)))) .nil))))
def d__law_ahead : Def := ⟨4, 7,
  (.seq (.asg 4 (.lst .nil)) 
  (.seq (.forr [5] true (.rng1 (.var 3)) b__law_ahead_0 [5, 6]) 
  (.seq (.frz [4] (.ret (.tup (.cons (.var 4) (.cons (.var 1) .nil))))) .nil)))⟩
/-- 51: law(script); slots: 0 script, 1 k, 2 xs, 3 house, 4 crowd, 5 ahead, 6 start, 7 tree, 8 ends, 9 name, 10 due, 11 given, 12 turn -/
def b_law_51_0 : S :=
  (.seq (.asz 7 (.tup (.cons (.cst (.str "do")) (.cons (.var 9) (.cons (.var 7) .nil))))) .nil)
def b_law_51_1 : S :=
  (.seq (.ife (.or (.not (.call 24 (.cons (.call 41 (.cons (.var 11) (.cons (.var 4) (.cons (.var 7) .nil)))) (.cons (.var 10) .nil)))) (.one (.cmp .ne (.var 11) (.var 3)))) 
    (.seq (.ret (.cst (.bool false))) .nil) .nil) .nil)
def b_law_51_2 : S :=
  (.seq (.asz 2 (.call 14 (.cons (.call 13 (.cons (.var 0) (.cons (.var 1) .nil))) (.cons (.cst (.int 36)) (.cons (.bin .pow (.cst (.int 10)) (.cst (.int 9))) .nil))))) 
  (.seq (.asz 3 (.call 20 (.cons (.var 2) .nil))) 
  (.seq (.asz 4 (.call 21 (.cons (.var 3) (.cons (.lst (.cons (.ix (.var 2) (.cst (.int 19))) (.cons (.bin .add (.ix (.var 2) (.cst (.int 18))) (.bin .mul (.cst (.int 7)) (.ix (.var 2) (.cst (.int 17))))) .nil))) .nil)))) 
  (.seq (.ife (.cmp .eq (.bin .mod (.ix (.var 2) (.cst (.int 34))) (.cst (.int 8))) (.cst (.int 3))) 
    (.seq (.asz 4 (.sl (.var 4) .nil (.one (.cst (.int 1))))) .nil) .nil) 
  (.seq (.unp [5, 6] (.call 50 (.cons (.var 3) (.cons (.var 4) (.cons (.sl (.var 2) (.one (.cst (.int 20))) .nil) (.cons (.bin .mul (.cst (.int 35)) (.bi .int (.conp (.cmp .eq (.bin .mod (.ix (.var 2) (.cst (.int 34))) (.cst (.int 8))) (.cst (.int 3))) .nil))) .nil)))))) 
  (.seq (.unp [7, 8] (.call 43 (.cons (.var 3) (.cons (.var 6) (.cons (.sl (.var 2) (.one (.cst (.int 20))) (.one (.cst (.int 35)))) (.cons (.cst (.int 0)) (.cons (.bin .add (.cst (.int 1)) (.bin .mod (.bin .fdiv (.ix (.var 2) (.cst (.int 19))) (.cst (.int 128))) (.ix (.lst (.cons (.cst (.int 3)) (.cons (.cst (.int 2)) .nil))) (.bi .int (.conp (.cmp .ne (.var 5) (.lst .nil)) .nil))))) .nil))))))) 
  (.seq (.wip [6] (.forr [9] true (.one (.rev (.var 5))) b_law_51_0 [9])) 
  (.seq (.asz 3 (.call 23 (.cons (.var 3) (.cons (.var 8) (.cons (.ix (.var 2) (.cst (.int 35))) .nil))))) 
  (.seq (.asz 10 (.call 49 (.cons (.var 3) (.cons (.var 4) (.cons (.var 7) .nil))))) 
  (.seq (.asz 11 (.call 27 (.cons (.var 3) .nil))) 
  (.seq (.wip [2, 5, 6, 8, 9] (.forr [12] true (.rng1 (.cst (.int 2))) b_law_51_1 [12])) .nil)))))))))))
def d_law_51 : Def := ⟨1, 13,
  (.seq (.forr [1] true (.rng1 (.bi .max (.conp (.cst (.int 1)) (.conp (.bi .min (.conp (.bi .len (.conp (.var 0) .nil)) (.conp (.cst (.int 4)) .nil))) .nil)))) b_law_51_2 [1, 2, 3, 4, 5, 6, 7, 8, 9, 10, 11, 12]) 
  (.seq (.ret (.cst (.bool true))) .nil))⟩
/-- 52: can_be_done(house, deed, crowd); slots: 0 house, 1 deed, 2 crowd, 3 world -/
def d_can_be_done : Def := ⟨3, 4,
  (.seq (.ret (.cmp .eq (.lc [3] true (.one (.var 2)) (.one (.not (.call 0 (.cons (.ix (.var 0) (.cst (.int 0))) (.cons (.ix (.var 1) (.cst (.int 1))) (.cons (.var 3) .nil)))))) (.var 3)) (.lst .nil))) .nil)⟩
/-- 53: crowd_behind(house, deed, crowd); slots: 0 house, 1 deed, 2 crowd, 3 own -/
def d_crowd_behind : Def := ⟨3, 4,
  (.seq (.asz 3 (.call 3 (.cons (.var 0) (.cons (.var 1) .nil)))) 
  (.seq (.exx (.call 5 (.cons (.var 0) (.cons (.var 2) .nil)))) 
  (.seq (.ife (.not (.call 52 (.cons (.var 0) (.cons (.var 3) (.cons (.var 2) .nil))))) 
    (.seq (.rai 5) .nil) .nil) 
  (.seq (.ret (.call 7 (.cons (.var 0) (.cons (.var 3) (.cons (.var 2) .nil))))) .nil))))⟩
/-- 54: sides_of(house, look, crowd); slots: 0 house, 1 look, 2 crowd, 3 own -/
def d_sides_of : Def := ⟨3, 4,
  (.seq (.asz 3 (.call 30 (.cons (.var 0) (.cons (.var 1) .nil)))) 
  (.seq (.exx (.call 5 (.cons (.var 0) (.cons (.var 2) .nil)))) 
  (.seq (.ife (.not (.call 52 (.cons (.var 0) (.cons (.var 3) (.cons (.var 2) .nil))))) 
    (.seq (.rai 5) .nil) .nil) 
  (.seq (.ret (.call 31 (.cons (.var 0) (.cons (.var 3) (.cons (.var 2) .nil))))) .nil))))⟩
/-- 55: bare_from(house, crowd, tree); slots: 0 house, 1 crowd, 2 tree, 3 yes, 4 no -/
def d_bare_from : Def := ⟨3, 5,
  (.seq (.ife (.cmp .eq (.ix (.var 2) (.cst (.int 0))) (.cst (.str "end"))) 
    (.seq (.ret (.tk 2)) .nil) .nil) 
  (.seq (.ife (.cmp .eq (.ix (.var 2) (.cst (.int 0))) (.cst (.str "do"))) 
    (.seq (.ret (.tup (.cons (.cst (.str "do")) (.cons (.ix (.var 2) (.cst (.int 1))) (.cons (.call 55 (.cons (.var 0) (.cons (.call 53 (.cons (.var 0) (.cons (.ix (.var 2) (.cst (.int 1))) (.cons (.var 1) .nil)))) (.cons (.ix (.var 2) (.cst (.int 2))) .nil)))) .nil))))) .nil) .nil) 
  (.seq (.unp [3, 4] (.call 54 (.cons (.var 0) (.cons (.ix (.var 2) (.cst (.int 1))) (.cons (.var 1) .nil))))) 
  (.seq (.ife (.cmp .eq (.var 3) (.tup .nil)) 
    (.seq (.ret (.call 55 (.cons (.var 0) (.cons (.var 4) (.cons (.ix (.var 2) (.cst (.int 3))) .nil))))) .nil) .nil) 
  (.seq (.ife (.cmp .eq (.var 4) (.tup .nil)) 
    (.seq (.ret (.call 55 (.cons (.var 0) (.cons (.var 3) (.cons (.ix (.var 2) (.cst (.int 2))) .nil))))) .nil) .nil) 
  (.seq (.ret (.tup (.cons (.cst (.str "see")) (.cons (.ix (.var 2) (.cst (.int 1))) (.cons (.call 55 (.cons (.var 0) (.cons (.var 3) (.cons (.ix (.var 2) (.cst (.int 2))) .nil)))) (.cons (.call 55 (.cons (.var 0) (.cons (.var 4) (.cons (.ix (.var 2) (.cst (.int 3))) .nil)))) .nil)))))) .nil))))))⟩
/-- 56: bare_tree(house, crowd, tree); slots: 0 house, 1 crowd, 2 tree -/
def d_bare_tree : Def := ⟨3, 3,
  (.seq (.exx (.call 40 (.cons (.var 0) (.cons (.var 1) (.cons (.var 2) .nil))))) 
  (.seq (.ret (.call 55 (.cons (.var 0) (.cons (.var 1) (.cons (.var 2) .nil))))) .nil))⟩
/-- 57: _law_ahead(house, crowd, xs, many); slots: 0 house, 1 crowd, 2 xs, 3 many, 4 done, 5 j, 6 deed -/
def b__law_ahead_57_0 : S :=
  (.seq (.asz 6 (.ix (.ix (.var 0) (.cst (.int 1))) (.bin .mod (.bin .fdiv (.ix (.var 2) (.bin .mod (.var 5) (.cst (.int 30)))) (.bin .add (.cst (.int 1)) (.var 5))) (.bi .len (.conp (.ix (.var 0) (.cst (.int 1))) .nil))))) 
  (.seq (.ife (.not (.call 16 (.cons (.ix (.var 0) (.cst (.int 0))) (.cons (.ix (.var 6) (.cst (.int 1))) (.cons (.var 1) .nil))))) 
    (.seq (.frz [4] (.ret (.tup (.cons (.var 4) (.cons (.var 1) .nil))))) .nil) .nil) 
  (.seq (.asz 1 (.call 17 (.cons (.ix (.var 0) (.cst (.int 0))) (.cons (.var 6) (.cons (.var 1) .nil))))) 
  (.seq (.app 4 (.ix (.var 6) (.cst (.int 0)))) .nil))))
def d__law_ahead_57 : Def := ⟨4, 7,
  (.seq (.asg 4 (.lst .nil)) 
  (.seq (.forr [5] true (.rng1 (.var 3)) b__law_ahead_57_0 [5, 6]) 
  (.seq (.frz [4] (.ret (.tup (.cons (.var 4) (.cons (.var 1) .nil))))) .nil)))⟩
/-- 58: _law_bare(house, crowd, tree); slots: 0 house, 1 crowd, 2 tree, 3 deed, 4 sides, 5 k -/
def b__law_bare_0 : S :=
  (.seq (.ife (.cmp .eq (.ix (.var 4) (.var 5)) (.tup .nil)) 
    (.seq (.ret (.call 58 (.cons (.var 0) (.cons (.var 1) (.cons (.ix (.var 2) (.bin .sub (.cst (.int 3)) (.var 5))) .nil))))) .nil) .nil) .nil)
def d__law_bare : Def := ⟨3, 6,
  (.seq (.ife (.cmp .eq (.ix (.var 2) (.cst (.int 0))) (.cst (.str "end"))) 
    (.seq (.ret (.tk 2)) .nil) .nil) 
  (.seq (.ife (.cmp .eq (.ix (.var 2) (.cst (.int 0))) (.cst (.str "do"))) 
    (.seq (.asz 3 (.call 18 (.cons (.ix (.var 0) (.cst (.int 1))) (.cons (.ix (.var 2) (.cst (.int 1))) .nil)))) 
    (.seq (.ret (.tup (.cons (.cst (.str "do")) (.cons (.ix (.var 2) (.cst (.int 1))) (.cons (.call 58 (.cons (.var 0) (.cons (.call 17 (.cons (.ix (.var 0) (.cst (.int 0))) (.cons (.var 3) (.cons (.var 1) .nil)))) (.cons (.ix (.var 2) (.cst (.int 2))) .nil)))) .nil))))) .nil)) .nil) 
  (.seq (.asz 4 (.call 42 (.cons (.var 0) (.cons (.call 18 (.cons (.ix (.var 0) (.cst (.int 2))) (.cons (.ix (.var 2) (.cst (.int 1))) .nil))) (.cons (.var 1) .nil))))) 
  (.seq (.wip [3] (.forr [5] true (.rng1 (.cst (.int 2))) b__law_bare_0 [5])) 
  (.seq (.ret (.tup (.cons (.cst (.str "see")) (.cons (.ix (.var 2) (.cst (.int 1))) (.cons (.call 58 (.cons (.var 0) (.cons (.ix (.var 4) (.cst (.int 0))) (.cons (.ix (.var 2) (.cst (.int 2))) .nil)))) (.cons (.call 58 (.cons (.var 0) (.cons (.ix (.var 4) (.cst (.int 1))) (.cons (.ix (.var 2) (.cst (.int 3))) .nil)))) .nil)))))) .nil)))))⟩
/-- 59: law(script); slots: 0 script, 1 k, 2 xs, 3 house, 4 crowd, 5 ahead, 6 start, 7 tree, 8 ends, 9 name, 10 due, 11 given, 12 turn -/
def b_law_59_0 : S :=
  (.seq (.asz 7 (.tup (.cons (.cst (.str "do")) (.cons (.var 9) (.cons (.var 7) .nil))))) .nil)
def b_law_59_1 : S :=
  (.seq (.ife (.or (.not (.call 24 (.cons (.call 56 (.cons (.var 11) (.cons (.var 4) (.cons (.var 7) .nil)))) (.cons (.var 10) .nil)))) (.one (.cmp .ne (.var 11) (.var 3)))) 
    (.seq (.ret (.cst (.bool false))) .nil) .nil) .nil)
def b_law_59_2 : S :=
  (.seq (.asz 2 (.call 14 (.cons (.call 13 (.cons (.var 0) (.cons (.var 1) .nil))) (.cons (.cst (.int 52)) (.cons (.bin .pow (.cst (.int 10)) (.cst (.int 9))) .nil))))) 
  (.seq (.asz 3 (.call 20 (.cons (.var 2) .nil))) 
  (.seq (.asz 4 (.call 21 (.cons (.var 3) (.cons (.lst (.cons (.ix (.var 2) (.cst (.int 19))) (.cons (.bin .add (.ix (.var 2) (.cst (.int 18))) (.bin .mul (.cst (.int 7)) (.ix (.var 2) (.cst (.int 17))))) .nil))) .nil)))) 
  (.seq (.unp [5, 6] (.call 57 (.cons (.var 3) (.cons (.var 4) (.cons (.sl (.var 2) (.one (.cst (.int 20))) .nil) (.cons (.bin .mul (.cst (.int 30)) (.bi .int (.conp (.cmp .eq (.bin .mod (.ix (.var 2) (.cst (.int 50))) (.cst (.int 8))) (.cst (.int 3))) .nil))) .nil)))))) 
  (.seq (.unp [7, 8] (.call 43 (.cons (.var 3) (.cons (.var 6) (.cons (.sl (.var 2) (.one (.cst (.int 20))) (.one (.cst (.int 51)))) (.cons (.cst (.int 0)) (.cons (.bin .add (.cst (.int 1)) (.bin .mod (.bin .fdiv (.ix (.var 2) (.cst (.int 19))) (.cst (.int 128))) (.cst (.int 5)))) .nil))))))) 
  (.seq (.wip [6] (.forr [9] true (.one (.rev (.var 5))) b_law_59_0 [9])) 
  (.seq (.asz 3 (.call 23 (.cons (.var 3) (.cons (.var 8) (.cons (.ix (.var 2) (.cst (.int 51))) .nil))))) 
  (.seq (.asz 10 (.call 58 (.cons (.var 3) (.cons (.var 4) (.cons (.var 7) .nil))))) 
  (.seq (.asz 11 (.call 27 (.cons (.var 3) .nil))) 
  (.seq (.wip [2, 5, 6, 8, 9] (.forr [12] true (.rng1 (.cst (.int 2))) b_law_59_1 [12])) .nil))))))))))
def d_law_59 : Def := ⟨1, 13,
  (.seq (.forr [1] true (.rng1 (.bi .max (.conp (.cst (.int 1)) (.conp (.bi .min (.conp (.bi .len (.conp (.var 0) .nil)) (.conp (.cst (.int 6)) .nil))) .nil)))) b_law_59_2 [1, 2, 3, 4, 5, 6, 7, 8, 9, 10, 11, 12]) 
  (.seq (.ret (.cst (.bool true))) .nil))⟩
def gc0 : Nat → D := fun _ => .none
def gas : Nat := 1000
def Φ : Nat → Option Def
  | 0 => some d_holds
  | 1 => some d_how_many_worlds
  | 2 => some d_holds_in
  | 3 => some d_need_deed
  | 4 => some d_is_crowd
  | 5 => some d_need_crowd
  | 6 => some d_changed
  | 7 => some d_all_behind
  | 8 => some d_need_deeds
  | 9 => some d_failing_in
  | 10 => some d_row_goes
  | 11 => some d_shorter_row
  | 12 => some d_row_made_less
  | 13 => some d__law_cell_at
  | 14 => some d__law_digits
  | 15 => some d__law_holds
  | 16 => some d__law_can
  | 17 => some d__law_behind
  | 18 => some d__law_named
  | 19 => some d__law_condition
  | 20 => some d__law_drawn_house
  | 21 => some d__law_crowd
  | 22 => some d__law_known
  | 23 => some d__law_wished
  | 24 => some d__law_alike
  | 25 => some d__law_row_walked
  | 26 => some d__law_goes_well
  | 27 => some d__law_copy
  | 28 => some d__law_first_less
  | 29 => some d_law
  | 30 => some d_need_look
  | 31 => some d_sides_by
  | 32 => some d_trees_within
  | 33 => some d_all_parts
  | 34 => some d_need_names
  | 35 => some d_barring
  | 36 => some d_parts_walked
  | 37 => some d_tree_goes
  | 38 => some d_trees_without
  | 39 => some d_shorter_tree
  | 40 => some d_need_good_tree
  | 41 => some d_tree_made_less
  | 42 => some d__law_sides
  | 43 => some d__law_grown
  | 44 => some d__law_tree_well
  | 45 => some d__law_less_at
  | 46 => some d__law_ways
  | 47 => some d__law_part
  | 48 => some d__law_first_less_48
  | 49 => some d__law_made_less
  | 50 => some d__law_ahead
  | 51 => some d_law_51
  | 52 => some d_can_be_done
  | 53 => some d_crowd_behind
  | 54 => some d_sides_of
  | 55 => some d_bare_from
  | 56 => some d_bare_tree
  | 57 => some d__law_ahead_57
  | 58 => some d__law_bare
  | 59 => some d_law_59
  | _ => none
abbrev C (n j : Nat) (ds : List D) : Out (Bool × D) := call Φ gc0 gas n j ds
theorem at_holds (n : Nat) (x0 x1 x2 : D) : C (n + 1) 0 [x0, x1, x2] = (run (C n) gc0 gas d_holds.body [.fz x0, .fz x1, .fz x2]).bind endF := call_at d_holds rfl rfl
theorem at_how_many_worlds (n : Nat) (x0 : D) : C (n + 1) 1 [x0] = (run (C n) gc0 gas d_how_many_worlds.body [.fz x0]).bind endF := call_at d_how_many_worlds rfl rfl
theorem at_holds_in (n : Nat) (x0 x1 x2 : D) : C (n + 1) 2 [x0, x1, x2] = (run (C n) gc0 gas d_holds_in.body [.fz x0, .fz x1, .fz x2]).bind endF := call_at d_holds_in rfl rfl
theorem at_need_deed (n : Nat) (x0 x1 : D) : C (n + 1) 3 [x0, x1] = (run (C n) gc0 gas d_need_deed.body [.fz x0, .fz x1, .un]).bind endF := call_at d_need_deed rfl rfl
theorem at_is_crowd (n : Nat) (x0 x1 : D) : C (n + 1) 4 [x0, x1] = (run (C n) gc0 gas d_is_crowd.body [.fz x0, .fz x1, .un]).bind endF := call_at d_is_crowd rfl rfl
theorem at_need_crowd (n : Nat) (x0 x1 : D) : C (n + 1) 5 [x0, x1] = (run (C n) gc0 gas d_need_crowd.body [.fz x0, .fz x1]).bind endF := call_at d_need_crowd rfl rfl
theorem at_changed (n : Nat) (x0 x1 x2 : D) : C (n + 1) 6 [x0, x1, x2] = (run (C n) gc0 gas d_changed.body [.fz x0, .fz x1, .fz x2, .un, .un, .un, .un, .un, .un]).bind endF := call_at d_changed rfl rfl
theorem at_all_behind (n : Nat) (x0 x1 x2 : D) : C (n + 1) 7 [x0, x1, x2] = (run (C n) gc0 gas d_all_behind.body [.fz x0, .fz x1, .fz x2, .un, .un, .un]).bind endF := call_at d_all_behind rfl rfl
theorem at_need_deeds (n : Nat) (x0 x1 : D) : C (n + 1) 8 [x0, x1] = (run (C n) gc0 gas d_need_deeds.body [.fz x0, .fz x1, .un]).bind endF := call_at d_need_deeds rfl rfl
theorem at_failing_in (n : Nat) (x0 x1 x2 : D) : C (n + 1) 9 [x0, x1, x2] = (run (C n) gc0 gas d_failing_in.body [.fz x0, .fz x1, .fz x2, .un]).bind endF := call_at d_failing_in rfl rfl
theorem at_row_goes (n : Nat) (x0 x1 x2 : D) : C (n + 1) 10 [x0, x1, x2] = (run (C n) gc0 gas d_row_goes.body [.fz x0, .fz x1, .fz x2, .un, .un, .un, .un, .un]).bind endF := call_at d_row_goes rfl rfl
theorem at_shorter_row (n : Nat) (x0 x1 x2 : D) : C (n + 1) 11 [x0, x1, x2] = (run (C n) gc0 gas d_shorter_row.body [.fz x0, .fz x1, .fz x2, .un, .un]).bind endF := call_at d_shorter_row rfl rfl
theorem at_row_made_less (n : Nat) (x0 x1 x2 : D) : C (n + 1) 12 [x0, x1, x2] = (run (C n) gc0 gas d_row_made_less.body [.fz x0, .fz x1, .fz x2, .un, .un]).bind endF := call_at d_row_made_less rfl rfl
theorem at__law_cell_at (n : Nat) (x0 x1 : D) : C (n + 1) 13 [x0, x1] = (run (C n) gc0 gas d__law_cell_at.body [.fz x0, .fz x1]).bind endF := call_at d__law_cell_at rfl rfl
theorem at__law_digits (n : Nat) (x0 x1 x2 : D) : C (n + 1) 14 [x0, x1, x2] = (run (C n) gc0 gas d__law_digits.body [.fz x0, .fz x1, .fz x2, .un, .un, .un, .un]).bind endF := call_at d__law_digits rfl rfl
theorem at__law_holds (n : Nat) (x0 x1 x2 : D) : C (n + 1) 15 [x0, x1, x2] = (run (C n) gc0 gas d__law_holds.body [.fz x0, .fz x1, .fz x2, .un, .un, .un]).bind endF := call_at d__law_holds rfl rfl
theorem at__law_can (n : Nat) (x0 x1 x2 : D) : C (n + 1) 16 [x0, x1, x2] = (run (C n) gc0 gas d__law_can.body [.fz x0, .fz x1, .fz x2, .un]).bind endF := call_at d__law_can rfl rfl
theorem at__law_behind (n : Nat) (x0 x1 x2 : D) : C (n + 1) 17 [x0, x1, x2] = (run (C n) gc0 gas d__law_behind.body [.fz x0, .fz x1, .fz x2, .un, .un, .un, .un, .un, .un, .un, .un, .un, .un]).bind endF := call_at d__law_behind rfl rfl
theorem at__law_named (n : Nat) (x0 x1 : D) : C (n + 1) 18 [x0, x1] = (run (C n) gc0 gas d__law_named.body [.fz x0, .fz x1, .un]).bind endF := call_at d__law_named rfl rfl
theorem at__law_condition (n : Nat) (x0 x1 : D) : C (n + 1) 19 [x0, x1] = (run (C n) gc0 gas d__law_condition.body [.fz x0, .fz x1, .un, .un, .un]).bind endF := call_at d__law_condition rfl rfl
theorem at__law_drawn_house (n : Nat) (x0 : D) : C (n + 1) 20 [x0] = (run (C n) gc0 gas d__law_drawn_house.body [.fz x0, .un, .un, .un, .un, .un, .un, .un, .un, .un, .un, .un, .un, .un, .un]).bind endF := call_at d__law_drawn_house rfl rfl
theorem at__law_crowd (n : Nat) (x0 x1 : D) : C (n + 1) 21 [x0, x1] = (run (C n) gc0 gas d__law_crowd.body [.fz x0, .fz x1, .un, .un, .un]).bind endF := call_at d__law_crowd rfl rfl
theorem at__law_known (n : Nat) (x0 x1 : D) : C (n + 1) 22 [x0, x1] = (run (C n) gc0 gas d__law_known.body [.fz x0, .fz x1, .un, .un, .un, .un, .un]).bind endF := call_at d__law_known rfl rfl
theorem at__law_wished (n : Nat) (x0 x1 x2 : D) : C (n + 1) 23 [x0, x1, x2] = (run (C n) gc0 gas d__law_wished.body [.fz x0, .fz x1, .fz x2, .un, .un]).bind endF := call_at d__law_wished rfl rfl
theorem at__law_alike (n : Nat) (x0 x1 : D) : C (n + 1) 24 [x0, x1] = (run (C n) gc0 gas d__law_alike.body [.fz x0, .fz x1, .un]).bind endF := call_at d__law_alike rfl rfl
theorem at__law_row_walked (n : Nat) (x0 x1 x2 : D) : C (n + 1) 25 [x0, x1, x2] = (run (C n) gc0 gas d__law_row_walked.body [.fz x0, .fz x1, .fz x2, .un, .un, .un]).bind endF := call_at d__law_row_walked rfl rfl
theorem at__law_goes_well (n : Nat) (x0 x1 x2 : D) : C (n + 1) 26 [x0, x1, x2] = (run (C n) gc0 gas d__law_goes_well.body [.fz x0, .fz x1, .fz x2, .un, .un]).bind endF := call_at d__law_goes_well rfl rfl
theorem at__law_copy (n : Nat) (x0 : D) : C (n + 1) 27 [x0] = (run (C n) gc0 gas d__law_copy.body [.fz x0, .un, .un, .un, .un, .un]).bind endF := call_at d__law_copy rfl rfl
theorem at__law_first_less (n : Nat) (x0 x1 x2 : D) : C (n + 1) 28 [x0, x1, x2] = (run (C n) gc0 gas d__law_first_less.body [.fz x0, .fz x1, .fz x2, .un]).bind endF := call_at d__law_first_less rfl rfl
theorem at_law (n : Nat) (x0 : D) : C (n + 1) 29 [x0] = (run (C n) gc0 gas d_law.body [.fz x0, .un, .un, .un, .un, .un, .un, .un, .un, .un, .un, .un, .un, .un, .un]).bind endF := call_at d_law rfl rfl
theorem at_need_look (n : Nat) (x0 x1 : D) : C (n + 1) 30 [x0, x1] = (run (C n) gc0 gas d_need_look.body [.fz x0, .fz x1, .un]).bind endF := call_at d_need_look rfl rfl
theorem at_sides_by (n : Nat) (x0 x1 x2 : D) : C (n + 1) 31 [x0, x1, x2] = (run (C n) gc0 gas d_sides_by.body [.fz x0, .fz x1, .fz x2, .un, .un]).bind endF := call_at d_sides_by rfl rfl
theorem at_trees_within (n : Nat) (x0 : D) : C (n + 1) 32 [x0] = (run (C n) gc0 gas d_trees_within.body [.fz x0]).bind endF := call_at d_trees_within rfl rfl
theorem at_all_parts (n : Nat) (x0 : D) : C (n + 1) 33 [x0] = (run (C n) gc0 gas d_all_parts.body [.fz x0, .un, .un, .un]).bind endF := call_at d_all_parts rfl rfl
theorem at_need_names (n : Nat) (x0 x1 : D) : C (n + 1) 34 [x0, x1] = (run (C n) gc0 gas d_need_names.body [.fz x0, .fz x1, .un]).bind endF := call_at d_need_names rfl rfl
theorem at_barring (n : Nat) (x0 x1 x2 : D) : C (n + 1) 35 [x0, x1, x2] = (run (C n) gc0 gas d_barring.body [.fz x0, .fz x1, .fz x2, .un]).bind endF := call_at d_barring rfl rfl
theorem at_parts_walked (n : Nat) (x0 x1 x2 x3 : D) : C (n + 1) 36 [x0, x1, x2, x3] = (run (C n) gc0 gas d_parts_walked.body [.fz x0, .fz x1, .fz x2, .fz x3, .un, .un, .un, .un, .un, .un]).bind endF := call_at d_parts_walked rfl rfl
theorem at_tree_goes (n : Nat) (x0 x1 x2 : D) : C (n + 1) 37 [x0, x1, x2] = (run (C n) gc0 gas d_tree_goes.body [.fz x0, .fz x1, .fz x2, .un, .un, .un, .un, .un, .un, .un, .un, .un, .un, .un, .un, .un]).bind endF := call_at d_tree_goes rfl rfl
theorem at_trees_without (n : Nat) (x0 : D) : C (n + 1) 38 [x0] = (run (C n) gc0 gas d_trees_without.body [.fz x0, .un, .un]).bind endF := call_at d_trees_without rfl rfl
theorem at_shorter_tree (n : Nat) (x0 x1 x2 : D) : C (n + 1) 39 [x0, x1, x2] = (run (C n) gc0 gas d_shorter_tree.body [.fz x0, .fz x1, .fz x2, .un]).bind endF := call_at d_shorter_tree rfl rfl
theorem at_need_good_tree (n : Nat) (x0 x1 x2 : D) : C (n + 1) 40 [x0, x1, x2] = (run (C n) gc0 gas d_need_good_tree.body [.fz x0, .fz x1, .fz x2]).bind endF := call_at d_need_good_tree rfl rfl
theorem at_tree_made_less (n : Nat) (x0 x1 x2 : D) : C (n + 1) 41 [x0, x1, x2] = (run (C n) gc0 gas d_tree_made_less.body [.fz x0, .fz x1, .fz x2, .un, .un]).bind endF := call_at d_tree_made_less rfl rfl
theorem at__law_sides (n : Nat) (x0 x1 x2 : D) : C (n + 1) 42 [x0, x1, x2] = (run (C n) gc0 gas d__law_sides.body [.fz x0, .fz x1, .fz x2, .un, .un]).bind endF := call_at d__law_sides rfl rfl
theorem at__law_grown (n : Nat) (x0 x1 x2 x3 x4 : D) : C (n + 1) 43 [x0, x1, x2, x3, x4] = (run (C n) gc0 gas d__law_grown.body [.fz x0, .fz x1, .fz x2, .fz x3, .fz x4, .un, .un, .un, .un, .un, .un, .un, .un, .un, .un]).bind endF := call_at d__law_grown rfl rfl
theorem at__law_tree_well (n : Nat) (x0 x1 x2 : D) : C (n + 1) 44 [x0, x1, x2] = (run (C n) gc0 gas d__law_tree_well.body [.fz x0, .fz x1, .fz x2, .un, .un, .un, .un]).bind endF := call_at d__law_tree_well rfl rfl
theorem at__law_less_at (n : Nat) (x0 x1 x2 : D) : C (n + 1) 45 [x0, x1, x2] = (run (C n) gc0 gas d__law_less_at.body [.fz x0, .fz x1, .fz x2, .un]).bind endF := call_at d__law_less_at rfl rfl
theorem at__law_ways (n : Nat) (x0 : D) : C (n + 1) 46 [x0] = (run (C n) gc0 gas d__law_ways.body [.fz x0, .un, .un, .un]).bind endF := call_at d__law_ways rfl rfl
theorem at__law_part (n : Nat) (x0 x1 : D) : C (n + 1) 47 [x0, x1] = (run (C n) gc0 gas d__law_part.body [.fz x0, .fz x1, .un]).bind endF := call_at d__law_part rfl rfl
theorem at__law_first_less_48 (n : Nat) (x0 x1 x2 : D) : C (n + 1) 48 [x0, x1, x2] = (run (C n) gc0 gas d__law_first_less_48.body [.fz x0, .fz x1, .fz x2, .un, .un, .un]).bind endF := call_at d__law_first_less_48 rfl rfl
theorem at__law_made_less (n : Nat) (x0 x1 x2 : D) : C (n + 1) 49 [x0, x1, x2] = (run (C n) gc0 gas d__law_made_less.body [.fz x0, .fz x1, .fz x2, .un]).bind endF := call_at d__law_made_less rfl rfl
theorem at__law_ahead (n : Nat) (x0 x1 x2 x3 : D) : C (n + 1) 50 [x0, x1, x2, x3] = (run (C n) gc0 gas d__law_ahead.body [.fz x0, .fz x1, .fz x2, .fz x3, .un, .un, .un]).bind endF := call_at d__law_ahead rfl rfl
theorem at_law_51 (n : Nat) (x0 : D) : C (n + 1) 51 [x0] = (run (C n) gc0 gas d_law_51.body [.fz x0, .un, .un, .un, .un, .un, .un, .un, .un, .un, .un, .un, .un]).bind endF := call_at d_law_51 rfl rfl
theorem at_can_be_done (n : Nat) (x0 x1 x2 : D) : C (n + 1) 52 [x0, x1, x2] = (run (C n) gc0 gas d_can_be_done.body [.fz x0, .fz x1, .fz x2, .un]).bind endF := call_at d_can_be_done rfl rfl
theorem at_crowd_behind (n : Nat) (x0 x1 x2 : D) : C (n + 1) 53 [x0, x1, x2] = (run (C n) gc0 gas d_crowd_behind.body [.fz x0, .fz x1, .fz x2, .un]).bind endF := call_at d_crowd_behind rfl rfl
theorem at_sides_of (n : Nat) (x0 x1 x2 : D) : C (n + 1) 54 [x0, x1, x2] = (run (C n) gc0 gas d_sides_of.body [.fz x0, .fz x1, .fz x2, .un]).bind endF := call_at d_sides_of rfl rfl
theorem at_bare_from (n : Nat) (x0 x1 x2 : D) : C (n + 1) 55 [x0, x1, x2] = (run (C n) gc0 gas d_bare_from.body [.fz x0, .fz x1, .fz x2, .un, .un]).bind endF := call_at d_bare_from rfl rfl
theorem at_bare_tree (n : Nat) (x0 x1 x2 : D) : C (n + 1) 56 [x0, x1, x2] = (run (C n) gc0 gas d_bare_tree.body [.fz x0, .fz x1, .fz x2]).bind endF := call_at d_bare_tree rfl rfl
theorem at__law_ahead_57 (n : Nat) (x0 x1 x2 x3 : D) : C (n + 1) 57 [x0, x1, x2, x3] = (run (C n) gc0 gas d__law_ahead_57.body [.fz x0, .fz x1, .fz x2, .fz x3, .un, .un, .un]).bind endF := call_at d__law_ahead_57 rfl rfl
theorem at__law_bare (n : Nat) (x0 x1 x2 : D) : C (n + 1) 58 [x0, x1, x2] = (run (C n) gc0 gas d__law_bare.body [.fz x0, .fz x1, .fz x2, .un, .un, .un]).bind endF := call_at d__law_bare rfl rfl
theorem at_law_59 (n : Nat) (x0 : D) : C (n + 1) 59 [x0] = (run (C n) gc0 gas d_law_59.body [.fz x0, .un, .un, .un, .un, .un, .un, .un, .un, .un, .un, .un, .un]).bind endF := call_at d_law_59 rfl rfl
end F1
end VL
namespace VL
open PySem PySem.Spec L2
namespace F1

/-! ### conditions -/
inductive Cnd where
  | yes | fact (x : Str) | not (c : Cnd) | both (a b : Cnd) | either (a b : Cnd)
namespace Cnd
def enc : Cnd → D
  | .yes => .tuple [.str "yes"]
  | .fact x => .tuple [.str "fact", .str x]
  | .not c => .tuple [.str "not", c.enc]
  | .both a b => .tuple [.str "both", a.enc, b.enc]
  | .either a b => .tuple [.str "either", a.enc, b.enc]
def dep : Cnd → Nat
  | .yes => 0
  | .fact _ => 0
  | .not c => c.dep + 1
  | .both a b => max a.dep b.dep + 1
  | .either a b => max a.dep b.dep + 1
def on (fs : List Str) : Cnd → Prop
  | .yes => True
  | .fact x => x ∈ fs
  | .not c => c.on fs
  | .both a b => a.on fs ∧ b.on fs
  | .either a b => a.on fs ∧ b.on fs
def hold (fs : List Str) (w : Nat) : Cnd → Bool
  | .yes => true
  | .fact x => w.testBit (fs.idxOf x)
  | .not c => !c.hold fs w
  | .both a b => a.hold fs w && b.hold fs w
  | .either a b => a.hold fs w || b.hold fs w
end Cnd
def sD (fs : List Str) : D := .list (fs.map .str)
theorem flat_strs (fs : List Str) : (fs.map PyData.str).all flatD = true := by
  rw [List.all_map, List.all_eq_true]; intro x _; rfl
theorem idx_strs {x : Str} : ∀ {fs : List Str} (n : Nat), x ∈ fs → idxD (.str x) (fs.map .str) n = some (n + fs.idxOf x)
  | y :: fs, n, h => by
    show (if (PyData.eqv (.str y) (.str x)) = true then some n else idxD (.str x) (fs.map .str) (n + 1)) = _
    rw [eqv_str, List.idxOf_cons]
    by_cases e : y = x
    · rw [if_pos (by rw [e]; exact beq_self_eq_true x)]
      rw [show (y == x) = true by rw [e]; exact beq_self_eq_true x]; rfl
    · have hb : (y == x) = false := beq_false_of_ne e
      rw [if_neg (by rw [hb]; exact Bool.false_ne_true), hb, idx_strs (n + 1) (by
        rcases List.mem_cons.mp h with z | z
        · exact absurd z.symm e
        · exact z)]
      congr 1
      simp [Bool.cond_false]; omega
theorem me_idx {fs : List Str} {x : Str} (h : x ∈ fs) : meD .index (.list (fs.map .str)) [.str x] = .ok (.fz, .int (fs.idxOf x : Nat)) := by
  have e : (flatD (.str x) && (fs.map PyData.str).all flatD) = true := by rw [flat_strs]; rfl
  show (if (flatD (.str x) && (fs.map PyData.str).all flatD) = true then (match idxD (.str x) (fs.map .str) 0 with | some n => Out.ok (Kd.fz, PyData.int (n : Nat)) | none => .stuck) else .stuck) = _
  rw [if_pos e, idx_strs 0 h, Nat.zero_add]
theorem k_idx {fs : List Str} {x : Str} {k : Kd} (h : x ∈ fs) : mek .index (.ok (k, sD fs)) (.ok (.fz, .list [.str x])) = .ok (.fz, .int (fs.idxOf x : Nat)) := me_idx h
theorem bit_eq (w k : Nat) : (Builtin.bitAnd (((w : Nat) : Int) / 2 ^ k) 1 == 1) = w.testBit k := by
  have e : Builtin.bitAnd (((w : Nat) : Int) / 2 ^ k) 1 = ((w / 2 ^ k % 2 : Nat) : Int) := by
    rw [PyProof.Rows.bitAnd_m1]; push_cast; rfl
  rw [e, Nat.testBit_eq_decide_div_mod_eq, Bool.eq_iff_iff, beq_iff_eq, decide_eq_true_eq]
  omega
@[simp] theorem sh_yes : SeqAt.shaped (.str "yes") = true := by decide +kernel
@[simp] theorem sh_fact : SeqAt.shaped (.str "fact") = true := by decide +kernel
@[simp] theorem sh_not : SeqAt.shaped (.str "not") = true := by decide +kernel
@[simp] theorem sh_both : SeqAt.shaped (.str "both") = true := by decide +kernel
@[simp] theorem sh_either : SeqAt.shaped (.str "either") = true := by decide +kernel
@[simp] theorem w_fy : (("fact" : Str) == ("yes" : Str)) = false := by decide +kernel
@[simp] theorem w_ny : (("not" : Str) == ("yes" : Str)) = false := by decide +kernel
@[simp] theorem w_by : (("both" : Str) == ("yes" : Str)) = false := by decide +kernel
@[simp] theorem w_ey : (("either" : Str) == ("yes" : Str)) = false := by decide +kernel
@[simp] theorem w_nf : (("not" : Str) == ("fact" : Str)) = false := by decide +kernel
@[simp] theorem w_bf : (("both" : Str) == ("fact" : Str)) = false := by decide +kernel
@[simp] theorem w_ef : (("either" : Str) == ("fact" : Str)) = false := by decide +kernel
@[simp] theorem w_bn : (("both" : Str) == ("not" : Str)) = false := by decide +kernel
@[simp] theorem w_en : (("either" : Str) == ("not" : Str)) = false := by decide +kernel
@[simp] theorem w_eb : (("either" : Str) == ("both" : Str)) = false := by decide +kernel
@[simp] theorem w_be : (("both" : Str) == ("either" : Str)) = false := by decide +kernel
theorem shr_pos {k : Nat} : (0 : Int) ≤ (k : Int) := Int.natCast_nonneg k
theorem holds_ok {fs : List Str} {w : Nat} : ∀ {c : Cnd} {n : Nat}, c.on fs → c.dep < n → C n 0 [sD fs, c.enc, .int (w : Nat)] = .ok (false, .bool (c.hold fs w))
  | .yes, n + 1, _, _ => by
    rw [at_holds]
    simp [d_holds, Cnd.enc, Cnd.hold]
  | .fact x, n + 1, h, _ => by
    rw [at_holds]
    simp [d_holds, Cnd.enc, Cnd.hold, k_idx h, bit_eq]
  | .not c, n + 1, h, l => by
    have ih := holds_ok (w := w) (c := c) (n := n) h (by simp only [Cnd.dep] at l; omega)
    rw [at_holds]
    simp [d_holds, Cnd.enc, Cnd.hold, ih]
  | .both a b, n + 1, h, l => by
    have i1 := holds_ok (w := w) (c := a) (n := n) h.1 (by simp only [Cnd.dep] at l; omega)
    have i2 := holds_ok (w := w) (c := b) (n := n) h.2 (by simp only [Cnd.dep] at l; omega)
    rw [at_holds]
    simp [d_holds, Cnd.enc, Cnd.hold, i1, i2]
  | .either a b, n + 1, h, l => by
    have i1 := holds_ok (w := w) (c := a) (n := n) h.1 (by simp only [Cnd.dep] at l; omega)
    have i2 := holds_ok (w := w) (c := b) (n := n) h.2 (by simp only [Cnd.dep] at l; omega)
    rw [at_holds]
    simp [d_holds, Cnd.enc, Cnd.hold, i1, i2]
theorem idx_le {fs : List Str} {x : Str} (h : x ∈ fs) (l : fs.length ≤ 100) : fs.idxOf x ≤ 1000 := by
  have := List.idxOf_lt_length_of_mem h
  omega
theorem bit_div (w k : Nat) : (((w : Nat) : Int) / 2 ^ k % 2 == 1) = w.testBit k := by
  have e : (2 : Int) ^ k = ((2 ^ k : Nat) : Int) := by simp
  rw [e]
  rw [Nat.testBit_eq_decide_div_mod_eq, Bool.eq_iff_iff, beq_iff_eq, decide_eq_true_eq]
  omega
theorem lholds_ok {fs : List Str} (hl : fs.length ≤ 100) {w : Nat} : ∀ {c : Cnd} {n : Nat}, c.on fs → c.dep < n → C n 15 [sD fs, c.enc, .int (w : Nat)] = .ok (false, .bool (c.hold fs w))
  | .yes, n + 1, _, _ => by
    rw [at__law_holds]
    simp [d__law_holds, Cnd.enc, Cnd.hold]
  | .fact x, n + 1, h, _ => by
    have i1 := idx_le h hl
    rw [at__law_holds]
    simp [d__law_holds, Cnd.enc, Cnd.hold, k_idx h, bit_div, i1]
  | .not c, n + 1, h, l => by
    have ih := lholds_ok hl (w := w) (c := c) (n := n) h (by simp only [Cnd.dep] at l; omega)
    rw [at__law_holds]
    simp [d__law_holds, Cnd.enc, Cnd.hold, ih]
  | .both a b, n + 1, h, l => by
    have i1 := lholds_ok hl (w := w) (c := a) (n := n) h.1 (by simp only [Cnd.dep] at l; omega)
    have i2 := lholds_ok hl (w := w) (c := b) (n := n) h.2 (by simp only [Cnd.dep] at l; omega)
    rw [at__law_holds]
    simp [d__law_holds, Cnd.enc, Cnd.hold, i1, i2]
  | .either a b, n + 1, h, l => by
    have i1 := lholds_ok hl (w := w) (c := a) (n := n) h.1 (by simp only [Cnd.dep] at l; omega)
    have i2 := lholds_ok hl (w := w) (c := b) (n := n) h.2 (by simp only [Cnd.dep] at l; omega)
    rw [at__law_holds]
    simp [d__law_holds, Cnd.enc, Cnd.hold, i1, i2]
end F1
end VL
namespace VL
open PySem PySem.Spec L2
namespace F1

/-! ### dicts by texts, by numbers -/
theorem eqv_s {d : D} {y : Str} : PyData.eqv d (.str y) = true ↔ d = .str y := by
  cases d with
  | str x => rw [eqv_str, beq_iff_eq]; exact ⟨fun h => by rw [h], fun h => by cases h; rfl⟩
  | _ => exact ⟨fun h => (by cases h), fun h => (by cases h)⟩
theorem getD_nil (k : D) : getD [] k = none := rfl
theorem getD_cons (p : D × D) (r : List (D × D)) (k : D) : getD (p :: r) k = if PyData.eqv p.1 k = true then some p.2 else getD r k := by
  unfold getD
  rw [List.find?_cons]
  cases PyData.eqv p.1 k <;> rfl
theorem getD_map {y x : Str} {v : D} : ∀ acc : List (D × D), getD (acc.map fun p => if PyData.eqv p.1 (.str y) = true then (p.1, v) else p) (.str x) = if y = x ∧ hasD acc (.str y) = true then some v else getD acc (.str x)
  | [] => by
    rw [List.map_nil, getD_nil, if_neg (fun h => by cases h.2)]
  | p :: r => by
    rw [List.map_cons, getD_cons, getD_cons, getD_map r]
    have hs : hasD (p :: r) (.str y) = (PyData.eqv p.1 (.str y) || hasD r (.str y)) := rfl
    rw [hs]
    by_cases hy : PyData.eqv p.1 (.str y) = true
    · rw [if_pos hy, hy]
      have e := eqv_s.mp hy
      by_cases hx : y = x
      · subst hx
        rw [if_pos hy, if_pos ⟨rfl, rfl⟩]
      · have hn : ¬ PyData.eqv p.1 (.str x) = true := fun z => by
          have := eqv_s.mp z
          rw [e] at this
          cases this
          exact hx rfl
        rw [if_neg hn, if_neg (fun z => hx z.1), if_neg (fun z => hx z.1), if_neg hn]
    · have hy2 : PyData.eqv p.1 (.str y) = false := by simpa using hy
      rw [if_neg hy, hy2, Bool.false_or]
      by_cases hx : PyData.eqv p.1 (.str x) = true
      · rw [if_pos hx, if_pos hx]
        have hne : ¬ y = x := fun z => hy (by rw [z]; exact hx)
        rw [if_neg (fun z => hne z.1)]
      · rw [if_neg hx, if_neg hx]
theorem getD_append {y x : Str} {v : D} : ∀ acc : List (D × D), hasD acc (.str y) = false → getD (acc ++ [(.str y, v)]) (.str x) = if y = x then some v else getD acc (.str x)
  | [], _ => by
    rw [List.nil_append, getD_cons, getD_nil, eqv_str]
    by_cases e : y = x
    · rw [if_pos (by rw [e]; exact beq_self_eq_true x), if_pos e]
    · rw [if_neg (by rw [beq_false_of_ne e]; exact Bool.false_ne_true), if_neg e]
  | p :: r, h => by
    have h' : (PyData.eqv p.1 (.str y) || hasD r (.str y)) = false := h
    rw [Bool.or_eq_false_iff] at h'
    rw [List.cons_append, getD_cons, getD_cons, getD_append r h'.2]
    by_cases hx : PyData.eqv p.1 (.str x) = true
    · rw [if_pos hx, if_pos hx]
      have hne : ¬ y = x := fun z => by rw [z, hx] at h'; cases h'.1
      rw [if_neg hne]
    · rw [if_neg hx, if_neg hx]
theorem getD_put {y x : Str} {v : D} (acc : List (D × D)) : getD (putD acc (.str y) v) (.str x) = if y = x then some v else getD acc (.str x) := by
  unfold putD
  by_cases h : hasD acc (.str y) = true
  · rw [if_pos h, getD_map]
    by_cases e : y = x
    · rw [if_pos ⟨e, h⟩, if_pos e]
    · rw [if_neg (fun z => e z.1), if_neg e]
  · rw [if_neg h]
    exact getD_append acc (by simpa using h)
/-- the last of a name's -/
def lastOf (x : Str) (ps : List (Str × Bool)) (o : Option Bool) : Option Bool := ps.foldl (fun o p => if p.1 = x then some p.2 else o) o
theorem getD_merge {x : Str} : ∀ (ps : List (Str × Bool)) (acc : List (D × D)) (o : Option Bool), getD acc (.str x) = o.map .bool → getD (mergeD acc (ps.map fun p => (.str p.1, .bool p.2))) (.str x) = (lastOf x ps o).map .bool
  | [], acc, o, h => h
  | p :: ps, acc, o, h => by
    show getD (mergeD (putD acc (.str p.1) (.bool p.2)) (ps.map fun p => (.str p.1, .bool p.2))) (.str x) = _
    refine getD_merge ps _ _ ?_
    rw [getD_put, h]
    by_cases e : p.1 = x
    · rw [if_pos e]
      show _ = Option.map PyData.bool (if p.1 = x then some p.2 else o)
      rw [if_pos e]; rfl
    · rw [if_neg e]
      show _ = Option.map PyData.bool (if p.1 = x then some p.2 else o)
      rw [if_neg e]
/-- a set of numbers, told in the order they came -/
def addK (ks : List Nat) (k : Nat) : List Nat := if k ∈ ks then ks else ks ++ [k]
def keysD (ks : List Nat) : List (D × D) := ks.map fun (k : Nat) => (.int (k : Int), .bool true)
theorem has_keys (k : Nat) : ∀ ks : List Nat, hasD (keysD ks) (.int (k : Int)) = decide (k ∈ ks)
  | [] => rfl
  | j :: ks => by
    have ih := has_keys k ks
    show (PyData.eqv (.int (j : Int)) (.int (k : Int)) || hasD (keysD ks) (.int (k : Int))) = _
    rw [ih, eqv_int, Bool.eq_iff_iff, Bool.or_eq_true, beq_iff_eq, decide_eq_true_eq, decide_eq_true_eq, List.mem_cons]
    constructor
    · rintro (h | h)
      · exact .inl (by omega)
      · exact .inr h
    · rintro (h | h)
      · exact .inl (by omega)
      · exact .inr h
theorem map_keys (k : Nat) : ∀ ks : List Nat, (keysD ks).map (fun p => if PyData.eqv p.1 (.int (k : Int)) = true then (p.1, .bool true) else p) = keysD ks
  | [] => rfl
  | j :: ks => by
    show (if PyData.eqv (.int (j : Int)) (.int (k : Int)) = true then (PyData.int (j : Int), PyData.bool true) else (.int (j : Int), .bool true)) :: (keysD ks).map _ = _
    rw [map_keys k ks, ite_self]
    rfl
theorem put_keys (ks : List Nat) (k : Nat) : putD (keysD ks) (.int (k : Int)) (.bool true) = keysD (addK ks k) := by
  unfold putD addK
  rw [has_keys]
  by_cases h : k ∈ ks
  · rw [if_pos (decide_eq_true h), if_pos h, map_keys]
  · rw [if_neg (by rw [decide_eq_true_eq]; exact h), if_neg h]
    unfold keysD
    rw [List.map_append]
    rfl
theorem mem_addK {ks : List Nat} {k j : Nat} : j ∈ addK ks k ↔ j ∈ ks ∨ j = k := by
  unfold addK
  by_cases h : k ∈ ks
  · rw [if_pos h]
    exact ⟨.inl, fun z => z.elim id fun e => e ▸ h⟩
  · rw [if_neg h, List.mem_append, List.mem_singleton]
theorem nodup_addK {ks : List Nat} {k : Nat} (h : ks.Nodup) : (addK ks k).Nodup := by
  unfold addK
  by_cases e : k ∈ ks
  · rw [if_pos e]; exact h
  · rw [if_neg e]
    rw [List.nodup_append]
    exact ⟨h, by simp, fun a ha b hb z => e (by rw [List.mem_singleton] at hb; rw [← hb, ← z]; exact ha)⟩
/-- a hutch of N has no more than N in it -/
theorem few : ∀ (N : Nat) (ks : List Nat), ks.Nodup → (∀ k ∈ ks, k < N) → ks.length ≤ N
  | 0, ks, _, h => by
    cases ks with
    | nil => exact Nat.le_refl _
    | cons a r => exact absurd (h a (List.mem_cons_self ..)) (by omega)
  | N + 1, ks, hn, h => by
    by_cases e : N ∈ ks
    · have h1 := few N (ks.erase N) (hn.erase N) fun k hk => by
        have := (hn.mem_erase_iff).mp hk
        have := h k this.2
        omega
      rw [List.length_erase_of_mem e] at h1
      omega
    · have := few N ks hn fun k hk => by
        have := h k hk
        have : k ≠ N := fun z => e (z ▸ hk)
        omega
      omega

/-! ### what a deed does to a world -/
abbrev Chg := Cnd × Str × Bool
def chgE (c : Chg) : D := .tuple [c.1.enc, .str c.2.1, .bool c.2.2]
def wayE (w : List Chg) : D := .list (w.map chgE)
def chg1 (fs : List Str) (w v : Nat) (c : Chg) : Nat :=
  if c.1.hold fs w = true then (if c.2.2 = true then v ||| 2 ^ fs.idxOf c.2.1 else (v ||| 2 ^ fs.idxOf c.2.1) ^^^ 2 ^ fs.idxOf c.2.1) else v
def chg (fs : List Str) (way : List Chg) (w : Nat) : Nat := way.foldl (chg1 fs w) w
theorem bor_ok (v k : Nat) : Builtin.bitOr ((v : Nat) : Int) (2 ^ k) = ((v ||| 2 ^ k : Nat) : Int) := by
  have e : (2 : Int) ^ k = ((2 ^ k : Nat) : Int) := by simp
  rw [e, L2.bitOr_nn (Int.natCast_nonneg _) (Int.natCast_nonneg _), Int.toNat_natCast, Int.toNat_natCast]
theorem bxor_ok (v k : Nat) : Builtin.bitXor ((v : Nat) : Int) (2 ^ k) = ((v ^^^ 2 ^ k : Nat) : Int) := by
  have e : (2 : Int) ^ k = ((2 ^ k : Nat) : Int) := by simp
  rw [e, Bits.bitXor_pp (Int.natCast_nonneg _) (Int.natCast_nonneg _), Int.toNat_natCast, Int.toNat_natCast]
def wayOn (fs : List Str) (d : Nat) (way : List Chg) : Prop := ∀ c ∈ way, c.1.on fs ∧ c.1.dep < d ∧ c.2.1 ∈ fs
theorem changed_ok {fs : List Str} (hl : fs.length ≤ 100) {way : List Chg} {n : Nat} (hw : wayOn fs n way) {w : Nat} (h1 h2 h3 h4 : D) :
    C (n + 1) 6 [.tuple [sD fs, h1, h2, h3, h4], wayE way, .int (w : Nat)] = .ok (false, .int (chg fs way w : Nat)) := by
  have L := fgo_fold (cl := C n) (gc := gc0) (g := gas) (vs := [5, 6, 7]) (one := false) (b := b_changed_0) (ks := [5, 6, 7, 8]) (enc := chgE)
    (pack := fun (v : Nat) => [.fz (.tuple [sD fs, h1, h2, h3, h4]), .fz (wayE way), .fz (.int (w : Nat)), .fz (sD fs), .fz (.int (v : Nat)), .un, .un, .un, .un]) (step := chg1 fs w) (fun _ => True) (l := way) (x := w) (fun c hc v ds _ => by
      refine ⟨?_, trivial⟩
      obtain ⟨o1, o2, o3⟩ := hw c hc
      have i1 := idx_le o3 hl
      obtain ⟨c, x, t⟩ := c
      rw [s_fgo]
      cases hh : c.hold fs w <;> cases t <;> simp [b_changed_0, chgE, holds_ok o1 o2, hh, chg1, k_idx o3, i1, bor_ok, bxor_ok]) trivial
  rw [at_changed]
  simp [d_changed, wayE] at L ⊢
  rw [L]
  simp [chg]
end F1
end VL
namespace VL
open PySem PySem.Spec L2
namespace F1

def crowdE (ws : List Nat) : D := .tuple (ws.map natD)
def sortN (ks : List Nat) : List Nat := ks.mergeSort fun a b => decide (a ≤ b)
theorem ints_keys : ∀ ks : List Nat, intsOf ((keysD ks).map (·.1)) = some (ks.map fun (k : Nat) => (k : Int))
  | [] => rfl
  | k :: ks => by
    show (intsOf ((keysD ks).map (·.1))).map _ = _
    rw [ints_keys ks]; rfl
theorem sortI_nat (ks : List Nat) : sortI (ks.map fun (k : Nat) => (k : Int)) = (sortN ks).map fun (k : Nat) => (k : Int) := by
  unfold sortI sortN
  rw [List.map_mergeSort]
  intro a _ b _
  simp
theorem sorted_keys {ks : List Nat} (h : ks.length < 64) : biD .sorted [.dict (keysD ks)] = .ok (.ow, .list ((sortN ks).map natD)) := by
  show (match intsOf ((keysD ks).map (·.1)) with | some ns => if ns.length < 64 then Out.ok (Kd.ow, PyData.list ((sortI ns).map .int)) else .stuck | none => .stuck) = _
  rw [ints_keys]
  show (if (ks.map fun (k : Nat) => (k : Int)).length < 64 then _ else _) = _
  rw [if_pos (by rw [List.length_map]; exact h), sortI_nat, List.map_map]
  rfl
/-! ### the worlds behind a deed -/
def behK (fs : List Str) (ways : List (List Chg)) (ks ws : List Nat) : List Nat := ws.foldl (fun ks w => ways.foldl (fun ks way => addK ks (chg fs way w)) ks) ks
def behind (fs : List Str) (ways : List (List Chg)) (ws : List Nat) : List Nat := sortN (behK fs ways [] ws)
theorem testBit_chg1 {fs : List Str} {w v j : Nat} {c : Chg} : (chg1 fs w v c).testBit j = if c.1.hold fs w = true ∧ fs.idxOf c.2.1 = j then c.2.2 else v.testBit j := by
  obtain ⟨c, x, t⟩ := c
  unfold chg1
  by_cases h : c.hold fs w = true
  · rw [if_pos h]
    cases t with
    | true =>
      rw [if_pos rfl, Nat.testBit_or, Nat.testBit_two_pow]
      by_cases e : fs.idxOf x = j
      · rw [if_pos ⟨h, e⟩]; simp [e]
      · rw [if_neg (fun z => e z.2)]; simp [e]
    | false =>
      rw [if_neg Bool.false_ne_true, Nat.testBit_xor, Nat.testBit_or, Nat.testBit_two_pow]
      by_cases e : fs.idxOf x = j
      · rw [if_pos ⟨h, e⟩]; simp [e]
      · rw [if_neg (fun z => e z.2)]; simp [e]
  · rw [if_neg h, if_neg (fun z => h z.1)]
theorem chg1_lt {fs : List Str} {w v : Nat} {c : Chg} (hv : v < 2 ^ fs.length) (hc : c.2.1 ∈ fs) : chg1 fs w v c < 2 ^ fs.length := by
  have h2 : 2 ^ fs.idxOf c.2.1 < 2 ^ fs.length := Nat.pow_lt_pow_right (by decide) (List.idxOf_lt_length_of_mem hc)
  unfold chg1
  split
  · split
    · exact Nat.or_lt_two_pow hv h2
    · exact Nat.xor_lt_two_pow (Nat.or_lt_two_pow hv h2) h2
  · exact hv
theorem chgs_lt {fs : List Str} {w : Nat} : ∀ {way : List Chg} {v : Nat}, v < 2 ^ fs.length → (∀ c ∈ way, c.2.1 ∈ fs) → way.foldl (chg1 fs w) v < 2 ^ fs.length
  | [], _, hv, _ => hv
  | c :: way, v, hv, h => chgs_lt (way := way) (chg1_lt hv (h c (List.mem_cons_self ..))) fun c m => h c (List.mem_cons_of_mem _ m)
theorem chg_lt {fs : List Str} {d : Nat} {way : List Chg} (hw : wayOn fs d way) {w : Nat} (h : w < 2 ^ fs.length) : chg fs way w < 2 ^ fs.length := chgs_lt h fun c m => (hw c m).2.2
def KsOk (n : Nat) (ks : List Nat) : Prop := ks.Nodup ∧ ∀ k ∈ ks, k < 2 ^ n
theorem KsOk.add {n : Nat} {ks : List Nat} {k : Nat} (h : KsOk n ks) (hk : k < 2 ^ n) : KsOk n (addK ks k) := ⟨nodup_addK h.1, fun j hj => by
  rcases mem_addK.mp hj with z | z
  · exact h.2 j z
  · rw [z]; exact hk⟩
theorem KsOk.few {n : Nat} {ks : List Nat} (h : KsOk n ks) (hn : n ≤ 5) : ks.length < 64 := by
  have h1 := F1.few (2 ^ n) ks h.1 h.2
  have h2 : 2 ^ n ≤ 2 ^ 5 := Nat.pow_le_pow_right (by decide) hn
  omega
theorem ksOk_ways {fs : List Str} {d w : Nat} (hw : w < 2 ^ fs.length) : ∀ {ways : List (List Chg)} {ks : List Nat}, (∀ way ∈ ways, wayOn fs d way) → KsOk fs.length ks → KsOk fs.length (ways.foldl (fun ks way => addK ks (chg fs way w)) ks)
  | [], _, _, h => h
  | way :: ways, ks, ho, h => ksOk_ways (ways := ways) hw (fun way m => ho way (List.mem_cons_of_mem _ m)) (h.add (chg_lt (ho way (List.mem_cons_self ..)) hw))
theorem ksOk_beh {fs : List Str} {d : Nat} {ways : List (List Chg)} (ho : ∀ way ∈ ways, wayOn fs d way) : ∀ {ws ks : List Nat}, (∀ w ∈ ws, w < 2 ^ fs.length) → KsOk fs.length ks → KsOk fs.length (behK fs ways ks ws)
  | [], _, _, h => h
  | w :: ws, ks, hw, h => ksOk_beh (ws := ws) ho (fun w m => hw w (List.mem_cons_of_mem _ m)) (ksOk_ways (hw w (List.mem_cons_self ..)) ho h)
theorem behind_lt {fs : List Str} {d : Nat} {ways : List (List Chg)} (ho : ∀ way ∈ ways, wayOn fs d way) {ws : List Nat} (hw : ∀ w ∈ ws, w < 2 ^ fs.length) : ∀ w ∈ behind fs ways ws, w < 2 ^ fs.length := fun w h => by
  unfold behind sortN at h
  rw [List.mem_mergeSort] at h
  exact (ksOk_beh ho hw ⟨List.nodup_nil, fun _ h => by cases h⟩).2 w h
def waysE (ways : List (List Chg)) : D := .list (ways.map wayE)
theorem keysD_len (ks : List Nat) : (keysD ks).length = ks.length := List.length_map _
theorem lt_line {n : Nat} (h : n < 64) : n < line := Nat.lt_trans h (by decide)
theorem keysD_nil : keysD [] = [] := rfl
@[simp] theorem one_crowd (ws : List Nat) : onek (.ok (.fz, crowdE ws)) = .ok (ws.map natD) := rfl
@[simp] theorem one_ways (ws : List (List Chg)) : onek (.ok (.fz, waysE ws)) = .ok (ws.map wayE) := rfl
@[simp] theorem one_way (ws : List Chg) : onek (.ok (.fz, wayE ws)) = .ok (ws.map chgE) := rfl
section
variable {fs : List Str} {ways : List (List Chg)} {n : Nat} {h0 h1 h2 h3 h4 h5 : D}
theorem all_behind_ok (hl : fs.length ≤ 5) (ho : ∀ way ∈ ways, wayOn fs n way) {ws : List Nat} (hw : ∀ w ∈ ws, w < 2 ^ fs.length) (x0 x1 : D) :
    C (n + 2) 7 [.tuple [sD fs, h1, h2, h3, h4], .tuple [x0, x1, waysE ways], crowdE ws] = .ok (false, crowdE (behind fs ways ws)) := by
  have hl2 : fs.length ≤ 100 := by omega
  have T : ∀ w, w < 2 ^ fs.length → ∀ ks, KsOk fs.length ks → _ := fun w hlt ks hks => fgo_fold (cl := C (n + 1)) (gc := gc0) (g := gas) (vs := [5]) (one := true) (b := b_all_behind_0) (ks := [5]) (enc := wayE)
    (pack := fun (ks : List Nat) => [.fz (.tuple [sD fs, h1, h2, h3, h4]), .fz (.tuple [x0, x1, waysE ways]), .fz (crowdE ws), .ow (.dict (keysD ks)), .fz (natD w), .un]) (step := fun ks way => addK ks (chg fs way w)) (KsOk fs.length) (l := ways) (x := ks) (fun way hm ks ds hks => by
      refine ⟨?_, hks.add (chg_lt (ho way hm) hlt)⟩
      have hln := lt_line (hks.few hl)
      have e := changed_ok (n := n) hl2 (ho way hm) (w := w) h1 h2 h3 h4
      rw [s_fgo]
      simp [b_all_behind_0, e, natD, keysD_len, hln, put_keys]) hks
  have L := fgo_fold (cl := C (n + 1)) (gc := gc0) (g := gas) (vs := [4]) (one := true) (b := b_all_behind_1) (ks := [4, 5]) (enc := natD)
    (pack := fun (ks : List Nat) => [.fz (.tuple [sD fs, h1, h2, h3, h4]), .fz (.tuple [x0, x1, waysE ways]), .fz (crowdE ws), .ow (.dict (keysD ks)), .un, .un]) (step := fun ks w => ways.foldl (fun ks way => addK ks (chg fs way w)) ks) (KsOk fs.length) (l := ws) (x := []) (fun w hm ks ds hks => by
      refine ⟨?_, ksOk_ways (hw w hm) ho hks⟩
      have t := (T w (hw w hm) ks hks).1
      rw [s_fgo]
      simp [b_all_behind_1, one_ways]
      rw [t]
      simp) ⟨List.nodup_nil, fun _ h => by cases h⟩
  have hf := KsOk.few (ksOk_beh ho hw ⟨List.nodup_nil, fun _ h => by cases h⟩) hl
  have hs := sorted_keys hf
  have L1 := L.1
  simp only [keysD_nil] at L1
  unfold behK at hs
  rw [at_all_behind]
  simp [d_all_behind, one_crowd]
  rw [L1]
  simp [hs]
  rfl
end
end F1
end VL
namespace VL
open PySem PySem.Spec L2
namespace F1

/-! ### the law's own: worlds behind a deed -/
def trE (p : Str × Bool) : D := .tuple [.str p.1, .bool p.2]
def tr (fs : List Str) (way : List Chg) (w : Nat) : List (Str × Bool) := way.filterMap fun c => if c.1.hold fs w = true then some c.2 else none
theorem pairs_tr : ∀ ps : List (Str × Bool), pairsOf (ps.map trE) = some (ps.map fun p => (.str p.1, .bool p.2))
  | [] => rfl
  | p :: ps => by
    show (if keyD (.str p.1) = true then (pairsOf (ps.map trE)).map _ else none) = _
    rw [if_pos (show keyD (.str p.1) = true from rfl), pairs_tr ps]; rfl
theorem dict_tr (ps : List (Str × Bool)) : biD .dict [.list (ps.map trE)] = .ok (.ow, .dict (mergeD [] (ps.map fun p => (.str p.1, .bool p.2)))) := by
  show (match pairsOf (ps.map trE) with | some kvs => Out.ok (Kd.ow, PyData.dict (mergeD [] kvs)) | none => .stuck) = _
  rw [pairs_tr]
/-- the truth of a fact behind a way -/
def soOf (fs : List Str) (way : List Chg) (w : Nat) (k : Nat) : Bool := match fs[k]? with
  | some x => (lastOf x (tr fs way w) none).getD (w.testBit k)
  | none => false
def b2n (b : Bool) : Nat := if b then 1 else 0
def sumB (f : Nat → Bool) : Nat → Nat
  | 0 => 0
  | n + 1 => sumB f n + 2 ^ n * b2n (f n)
theorem sumB_fold (f : Nat → Bool) : ∀ n, (List.range n).foldl (fun o k => o + 2 ^ k * b2n (f k)) 0 = sumB f n
  | 0 => rfl
  | n + 1 => by rw [List.range_succ, List.foldl_append, sumB_fold f n]; rfl
theorem sumB_lt (f : Nat → Bool) : ∀ n, sumB f n < 2 ^ n
  | 0 => Nat.one_pos
  | n + 1 => by
    have := sumB_lt f n
    show sumB f n + 2 ^ n * b2n (f n) < 2 ^ (n + 1)
    have h : b2n (f n) ≤ 1 := by unfold b2n; split <;> omega
    have h2 : 2 ^ n * b2n (f n) ≤ 2 ^ n * 1 := Nat.mul_le_mul_left _ h
    rw [Nat.pow_succ]
    omega
theorem sumB_bit (f : Nat → Bool) (j : Nat) : ∀ n, (sumB f n).testBit j = (decide (j < n) && f j)
  | 0 => by simp [sumB]
  | n + 1 => by
    show (sumB f n + 2 ^ n * b2n (f n)).testBit j = _
    rw [Nat.add_comm, Nat.testBit_two_pow_mul_add _ (sumB_lt f n), sumB_bit f j n]
    by_cases h : j < n
    · rw [if_pos h]
      simp [h, Nat.lt_succ_of_lt h]
    · rw [if_neg h]
      by_cases e : j = n
      · subst e
        simp [b2n]
        cases f j <;> simp
      · have h2 : ¬ j < n + 1 := by omega
        have h3 : 0 < j - n := by omega
        simp [h2, b2n]
        cases f n
        · simp
        · obtain ⟨q, hq⟩ : ∃ q, j - n = q + 1 := ⟨j - n - 1, by omega⟩
          simp [hq, Nat.testBit_succ]
theorem idxOf_nd {x : Str} : ∀ {fs : List Str} {j : Nat}, fs.Nodup → fs[j]? = some x → fs.idxOf x = j
  | y :: fs, 0, hn, h => by
    cases h
    exact List.idxOf_cons_self
  | y :: fs, j + 1, hn, h => by
    have h' : fs[j]? = some x := h
    have hm : x ∈ fs := List.mem_of_getElem? h'
    rw [List.nodup_cons] at hn
    have hne : y ≠ x := fun z => hn.1 (z ▸ hm)
    rw [List.idxOf_cons, beq_false_of_ne hne, idxOf_nd hn.2 h']
    rfl
theorem chg_bit {fs : List Str} (hn : fs.Nodup) {w j : Nat} {x : Str} (hx : fs[j]? = some x) (b : Bool) : ∀ {way : List Chg} {v : Nat} {o : Option Bool}, (∀ c ∈ way, c.2.1 ∈ fs) → v.testBit j = o.getD b →
    (way.foldl (chg1 fs w) v).testBit j = (lastOf x (tr fs way w) o).getD b
  | [], v, o, _, h => h
  | c :: way, v, o, ho, h => by
    have hc := ho c (List.mem_cons_self ..)
    have hj : fs.idxOf c.2.1 = j ↔ c.2.1 = x := by
      obtain ⟨hl, e⟩ := List.getElem?_eq_some_iff.mp hx
      constructor
      · intro z
        have := List.getElem_idxOf (List.idxOf_lt_length_of_mem hc)
        rw [← this, ← e]
        congr 1
      · intro z
        rw [z, ← e]
        exact idxOf_nd hn (List.getElem?_eq_getElem hl)
    rw [List.foldl_cons]
    by_cases hh : c.1.hold fs w = true
    · have e : tr fs (c :: way) w = c.2 :: tr fs way w := by
        unfold tr
        rw [List.filterMap_cons_some (b := c.2) (by simp [hh])]
      rw [e]
      show _ = (lastOf x (tr fs way w) (if c.2.1 = x then some c.2.2 else o)).getD b
      refine chg_bit hn hx b (way := way) (fun c m => ho c (List.mem_cons_of_mem _ m)) ?_
      rw [testBit_chg1]
      by_cases z : c.2.1 = x
      · rw [if_pos ⟨hh, hj.mpr z⟩, if_pos z]; rfl
      · rw [if_neg (fun q => z (hj.mp q.2)), if_neg z]; exact h
    · have e : tr fs (c :: way) w = tr fs way w := by
        unfold tr
        rw [List.filterMap_cons_none (by simp [hh])]
      rw [e]
      refine chg_bit hn hx b (way := way) (fun c m => ho c (List.mem_cons_of_mem _ m)) ?_
      rw [testBit_chg1, if_neg (fun q => hh q.1)]; exact h
theorem chg_sum {fs : List Str} (hn : fs.Nodup) {way : List Chg} {d : Nat} (ho : wayOn fs d way) {w : Nat} (hw : w < 2 ^ fs.length) : sumB (soOf fs way w) fs.length = chg fs way w := by
  refine Nat.eq_of_testBit_eq fun j => ?_
  rw [sumB_bit]
  by_cases h : j < fs.length
  · rw [decide_eq_true h, Bool.true_and]
    have hx : fs[j]? = some fs[j] := List.getElem?_eq_getElem h
    unfold soOf
    rw [hx]
    exact (chg_bit hn hx (w.testBit j) (way := way) (o := none) (fun c m => (ho c m).2.2) rfl).symm
  · rw [decide_eq_false h, Bool.false_and]
    exact (Nat.testBit_lt_two_pow (Nat.lt_of_lt_of_le (chg_lt ho hw) (Nat.pow_le_pow_right (by decide) (by omega)))).symm
theorem ix_sD {fs : List Str} {k : Nat} {x : Str} (h : fs[k]? = some x) : ixD (sD fs) (.int (k : Int)) = .ok (.fz, .str x) := by
  exact x_l (atI_nat (a := PyData.str x) (by rw [List.getElem?_map, h]; rfl))
theorem k_get2 {T : List (D × D)} {x : Str} {o : Option Bool} {b : Bool} {k : Kd} (h : getD T (.str x) = o.map .bool) : mek .get2 (.ok (k, .dict T)) (.ok (.fz, .list [.str x, .bool b])) = .ok (.fz, .bool (o.getD b)) := by
  show meD .get2 (.dict T) [.str x, .bool b] = _
  show (if keyD (.str x) = true then Out.ok (Kd.fz, (getD T (.str x)).getD (.bool b)) else .stuck) = _
  rw [if_pos (show keyD (.str x) = true from rfl), h]
  cases o <;> rfl
theorem len_sD (fs : List Str) : biD .len [sD fs] = .ok (.fz, .int (fs.length : Nat)) := by
  show Out.ok (Kd.fz, PyData.int ((fs.map PyData.str).length : Nat)) = _
  rw [List.length_map]
theorem mul_0 {i : Int} : binD .mul (.int i) (.int 0) = .ok (.fz, .int 0) := by
  rw [o_mul2 (by decide) (by decide), Int.mul_zero]
theorem mul_1 {i : Int} : binD .mul (.int i) (.int 1) = .ok (.fz, .int i) := by
  rw [o_mul2 (by decide) (by decide), Int.mul_one]
section
variable {fs : List Str} {ways : List (List Chg)} {n : Nat} {h0 h1 h2 h3 h4 h5 : D}
theorem lbehind_ok (hl : fs.length ≤ 5) (hn : fs.Nodup) (ho : ∀ way ∈ ways, wayOn fs n way) {ws : List Nat} (hw : ∀ w ∈ ws, w < 2 ^ fs.length) (x0 x1 : D) :
    C (n + 1) 17 [sD fs, .tuple [x0, x1, waysE ways], crowdE ws] = .ok (false, crowdE (behind fs ways ws)) := by
  have hl2 : fs.length ≤ 100 := by omega
  have hl3 : fs.length ≤ 1000 := by omega
  -- the sum
  have U : ∀ w, w < 2 ^ fs.length → ∀ way, wayOn fs n way → ∀ ks, _ := fun w hlt way hm ks => fgo_fold (cl := C n) (gc := gc0) (g := gas) (vs := [11]) (one := true) (b := b__law_behind_0) (ks := [11, 12]) (enc := natD)
    (pack := fun (o : Nat) => [.fz (sD fs), .fz (.tuple [x0, x1, waysE ways]), .fz (crowdE ws), .ow (.dict (keysD ks)), .fz (natD w), .fz (wayE way), .nw (.dict (mergeD [] ((tr fs way w).map fun p => (.str p.1, .bool p.2)))), .un, .un, .un, .fz (natD o), .un, .un])
    (step := fun o k => o + 2 ^ k * b2n (soOf fs way w k)) (fun _ => True) (l := List.range fs.length) (x := 0) (fun k hk o ds _ => by
      refine ⟨?_, trivial⟩
      have hk2 : k < fs.length := List.mem_range.mp hk
      have hx : fs[k]? = some fs[k] := List.getElem?_eq_getElem hk2
      have hk3 : k ≤ 1000 := by omega
      have g2 := getD_merge (x := fs[k]) (tr fs way w) [] none rfl
      have hs : soOf fs way w k = (lastOf fs[k] (tr fs way w) none).getD (w.testBit k) := by
        unfold soOf
        rw [hx]
      have hb := bit_div w k
      rw [s_fgo]
      cases hso : soOf fs way w k <;> (rw [hso] at hs; simp [b__law_behind_0, ix_sD hx, natD, hk3, hb, k_get2 g2, ← hs, mul_0, mul_1, b2n])) trivial
  have V : ∀ w, w < 2 ^ fs.length → ∀ ks, KsOk fs.length ks → _ := fun w hlt ks hks => fgo_fold (cl := C n) (gc := gc0) (g := gas) (vs := [5]) (one := true) (b := b__law_behind_1) (ks := [5, 6, 7, 8, 9, 10, 11, 12]) (enc := wayE)
    (pack := fun (ks : List Nat) => [.fz (sD fs), .fz (.tuple [x0, x1, waysE ways]), .fz (crowdE ws), .ow (.dict (keysD ks)), .fz (natD w), .un, .un, .un, .un, .un, .un, .un, .un]) (step := fun ks way => addK ks (chg fs way w)) (KsOk fs.length) (l := ways) (x := ks) (fun way hm ks ds hks => by
      refine ⟨?_, hks.add (chg_lt (ho way hm) hlt)⟩
      have hln := lt_line (hks.few hl)
      have u := (U w hlt way (ho way hm) ks).1
      rw [sumB_fold, chg_sum hn (ho way hm) hlt] at u
      have hlc : lcGo (lcF (C n) gc0 [7, 8, 9] false (.one (.call 15 (.cons (.var 0) (.cons (.var 7) (.cons (.var 4) .nil))))) (.tup (.cons (.var 8) (.cons (.var 9) .nil)))
          [.fz (sD fs), .fz (.tuple [x0, x1, waysE ways]), .fz (crowdE ws), .ow (.dict (keysD ks)), .fz (natD w), .fz (wayE way), .un, .un, .un, .un, .un, .un, .un]) (way.map chgE) = .ok ((tr fs way w).map trE) := by
        rw [lcGo_map (k := fun c => if c.1.hold fs w = true then some (trE c.2) else none) fun c hc => ?_]
        · congr 1
          unfold tr
          rw [List.map_filterMap]
          congr 1
          funext c
          by_cases h : c.1.hold fs w = true
          · simp [h]
          · simp [h]
        · obtain ⟨o1, o2, o3⟩ := ho way hm c hc
          have hh := lholds_ok hl2 (w := w) o1 o2
          rw [lcF_eq]
          cases hc : c.1.hold fs w <;> (rw [hc] at hh; simp [chgE, natD, hh, trE])
      rw [show natD 0 = PyData.int 0 from rfl] at u
      rw [s_fgo]
      simp [b__law_behind_1, one_way, hlc, dict_tr, len_sD, hl3]
      rw [u]
      simp [natD, keysD_len, hln, put_keys]) hks
  have L := fgo_fold (cl := C n) (gc := gc0) (g := gas) (vs := [4]) (one := true) (b := b__law_behind_2) (ks := [4, 5, 6, 7, 8, 9, 10, 11, 12]) (enc := natD)
    (pack := fun (ks : List Nat) => [.fz (sD fs), .fz (.tuple [x0, x1, waysE ways]), .fz (crowdE ws), .ow (.dict (keysD ks)), .un, .un, .un, .un, .un, .un, .un, .un, .un]) (step := fun ks w => ways.foldl (fun ks way => addK ks (chg fs way w)) ks) (KsOk fs.length) (l := ws) (x := []) (fun w hm ks ds hks => by
      refine ⟨?_, ksOk_ways (hw w hm) ho hks⟩
      have t := (V w (hw w hm) ks hks).1
      rw [s_fgo]
      simp [b__law_behind_2, one_ways]
      rw [t]
      simp) ⟨List.nodup_nil, fun _ h => by cases h⟩
  have hf := KsOk.few (ksOk_beh ho hw ⟨List.nodup_nil, fun _ h => by cases h⟩) hl
  have hs := sorted_keys hf
  have L1 := L.1
  simp only [keysD_nil] at L1
  unfold behK at hs
  rw [at__law_behind]
  simp [d__law_behind, one_crowd]
  rw [L1]
  simp [hs]
  rfl
end
end F1
end VL
namespace VL
open PySem PySem.Spec L2
namespace F1

structure Deed where
  name : Str
  need : Cnd
  ways : List (List Chg)
structure Look where
  name : Str
  need : Cnd
  seen : Cnd
structure House where
  facts : List Str
  deeds : List Deed
  looks : List Look
  firsts : List Nat
  wish : Cnd
def deedE (d : Deed) : D := .tuple [.str d.name, d.need.enc, waysE d.ways]
def lookE (d : Look) : D := .tuple [.str d.name, d.need.enc, d.seen.enc]
def deedsE (ds : List Deed) : D := .list (ds.map deedE)
def looksE (ds : List Look) : D := .list (ds.map lookE)
def natsE (ws : List Nat) : D := .list (ws.map natD)
def houseE (h : House) : D := .tuple [sD h.facts, deedsE h.deeds, looksE h.looks, natsE h.firsts, h.wish.enc]
structure Good (n : Nat) (h : House) : Prop where
  few : h.facts.length ≤ 5
  nd : h.facts.Nodup
  need : ∀ d ∈ h.deeds, d.need.on h.facts ∧ d.need.dep < n
  ways : ∀ d ∈ h.deeds, ∀ way ∈ d.ways, wayOn h.facts n way
  name : ∀ d ∈ h.deeds, SeqAt.shaped (.str d.name) = true
  wish : h.wish.on h.facts ∧ h.wish.dep < n
theorem wayOn.mono {fs : List Str} {n m : Nat} {way : List Chg} (h : wayOn fs n way) (l : n ≤ m) : wayOn fs m way := fun c hc => ⟨(h c hc).1, Nat.lt_of_lt_of_le (h c hc).2.1 l, (h c hc).2.2⟩
theorem Good.mono {n m : Nat} {h : House} (g : Good n h) (l : n ≤ m) : Good m h :=
  ⟨g.few, g.nd, fun d hd => ⟨(g.need d hd).1, Nat.lt_of_lt_of_le (g.need d hd).2 l⟩, fun d hd way hw => (g.ways d hd way hw).mono l, g.name, g.wish.1, Nat.lt_of_lt_of_le g.wish.2 l⟩
@[simp] theorem one_deeds (ds : List Deed) : onek (.ok (.fz, deedsE ds)) = .ok (ds.map deedE) := nr rfl
@[simp] theorem one_names (ds : List Str) : onek (.ok (.fz, sD ds)) = .ok (ds.map .str) := nr rfl
@[simp] theorem h_0 (h : House) : ixD (houseE h) (.int 0) = .ok (.fz, sD h.facts) := x_t0
@[simp] theorem h_1 (h : House) : ixD (houseE h) (.int 1) = .ok (.fz, deedsE h.deeds) := x_t1
@[simp] theorem h_2 (h : House) : ixD (houseE h) (.int 2) = .ok (.fz, looksE h.looks) := x_t2
@[simp] theorem h_3 (h : House) : ixD (houseE h) (.int 3) = .ok (.fz, natsE h.firsts) := x_t3
@[simp] theorem h_4 (h : House) : ixD (houseE h) (.int 4) = .ok (.fz, h.wish.enc) := x_t4
@[simp] theorem d_0 (d : Deed) : ixD (deedE d) (.int 0) = .ok (.fz, .str d.name) := x_t0
@[simp] theorem d_1 (d : Deed) : ixD (deedE d) (.int 1) = .ok (.fz, d.need.enc) := x_t1
@[simp] theorem d_2 (d : Deed) : ixD (deedE d) (.int 2) = .ok (.fz, waysE d.ways) := x_t2
def namedIn (ds : List Deed) (x : Str) : Option Deed := ds.find? fun d => d.name == x
theorem walk_find {x : Str} : ∀ ds : List Deed, walkE (fun (_ : Unit) (d : Deed) => if (d.name == x) = true then .inr (false, deedE d) else .inl ()) ds () = match namedIn ds x with | some d => .inr (false, deedE d) | none => .inl ()
  | [] => rfl
  | d :: ds => by
    unfold walkE namedIn
    rw [List.find?_cons]
    cases h : d.name == x with
    | true => rfl
    | false => exact walk_find ds
section
variable {h : House} {n : Nat} {x0 x2 x3 x4 : D}
theorem need_deed_ok (g : Good n h) {x : Str} {d : Deed} (hx : SeqAt.shaped (.str x) = true) (hd : namedIn h.deeds x = some d) : C (n + 1) 3 [houseE h, .str x] = .ok (false, deedE d) := by
  have L := fgo_walk (cl := C n) (gc := gc0) (g := gas) (vs := [2]) (one := true) (b := b_need_deed_0) (ks := [2]) (enc := deedE)
    (pack := fun (_ : Unit) => [.fz (houseE h), .fz (.str x), .un]) (step := fun (_ : Unit) (d : Deed) => if (d.name == x) = true then .inr (false, deedE d) else .inl ()) (fun _ => True) (l := h.deeds) (x := ()) (fun d hm u ds _ => by
      have hn := g.name d hm
      cases hc : d.name == x
      · refine ⟨?_, trivial⟩
        rw [s_fgo]
        simp [b_need_deed_0, hn, hx, hc]
      · show _ = _
        rw [s_fgo]
        simp [b_need_deed_0, hn, hx, hc]) trivial
  rw [walk_find, hd] at L
  rw [at_need_deed]
  simp [d_need_deed]
  rw [L]
  simp [outE]
/-- the deeds of a row, each by its name -/
def deedsOf (ds : List Deed) : List Str → Option (List Deed)
  | [] => some []
  | x :: xs => match namedIn ds x, deedsOf ds xs with
    | some d, some r => some (d :: r)
    | _, _ => none
theorem need_deeds_go (g : Good n h) : ∀ {row : List Str} {ds : List Deed} (τ : Ta), (∀ x ∈ row, SeqAt.shaped (.str x) = true) → deedsOf h.deeds row = some ds →
    lcGo (lcF (C (n + 1)) gc0 [2] true (.cst (.bool true)) (.call 3 (.cons (.var 0) (.cons (.var 2) .nil))) [.fz (houseE h), τ.headD .un, .un]) (row.map .str) = .ok (ds.map deedE)
  | [], ds, τ, _, e => by
    cases e; rfl
  | x :: row, ds, τ, hs, e => by
    unfold deedsOf at e
    cases e1 : namedIn h.deeds x with
    | none => rw [e1] at e; cases e
    | some d =>
      cases e2 : deedsOf h.deeds row with
      | none => rw [e1, e2] at e; cases e
      | some r =>
        rw [e1, e2] at e
        cases e
        have i1 := need_deed_ok g (hs x (List.mem_cons_self ..)) e1
        have i2 := need_deeds_go g τ (fun y m => hs y (List.mem_cons_of_mem _ m)) e2
        rw [List.map_cons]
        unfold lcGo
        rw [i2, lcF_eq]
        simp [i1]
theorem need_deeds_ok (g : Good n h) {row : List Str} {ds : List Deed} (hs : ∀ x ∈ row, SeqAt.shaped (.str x) = true) (e : deedsOf h.deeds row = some ds) : C (n + 2) 8 [houseE h, sD row] = .ok (true, deedsE ds) := by
  have i := need_deeds_go g [.fz (sD row)] hs e
  rw [at_need_deeds]
  simp [d_need_deeds] at i ⊢
  rw [i]
  simp
  rfl
def failing (fs : List Str) (c : Cnd) (ws : List Nat) : Option Nat := ws.find? fun w => !c.hold fs w
def optD : Option Nat → D
  | some w => natD w
  | none => .none
theorem holds_in_ok {c : Cnd} {w : Nat} (o : c.on h.facts) (l : c.dep < n) : C (n + 1) 2 [houseE h, c.enc, natD w] = .ok (false, .bool (c.hold h.facts w)) := by
  have e := holds_ok (w := w) o l
  rw [at_holds_in]
  unfold natD
  simp [d_holds_in, e]
theorem walk_fail {c : Cnd} {fs : List Str} : ∀ ws : List Nat, walkE (fun (_ : Unit) (w : Nat) => if c.hold fs w = true then .inl () else .inr (false, natD w)) ws () = match failing fs c ws with | some d => .inr (false, natD d) | none => .inl ()
  | [] => rfl
  | d :: ds => by
    unfold walkE failing
    rw [List.find?_cons]
    cases h : c.hold fs d with
    | false => rfl
    | true => exact walk_fail ds
theorem failing_in_ok {c : Cnd} {ws : List Nat} (o : c.on h.facts) (l : c.dep < n) : C (n + 2) 9 [houseE h, c.enc, crowdE ws] = .ok (false, optD (failing h.facts c ws)) := by
  have L := fgo_walk (cl := C (n + 1)) (gc := gc0) (g := gas) (vs := [3]) (one := true) (b := b_failing_in_0) (ks := [3]) (enc := natD)
    (pack := fun (_ : Unit) => [.fz (houseE h), .fz c.enc, .fz (crowdE ws), .un]) (step := fun (_ : Unit) (w : Nat) => if c.hold h.facts w = true then .inl () else .inr (false, natD w)) (fun _ => True) (l := ws) (x := ()) (fun w hm u ds _ => by
      have e := holds_in_ok (w := w) o l
      cases hc : c.hold h.facts w
      · rw [hc] at e
        show _ = _
        rw [s_fgo]
        simp [b_failing_in_0, e]
      · rw [hc] at e
        refine ⟨?_, trivial⟩
        rw [s_fgo]
        simp [b_failing_in_0, e]) trivial
  rw [walk_fail] at L
  rw [at_failing_in]
  simp [d_failing_in]
  rw [L]
  cases failing h.facts c ws <;> simp [outE, optD]
end
end F1
end VL
namespace VL
open PySem PySem.Spec L2
namespace F1

/-! ### crowds -/
structure Cr (n : Nat) (ws : List Nat) : Prop where
  ne : ws ≠ []
  up : ws.Pairwise (· < ·)
  lt : ∀ w ∈ ws, w < 2 ^ n
theorem Cr.nodup {n : Nat} {ws : List Nat} (c : Cr n ws) : ws.Nodup := c.up.imp fun h => Nat.ne_of_lt h
theorem Cr.len {n : Nat} {ws : List Nat} (c : Cr n ws) (h : n ≤ 5) : ws.length ≤ 32 := by
  have h1 := F1.few (2 ^ n) ws c.nodup c.lt
  have h2 : 2 ^ n ≤ 2 ^ 5 := Nat.pow_le_pow_right (by decide) h
  omega
theorem lay_nats : ∀ ws : List Nat, PyData.canLayAll0 (ws.map natD) = true
  | [] => rfl
  | w :: ws => by
    show (PyData.canLay0 (natD w) && PyData.canLayAll0 (ws.map natD)) = true
    rw [lay_nats ws]; rfl
theorem dep_nats : ∀ ws : List Nat, PyData.depthAll (ws.map natD) = 0
  | [] => rfl
  | w :: ws => by
    show max (PyData.depth (natD w)) (PyData.depthAll (ws.map natD)) = 0
    rw [dep_nats ws]; rfl
theorem sh_crowd (ws : List Nat) : SeqAt.shaped (crowdE ws) = true := by
  unfold SeqAt.shaped crowdE
  rw [Bool.and_eq_true, decide_eq_true_eq]
  refine ⟨lay_nats ws, ?_⟩
  show PyData.depthAll (ws.map natD) + 1 ≤ 64
  rw [dep_nats]; decide
theorem eq_l0 : PyData.eqv (.list []) (.list []) = true := nr rfl
theorem sh_t0 : SeqAt.shaped (.tuple []) = true := by decide +kernel
theorem sh_l0 : SeqAt.shaped (.list []) = true := by decide +kernel
theorem crowd_ne {ws : List Nat} (h : ws ≠ []) : PyData.eqv (crowdE ws) (.tuple []) = false := by
  cases ws with
  | nil => exact absurd rfl h
  | cons w ws => rfl
theorem ix_crowd {ws : List Nat} {k w : Nat} (h : ws[k]? = some w) : ixD (crowdE ws) (.int (k : Int)) = .ok (.fz, natD w) := x_t (atI_nat (a := natD w) (by rw [List.getElem?_map, h]; rfl))
theorem ix_crowdL {ws : List Nat} {w : Nat} : ixD (crowdE (ws ++ [w])) (.int (-1)) = .ok (.fz, natD w) := x_t (by rw [List.map_append]; exact atI_last)
theorem len_crowd (ws : List Nat) : biD .len [crowdE ws] = .ok (.fz, .int (ws.length : Nat)) := by
  show Out.ok (Kd.fz, PyData.int ((ws.map natD).length : Nat)) = _
  rw [List.length_map]
section
variable {h : House} {n : Nat} {x0 x2 x3 x4 : D}
theorem many_ok (hl : h.facts.length ≤ 5) : C (n + 1) 1 [sD h.facts] = .ok (false, .int (2 ^ h.facts.length)) := by
  have hl2 : h.facts.length ≤ 1000 := by omega
  rw [at_how_many_worlds]
  simp [d_how_many_worlds, len_sD, hl2]
theorem is_crowd_ok (hl : h.facts.length ≤ 5) {ws : List Nat} (c : Cr h.facts.length ws) : C (n + 2) 4 [houseE h, crowdE ws] = .ok (false, .bool true) := by
  have hm := many_ok (n := n) hl
  have h32 := c.len hl
  have h1k : ws.length ≤ 1000 := by omega
  have hpos : 1 ≤ ws.length := by
    cases ws with
    | nil => exact absurd rfl c.ne
    | cons => simp
  have hr := k_rng2 (k := .fz) (k' := .fz) (i := 1) h1k hpos
  have hlc : lcGo (lcF (C (n + 1)) gc0 [2] true (.one (.cmp .le (.ix (.var 1) (.var 2)) (.ix (.var 1) (.bin .sub (.var 2) (.cst (.int 1)))))) (.var 2) [.fz (houseE h), .fz (crowdE ws), .un]) ((List.range (ws.length - 1)).map fun q => natD (1 + q)) = .ok [] := by
    rw [lcGo_map (k := fun _ => none) fun q hq => ?_]
    · rw [List.filterMap_eq_nil_iff.mpr fun _ _ => rfl]
    · have hq2 : q + 1 < ws.length := by have := List.mem_range.mp hq; omega
      have e1 : ws[1 + q]? = some ws[q + 1] := by rw [Nat.add_comm]; exact List.getElem?_eq_getElem hq2
      have e2 : ws[q]? = some (ws[q]'(by omega)) := List.getElem?_eq_getElem (by omega)
      have hlt : ws[q]'(by omega) < ws[q + 1] := List.pairwise_iff_getElem.mp c.up q (q + 1) (by omega) hq2 (by omega)
      have x1 := ix_crowd e1
      have x2 := ix_crowd e2
      have hi : ((1 + q : Nat) : Int) - 1 = (q : Int) := by omega
      have hle : ¬ ((ws[q + 1] : Nat) : Int) ≤ ((ws[q]'(by omega) : Nat) : Int) := by omega
      rw [lcF_eq]
      have z1 : natD (1 + q) = .int ((1 + q : Nat) : Int) := rfl
      rw [z1]
      simp only [setT, bindT, wipeT, List.set_cons_succ, List.set_cons_zero, bind_ok, e_on1, e_cmp, e_ix, e_var, e_bin, e_cst, List.getElem?_cons_succ, List.getElem?_cons_zero, k_var1, k_b2, o_sub, hi, x1, x2, natD, cmpD, k_asb, decide_eq_false hle, lck_0]
  obtain ⟨i, l, e⟩ : ∃ i l, ws = i ++ [l] := ⟨ws.dropLast, ws.getLast c.ne, (List.dropLast_concat_getLast c.ne).symm⟩
  have h0 : ws[0]? = some ws[0] := List.getElem?_eq_getElem (by omega)
  have y0 := ix_crowd h0
  have yl : ixD (crowdE ws) (.int (-1)) = .ok (.fz, .int (l : Int)) := by rw [e]; exact ix_crowdL
  have hlast : l < 2 ^ h.facts.length := c.lt l (by rw [e]; simp)
  have hlast2 : ((l : Nat) : Int) < 2 ^ h.facts.length := by exact_mod_cast hlast
  have cn := crowd_ne c.ne
  have hr' : rng2k (.ok (.fz, .int 1)) (.ok (.fz, .int (ws.length : Int))) = .ok ((List.range (ws.length - 1)).map fun q => natD (1 + q)) := hr
  have y0' : ixD (crowdE ws) (.int 0) = .ok (.fz, .int ((ws[0] : Nat) : Int)) := y0
  rw [at_is_crowd]
  simp [d_is_crowd, sh_crowd, sh_t0, sh_l0, cn, len_crowd, hr', hlc, eq_l0, y0', yl, hm, hlast2]
theorem need_crowd_ok (hl : h.facts.length ≤ 5) {ws : List Nat} (c : Cr h.facts.length ws) : C (n + 3) 5 [houseE h, crowdE ws] = .ok (false, .none) := by
  have e := is_crowd_ok (n := n) hl c
  rw [at_need_crowd]
  simp [d_need_crowd, e]
/-! ### rows -/
def runR (fs : List Str) : List Deed → List Nat → Option (List Nat)
  | [], ws => some ws
  | d :: ds, ws => match failing fs d.need ws with
    | none => runR fs ds (behind fs d.ways ws)
    | some _ => none
def enumT : Nat → List Deed → List (Nat × Deed)
  | _, [] => []
  | k, d :: ds => (k, d) :: enumT (k + 1) ds
def enE (p : Nat × Deed) : D := .tuple [natD p.1, deedE p.2]
theorem enum_ok : ∀ (k : Nat) (ds : List Deed), enumD k (ds.map deedE) = (enumT k ds).map enE
  | _, [] => rfl
  | k, d :: ds => by
    show PyData.tuple [.int (k : Nat), deedE d] :: enumD (k + 1) (ds.map deedE) = _
    rw [enum_ok (k + 1) ds]; rfl
theorem enumT_len : ∀ (k : Nat) (ds : List Deed), (enumT k ds).length = ds.length
  | _, [] => rfl
  | k, d :: ds => by
    show (enumT (k + 1) ds).length + 1 = _
    rw [enumT_len (k + 1) ds]; rfl
theorem enumT_mem {d : Nat × Deed} : ∀ {k : Nat} {ds : List Deed}, d ∈ enumT k ds → d.2 ∈ ds
  | _, [], h => by cases h
  | k, e :: ds, h => by
    cases h with
    | head => exact List.mem_cons_self ..
    | tail _ m => exact List.mem_cons_of_mem _ (enumT_mem m)
def stepR (fs : List Str) (x : List D × List Nat) (p : Nat × Deed) : (List D × List Nat) ⊕ (Bool × D) := match failing fs p.2.need x.2 with
  | none => .inl (x.1 ++ [crowdE x.2], behind fs p.2.ways x.2)
  | some w => .inr (false, .tuple [.str "stuck", natD p.1, natD w])
theorem walk_run {fs : List Str} : ∀ (k : Nat) (ds : List Deed) (cs : List D) (ws : List Nat), match runR fs ds ws with
    | some l => ∃ c, walkE (stepR fs) (enumT k ds) (cs, ws) = .inl (c, l) ∧ c.length = cs.length + ds.length
    | none => ∃ r, walkE (stepR fs) (enumT k ds) (cs, ws) = .inr (false, .tuple (.str "stuck" :: r))
  | k, [], cs, ws => ⟨cs, rfl, rfl⟩
  | k, d :: ds, cs, ws => by
    unfold runR enumT walkE
    cases hf : failing fs d.need ws with
    | none =>
      have e : stepR fs (cs, ws) (k, d) = .inl (cs ++ [crowdE ws], behind fs d.ways ws) := by unfold stepR; rw [hf]
      rw [e]
      have i := walk_run (fs := fs) (k + 1) ds (cs ++ [crowdE ws]) (behind fs d.ways ws)
      show match runR fs ds (behind fs d.ways ws) with
        | some l => _
        | none => _
      cases hr : runR fs ds (behind fs d.ways ws) with
      | none => rw [hr] at i; exact i
      | some l =>
        rw [hr] at i
        obtain ⟨c, h1, h2⟩ := i
        exact ⟨c, h1, by rw [h2, List.length_append, List.length_singleton, List.length_cons]; omega⟩
    | some w =>
      have e : stepR fs (cs, ws) (k, d) = .inr (false, .tuple [.str "stuck", natD k, natD w]) := by unfold stepR; rw [hf]
      rw [e]
      exact ⟨_, rfl⟩
/-- whether a row of deeds goes well -/
def well (h : House) (ds : List Deed) (ws : List Nat) : Bool := match runR h.facts ds ws with
  | some l => (failing h.facts h.wish l).isNone
  | none => false
theorem sh_stuck : SeqAt.shaped (.str "stuck") = true := by decide +kernel
theorem sh_well : SeqAt.shaped (.str "well") = true := by decide +kernel
theorem sh_ends : SeqAt.shaped (.str "ends") = true := by decide +kernel
theorem w_sw : (("stuck" : Str) == ("well" : Str)) = false := by decide +kernel
theorem w_ew : (("ends" : Str) == ("well" : Str)) = false := by decide +kernel
theorem enum_deeds (ds : List Deed) : enumk (.ok (.nw, deedsE ds)) = .ok ((enumT 0 ds).map enE) := by rw [← enum_ok]; rfl
theorem row_goes_ok (g : Good n h) {row : List Str} {ds : List Deed} {ws : List Nat} (hs : ∀ x ∈ row, SeqAt.shaped (.str x) = true) (e : deedsOf h.deeds row = some ds) (hd : ∀ d ∈ ds, d ∈ h.deeds) (hlen : ds.length ≤ 500) (c : Cr h.facts.length ws) :
    ∃ (s : Str) (r : List D), C (n + 4) 10 [houseE h, crowdE ws, sD row] = .ok (false, .tuple (.str s :: r)) ∧ SeqAt.shaped (.str s) = true ∧ (s == ("well" : Str)) = well h ds ws := by
  have i1 := need_deeds_ok (n := n + 1) (g.mono (Nat.le_succ n)) hs e
  have i2 := need_crowd_ok (n := n) g.few c
  have L := fgo_walkN (cl := C (n + 3)) (gc := gc0) (g := gas) (vs := [5, 6]) (one := false) (b := b_row_goes_0) (ks := [5, 6, 7]) (enc := enE)
    (pack := fun (x : List D × List Nat) => [.fz (houseE h), .fz (crowdE ws), .fz (sD row), .nw (deedsE ds), .ow (.list (x.1 ++ [crowdE x.2])), .un, .un, .un]) (step := stepR h.facts)
    (fun l x => l.length + x.1.length ≤ 600 ∧ (∀ w ∈ x.2, w < 2 ^ h.facts.length) ∧ ∀ p ∈ l, p.2 ∈ h.deeds) (l := enumT 0 ds) (x := ([], ws)) (fun p r x q i => by
      obtain ⟨k, d⟩ := p
      obtain ⟨cs, us⟩ := x
      obtain ⟨i1, i2, i3⟩ := i
      have hm := i3 (k, d) (List.mem_cons_self ..)
      obtain ⟨o1, o2⟩ := g.need d hm
      have f1 := failing_in_ok (h := h) (n := n + 1) (ws := us) o1 (Nat.lt_succ_of_lt o2)
      have hlc : cs.length + 1 < line := Nat.lt_of_le_of_lt (Nat.le_trans (by omega) (show cs.length + 1 ≤ 1000 by simp only [List.length_cons] at i1; omega)) (by decide)
      have ab := all_behind_ok (n := n + 1) (h1 := deedsE h.deeds) (h2 := looksE h.looks) (h3 := natsE h.firsts) (h4 := h.wish.enc) g.few ((g.mono (Nat.le_succ n)).ways d hm) i2 (.str d.name) d.need.enc
      have ab' : C (n + 3) 7 [houseE h, deedE d, crowdE us] = .ok (false, crowdE (behind h.facts d.ways us)) := ab
      unfold stepR
      cases hf : failing h.facts d.need us with
      | none =>
        rw [hf] at f1
        refine ⟨?_, by simp only [List.length_cons, List.length_append, List.length_nil] at i1 ⊢; omega, behind_lt (g.ways d hm) i2, fun p m => i3 p (List.mem_cons_of_mem _ m)⟩
        rw [s_fgo]
        simp [b_row_goes_0, enE, f1, optD, ab', hlc, sh_none]
      | some w =>
        rw [hf] at f1
        show _ = _
        rw [s_fgo]
        simp [b_row_goes_0, enE, f1, optD, ab', hlc, sh_none, natD]) ⟨by rw [enumT_len]; show ds.length + 0 ≤ 600; omega, c.lt, fun p m => hd _ (enumT_mem m)⟩
  have W := walk_run (fs := h.facts) 0 ds [] ws
  unfold well
  rw [show (([] : List D) ++ [crowdE ws]) = [crowdE ws] from rfl] at L
  cases hr : runR h.facts ds ws with
  | none =>
    rw [hr] at W
    obtain ⟨r, W⟩ := W
    rw [W] at L
    refine ⟨"stuck", r, ?_, sh_stuck, w_sw⟩
    rw [at_row_goes]
    simp [d_row_goes, i1, i2, enum_deeds]
    rw [L]
    simp [outE]
  | some l =>
    rw [hr] at W
    obtain ⟨cs, W, wl⟩ := W
    rw [W] at L
    have f1 := failing_in_ok (h := h) (n := n + 1) (ws := l) g.wish.1 (Nat.lt_succ_of_lt g.wish.2)
    have hcs : cs.length + 1 ≤ line := Nat.le_trans (show cs.length + 1 ≤ 1000 by rw [wl, List.length_nil]; omega) (by decide)
    cases hf : failing h.facts h.wish l with
    | none =>
      rw [hf] at f1
      refine ⟨"well", [.list (cs ++ [crowdE l])], ?_, sh_well, by show _ = (failing h.facts h.wish l).isNone; rw [hf, beq_self_eq_true]; rfl⟩
      rw [at_row_goes]
      simp [d_row_goes, i1, i2, enum_deeds]
      rw [L]
      simp [outE, f1, optD, sh_none]
    | some w =>
      rw [hf] at f1
      refine ⟨"ends", [natD w], ?_, sh_ends, by show _ = (failing h.facts h.wish l).isNone; rw [hf]; exact w_ew⟩
      rw [at_row_goes]
      simp [d_row_goes, i1, i2, enum_deeds]
      rw [L]
      simp [outE, f1, optD, sh_none, natD]
end
end F1
end VL
namespace VL
open PySem PySem.Spec L2
namespace F1

def without {α : Type} (r : List α) (k : Nat) : List α := r.take k ++ r.drop (k + 1)
theorem without_len {α : Type} {r : List α} {k : Nat} (h : k < r.length) : (without r k).length + 1 = r.length := by
  unfold without
  rw [List.length_append, List.length_take, List.length_drop]; omega
theorem without_mem {α : Type} {r : List α} {k : Nat} {x : α} (h : x ∈ without r k) : x ∈ r := by
  unfold without at h
  rcases List.mem_append.mp h with h | h
  · exact List.mem_of_mem_take h
  · exact List.mem_of_mem_drop h
theorem sl_pre {r : List Str} {k : Nat} (h : k ≤ r.length) : slD (sD r) none (some (k : Int)) = .ok (.ow, sD (r.take k)) := by
  show Out.ok (Kd.ow, PyData.list (cutD (r.map .str) none (some (k : Int)))) = _
  unfold cutD sD
  rw [HT.sIx_none, HT.sIx_nat, List.length_map, Nat.min_eq_left h, List.drop_zero, Nat.sub_zero, List.map_take]
theorem sl_suf {r : List Str} {k : Nat} (h : k ≤ r.length) : slD (sD r) (some (k : Int)) none = .ok (.ow, sD (r.drop k)) := by
  show Out.ok (Kd.ow, PyData.list (cutD (r.map .str) (some (k : Int)) none)) = _
  unfold cutD sD
  rw [HT.sIx_none, HT.sIx_nat, List.length_map, Nat.min_eq_left h, List.map_drop, List.take_of_length_le]
  rw [List.length_drop, List.length_map]; omega
theorem add_sD {a b : List Str} (h : a.length + b.length ≤ 1000) : binD .add (sD a) (sD b) = .ok (.ow, sD (a ++ b)) := by
  have e := o_addl (xs := a.map PyData.str) (ys := b.map PyData.str) (by rw [List.length_map, List.length_map]; exact line_ge h)
  rw [← List.map_append] at e
  exact e
theorem list_sD (r : List Str) : biD .list [sD r] = .ok (.ow, sD r) := nr rfl
theorem notN_sD (r : List Str) : cmpD .notN (sD r) .none = .ok (.fz, .bool true) := nr rfl
theorem notN_non : cmpD .notN .none .none = .ok (.fz, .bool false) := nr rfl
/-- a row of names that there are -/
def RowOk (h : House) (row : List Str) : Prop := ∀ x ∈ row, SeqAt.shaped (.str x) = true ∧ ∃ d, namedIn h.deeds x = some d
theorem RowOk.deeds {h : House} : ∀ {row : List Str}, RowOk h row → ∃ ds, deedsOf h.deeds row = some ds ∧ ds.length = row.length ∧ ∀ d ∈ ds, d ∈ h.deeds
  | [], _ => ⟨[], rfl, rfl, fun _ h => by cases h⟩
  | x :: row, hr => by
    obtain ⟨d, hd⟩ := (hr x (List.mem_cons_self ..)).2
    obtain ⟨ds, h1, h2, h3⟩ := RowOk.deeds (row := row) fun y m => hr y (List.mem_cons_of_mem _ m)
    refine ⟨d :: ds, ?_, by rw [List.length_cons, List.length_cons, h2], fun e he => ?_⟩
    · unfold deedsOf
      rw [hd, h1]
    · cases he with
      | head => exact List.mem_of_find?_eq_some hd
      | tail _ m => exact h3 e m
theorem RowOk.without {h : House} {row : List Str} (r : RowOk h row) (k : Nat) : RowOk h (F1.without row k) := fun x m => r x (without_mem m)
def wellN (h : House) (ws : List Nat) (row : List Str) : Bool := match deedsOf h.deeds row with
  | some ds => well h ds ws
  | none => false
def shorter (h : House) (ws : List Nat) (row : List Str) : Option (List Str) := ((List.range row.length).find? fun k => wellN h ws (without row k)).map (without row)
def made (h : House) (ws : List Nat) : Nat → List Str → List Str
  | 0, r => r
  | k + 1, r => match shorter h ws r with
    | none => r
    | some l => made h ws k l
theorem shorter_some {h : House} {ws : List Nat} {row l : List Str} (e : shorter h ws row = some l) : ∃ k, k < row.length ∧ l = without row k ∧ wellN h ws l = true := by
  unfold shorter at e
  cases hf : (List.range row.length).find? fun k => wellN h ws (without row k) with
  | none => rw [hf] at e; cases e
  | some k =>
    rw [hf] at e
    have hk := List.mem_range.mp (List.mem_of_find?_eq_some hf)
    have hw := List.find?_some hf
    exact ⟨k, hk, (Option.some.inj e).symm, by rw [← Option.some.inj e]; exact hw⟩
section
variable {h : House} {n : Nat}
theorem row_goes_named (g : Good n h) {row : List Str} {ws : List Nat} (r : RowOk h row) (hl : row.length ≤ 500) (c : Cr h.facts.length ws) :
    ∃ (s : Str) (t : List D), C (n + 4) 10 [houseE h, crowdE ws, sD row] = .ok (false, .tuple (.str s :: t)) ∧ SeqAt.shaped (.str s) = true ∧ (s == ("well" : Str)) = wellN h ws row := by
  obtain ⟨ds, h1, h2, h3⟩ := r.deeds
  obtain ⟨s, t, e1, e2, e3⟩ := row_goes_ok g (fun x m => (r x m).1) h1 h3 (by omega) c
  refine ⟨s, t, e1, e2, ?_⟩
  unfold wellN
  rw [h1]
  exact e3
theorem walk_short {ws : List Nat} {row : List Str} : ∀ ks : List Nat, walkE (fun (_ : Unit) (k : Nat) => if wellN h ws (without row k) = true then .inr (true, sD (without row k)) else .inl ()) ks () =
    match ks.find? fun k => wellN h ws (without row k) with | some k => .inr (true, sD (without row k)) | none => .inl ()
  | [] => rfl
  | k :: ks => by
    unfold walkE
    rw [List.find?_cons]
    cases hw : wellN h ws (without row k) with
    | true => rfl
    | false => exact walk_short ks
def shortE : Option (List Str) → Out (Bool × D)
  | some l => .ok (true, sD l)
  | none => .ok (false, .none)
theorem shorter_row_ok (g : Good n h) {row : List Str} {ws : List Nat} (r : RowOk h row) (hl : row.length ≤ 500) (c : Cr h.facts.length ws) : C (n + 5) 11 [houseE h, crowdE ws, sD row] = shortE (shorter h ws row) := by
  have L := fgo_walk (cl := C (n + 4)) (gc := gc0) (g := gas) (vs := [3]) (one := true) (b := b_shorter_row_0) (ks := [3, 4]) (enc := natD)
    (pack := fun (_ : Unit) => [.fz (houseE h), .fz (crowdE ws), .fz (sD row), .un, .un]) (step := fun (_ : Unit) (k : Nat) => if wellN h ws (without row k) = true then .inr (true, sD (without row k)) else .inl ()) (fun _ => True) (l := List.range row.length) (x := ()) (fun k hm u ds _ => by
      have hk := List.mem_range.mp hm
      have s1 := sl_pre (r := row) (k := k) (by omega)
      have s2 : slD (sD row) (some ((k : Int) + 1)) none = .ok (.ow, sD (row.drop (k + 1))) := sl_suf (r := row) (k := k + 1) (by omega)
      have s3 := add_sD (a := row.take k) (b := row.drop (k + 1)) (by rw [List.length_take, List.length_drop]; omega)
      have hwl := without_len hk
      obtain ⟨s, t, e1, e2, e3⟩ := row_goes_named g (r.without k) (by omega) c
      unfold without at e1 e3
      unfold without
      cases hw : wellN h ws (row.take k ++ row.drop (k + 1))
      · rw [hw] at e3
        refine ⟨?_, trivial⟩
        rw [s_fgo]
        simp [b_shorter_row_0, natD, s1, s2, s3, e1, e2, e3, sh_well]
      · rw [hw] at e3
        show _ = _
        rw [s_fgo]
        simp [b_shorter_row_0, natD, s1, s2, s3, e1, e2, e3, sh_well]) trivial
  rw [walk_short] at L
  have hl2 : row.length ≤ 1000 := by omega
  rw [at_shorter_row]
  simp [d_shorter_row, len_sD, hl2]
  rw [L]
  unfold shorter
  cases (List.range row.length).find? fun k => wellN h ws (without row k) <;> simp [outE, shortE]
end
end F1
end VL
namespace VL
open PySem PySem.Spec L2
namespace F1
section
variable {h : House} {n : Nat}
/-- what the row made less holds at a turn -/
def lessT (h : House) (ws : List Nat) (row found : List Str) (o : Option (List Str)) : Ta := [.fz (houseE h), .fz (crowdE ws), .fz (sD row), .nw (sD found), match o with | some l => .nw (sD l) | none => .fz .none]
theorem made_go (g : Good n h) {ws : List Nat} {row : List Str} (c : Cr h.facts.length ws) : ∀ (k m : Nat) (found : List Str), RowOk h found → found.length ≤ k → k ≤ 500 → k < m →
    wgo (C (n + 5)) gc0 gas (.cmp .notN (.var 4) (.cst .none)) b_row_made_less_0 [] m (lessT h ws row found (shorter h ws found)) = .ok (.nx (lessT h ws row (made h ws k found) none))
  | k, m + 1, found, r, hk, hk2, hm => by
    rw [s_wgo]
    cases hs : shorter h ws found with
    | none =>
      have e : made h ws k found = found := by
        cases k with
        | zero => rfl
        | succ k => unfold made; rw [hs]
      rw [e]
      simp [lessT, notN_non]
    | some l =>
      obtain ⟨q, hq, rfl, _⟩ := shorter_some hs
      have hwl := without_len hq
      cases k with
      | zero => omega
      | succ k =>
        have i := made_go g (row := row) c k m (without found q) (r.without q) (by omega) (by omega) (by omega)
        have s := shorter_row_ok g (r.without q) (by omega) c
        have e : made h ws (k + 1) found = made h ws k (without found q) := by
          show (match shorter h ws found with | none => found | some l => made h ws k l) = _
          rw [hs]
        rw [e, ← i]
        cases h2 : shorter h ws (without found q) with
        | none =>
          rw [h2] at s
          simp [lessT, notN_sD, b_row_made_less_0, s, shortE]
        | some l2 =>
          rw [h2] at s
          simp [lessT, notN_sD, b_row_made_less_0, s, shortE]
theorem row_made_less_ok (g : Good n h) {ws : List Nat} {row : List Str} (r : RowOk h row) (hl : row.length ≤ 500) (c : Cr h.facts.length ws) (hw : wellN h ws row = true) : C (n + 6) 12 [houseE h, crowdE ws, sD row] = .ok (true, sD (made h ws row.length row)) := by
  have i1 := need_crowd_ok (n := n + 2) g.few c
  obtain ⟨s, t, e1, e2, e3⟩ := row_goes_named (n := n + 1) (g.mono (Nat.le_succ n)) r hl c
  rw [hw] at e3
  have s1 := shorter_row_ok g r hl c
  have G := made_go g (row := row) c row.length 1000 row r (Nat.le_refl _) hl (by omega)
  rw [at_row_made_less]
  cases h2 : shorter h ws row with
  | none =>
    rw [h2] at s1 G
    simp [d_row_made_less, i1, e1, e2, e3, sh_well, list_sD, s1, shortE]
    simp [lessT] at G
    rw [show gas = 1000 from rfl] at G ⊢
    rw [G]
    simp
  | some l =>
    rw [h2] at s1 G
    simp [d_row_made_less, i1, e1, e2, e3, sh_well, list_sD, s1, shortE]
    simp [lessT] at G
    rw [show gas = 1000 from rfl] at G ⊢
    rw [G]
    simp
end
end F1
end VL
namespace VL
open PySem PySem.Spec L2
namespace F1

/-! ### the law's own walk of a row -/
theorem sh_nats (ws : List Nat) : SeqAt.shaped (.list (ws.map natD)) = true := sh_crowd ws
theorem eqv_nats (ws : List Nat) : PyData.eqv (.list (ws.map natD)) (.list []) = ws.isEmpty := by
  cases ws <;> rfl
theorem lay_strs : ∀ {r : List Str}, (∀ x ∈ r, SeqAt.shaped (.str x) = true) → PyData.canLayAll0 (r.map .str) = true
  | [], _ => rfl
  | x :: r, h => by
    show (PyData.canLay0 (.str x) && PyData.canLayAll0 (r.map .str)) = true
    rw [lay_strs fun y m => h y (List.mem_cons_of_mem _ m), SeqAt.canLay_of_shaped (h x (List.mem_cons_self ..))]; rfl
theorem dep_strs : ∀ r : List Str, PyData.depthAll (r.map .str) = 0
  | [] => rfl
  | w :: ws => by
    show max (PyData.depth (.str w)) (PyData.depthAll (ws.map .str)) = 0
    rw [dep_strs ws]; rfl
theorem sh_sD {r : List Str} (h : ∀ x ∈ r, SeqAt.shaped (.str x) = true) : SeqAt.shaped (sD r) = true := by
  unfold SeqAt.shaped sD
  rw [Bool.and_eq_true, decide_eq_true_eq]
  refine ⟨lay_strs h, ?_⟩
  show PyData.depthAll (r.map .str) + 1 ≤ 64
  rw [dep_strs]; decide
theorem eqv_sD : ∀ a b : List Str, PyData.eqv (sD a) (sD b) = decide (a = b)
  | [], [] => rfl
  | [], _ :: _ => rfl
  | _ :: _, [] => rfl
  | x :: a, y :: b => by
    show (PyData.eqv (.str x) (.str y) && PyData.eqv (sD a) (sD b)) = _
    rw [eqv_sD a b, eqv_str, Bool.eq_iff_iff, Bool.and_eq_true, beq_iff_eq, decide_eq_true_eq, decide_eq_true_eq, List.cons.injEq]
theorem sD_nil : sD [] = .list [] := rfl
theorem app_sD {r : List Str} {x : Str} {m : Nat} {τ : Ta} (h : r.length ≤ 1000) : appk (some (.ow (sD r))) (.ok (.str x)) m τ = .ok (.nx (τ.set m (.ow (sD (r ++ [x]))))) := by
  have e := k_app1 (ds := r.map PyData.str) (d := .str x) (m := m) (τ := τ) (by rw [List.length_map]; exact Nat.lt_of_le_of_lt h (by decide))
  rw [show (r.map PyData.str) ++ [PyData.str x] = (r ++ [x]).map PyData.str by rw [List.map_append]; rfl] at e
  exact e
section
variable {h : House} {n : Nat}
theorem filter_fail {fs : List Str} {c : Cnd} : ∀ ws : List Nat, (ws.filter fun w => !c.hold fs w).isEmpty = (failing fs c ws).isNone
  | [] => rfl
  | w :: ws => by
    unfold failing
    rw [List.filter_cons, List.find?_cons]
    cases hc : c.hold fs w with
    | true => exact filter_fail ws
    | false => rfl
theorem lcan_ok (hl : h.facts.length ≤ 5) {c : Cnd} {ws : List Nat} (o : c.on h.facts) (l : c.dep < n) : C (n + 1) 16 [sD h.facts, c.enc, crowdE ws] = .ok (false, .bool (failing h.facts c ws).isNone) := by
  have hl2 : h.facts.length ≤ 100 := by omega
  have hlc : lcGo (lcF (C n) gc0 [3] true (.one (.not (.call 15 (.cons (.var 0) (.cons (.var 1) (.cons (.var 3) .nil)))))) (.var 3) [.fz (sD h.facts), .fz c.enc, .fz (crowdE ws), .un]) (ws.map natD) = .ok ((ws.filter fun w => !c.hold h.facts w).map natD) := by
    rw [lcGo_map (k := fun w => if c.hold h.facts w = true then none else some (natD w)) fun w hw => ?_]
    · congr 1
      clear l o
      induction ws with
      | nil => rfl
      | cons w ws ih =>
        rw [List.filter_cons]
        cases hc : c.hold h.facts w with
        | true => rw [List.filterMap_cons_none (by simp [hc])]; simpa using ih
        | false => rw [List.filterMap_cons_some (b := natD w) (by simp [hc])]; simpa using ih
    · have e := lholds_ok hl2 (w := w) o l
      rw [lcF_eq]
      cases hc : c.hold h.facts w <;> (rw [hc] at e; simp [natD, e])
  rw [at__law_can]
  simp [d__law_can, hlc, sh_nats, sh_l0, eqv_nats, filter_fail]
theorem lnamed_ok (g : Good n h) {x : Str} {d : Deed} (hx : SeqAt.shaped (.str x) = true) (hd : namedIn h.deeds x = some d) : C (n + 1) 18 [deedsE h.deeds, .str x] = .ok (false, deedE d) := by
  have hlc : ∀ ds : List Deed, (∀ d ∈ ds, d ∈ h.deeds) → lcGo (lcF (C n) gc0 [2] true (.one (.cmp .eq (.ix (.var 2) (.cst (.int 0))) (.var 1))) (.var 2) [.fz (deedsE h.deeds), .fz (.str x), .un]) (ds.map deedE) = .ok ((ds.filter fun d => d.name == x).map deedE) := by
    intro ds hds
    rw [lcGo_map (k := fun d => if (d.name == x) = true then some (deedE d) else none) fun d hm => ?_]
    · congr 1
      clear hds
      induction ds with
      | nil => rfl
      | cons d ds ih =>
        rw [List.filter_cons]
        cases hc : d.name == x with
        | false => rw [List.filterMap_cons_none (by simp [hc])]; simpa using ih
        | true => rw [List.filterMap_cons_some (b := deedE d) (by simp [hc])]; simpa using ih
    · have hn := g.name d (hds d hm)
      rw [lcF_eq]
      cases hc : d.name == x <;> simp [hn, hx, hc]
  have e := hlc h.deeds fun d m => m
  have hh : (h.deeds.filter fun d => d.name == x).head? = some d := by rw [List.head?_filter]; exact hd
  obtain ⟨r, hr⟩ : ∃ r, (h.deeds.filter fun d => d.name == x) = d :: r := by
    cases q : h.deeds.filter fun d => d.name == x with
    | nil => rw [q] at hh; cases hh
    | cons a r => rw [q] at hh; cases hh; exact ⟨r, rfl⟩
  rw [hr] at e
  rw [at__law_named]
  simp [d__law_named, e]
def stepL (h : House) (x : List Nat × List Str) (y : Str) : (List Nat × List Str) ⊕ (Bool × D) := match namedIn h.deeds y with
  | none => .inl x
  | some d => match failing h.facts d.need x.1 with
    | none => .inl (behind h.facts d.ways x.1, x.2 ++ [y])
    | some _ => .inr (false, .tuple [sD x.2, crowdE x.1])
/-- how far the law's walk gets -/
def lwalk (h : House) : List Str → List Nat → List Str → List Str × List Nat
  | [], ws, done => (done, ws)
  | y :: r, ws, done => match namedIn h.deeds y with
    | none => lwalk h r ws done
    | some d => match failing h.facts d.need ws with
      | none => lwalk h r (behind h.facts d.ways ws) (done ++ [y])
      | some _ => (done, ws)
theorem walk_lwalk : ∀ (r : List Str) (ws : List Nat) (done : List Str), (match walkE (stepL h) r (ws, done) with
    | .inl x => (Out.ok (false, .tuple [sD x.2, crowdE x.1]) : Out (Bool × D))
    | .inr z => .ok z) = .ok (false, .tuple [sD (lwalk h r ws done).1, crowdE (lwalk h r ws done).2])
  | [], ws, done => rfl
  | y :: r, ws, done => by
    unfold walkE stepL lwalk
    cases e : namedIn h.deeds y with
    | none => exact walk_lwalk r ws done
    | some d =>
      cases hf : failing h.facts d.need ws with
      | none => simp only [hf]; exact walk_lwalk r _ _
      | some w => simp only [hf]
theorem lrow_walked_ok (g : Good n h) {row : List Str} {ws : List Nat} (r : RowOk h row) (hl : row.length ≤ 500) (hw : ∀ w ∈ ws, w < 2 ^ h.facts.length) :
    C (n + 2) 25 [houseE h, crowdE ws, sD row] = .ok (false, .tuple [sD (lwalk h row ws []).1, crowdE (lwalk h row ws []).2]) := by
  have L := fgo_walkN (cl := C (n + 1)) (gc := gc0) (g := gas) (vs := [4]) (one := true) (b := b__law_row_walked_0) (ks := [4, 5]) (enc := PyData.str)
    (pack := fun (x : List Nat × List Str) => [.fz (houseE h), .fz (crowdE x.1), .fz (sD row), .ow (sD x.2), .un, .un]) (step := stepL h)
    (fun l x => l.length + x.2.length ≤ 600 ∧ (∀ w ∈ x.1, w < 2 ^ h.facts.length) ∧ ∀ y ∈ l, SeqAt.shaped (.str y) = true ∧ ∃ d, namedIn h.deeds y = some d) (l := row) (x := (ws, [])) (fun y l x q i => by
      obtain ⟨us, done⟩ := x
      obtain ⟨i1, i2, i3⟩ := i
      obtain ⟨hy, d, hd⟩ := i3 y (List.mem_cons_self ..)
      have hm : d ∈ h.deeds := List.mem_of_find?_eq_some hd
      obtain ⟨o1, o2⟩ := g.need d hm
      have f0 := lnamed_ok g hy hd
      have f1 := lcan_ok (ws := us) g.few o1 o2
      have f2 : C (n + 1) 17 [sD h.facts, deedE d, crowdE us] = .ok (false, crowdE (behind h.facts d.ways us)) := lbehind_ok g.few g.nd (g.ways d hm) i2 (.str d.name) d.need.enc
      have hlen : done.length ≤ 1000 := by simp only [List.length_cons] at i1; omega
      unfold stepL
      rw [hd]
      cases hf : failing h.facts d.need us with
      | none =>
        rw [hf] at f1
        simp only [hf]
        refine ⟨?_, by simp only [List.length_cons, List.length_append, List.length_nil] at i1 ⊢; omega, behind_lt (g.ways d hm) i2, fun p m => i3 p (List.mem_cons_of_mem _ m)⟩
        rw [s_fgo]
        simp [b__law_row_walked_0, f0, f1, f2, app_sD hlen]
      | some w =>
        rw [hf] at f1
        simp only [hf]
        rw [s_fgo]
        simp [b__law_row_walked_0, f0, f1, f2]) ⟨by show row.length + 0 ≤ 600; omega, hw, r⟩
  have W := walk_lwalk (h := h) row ws []
  simp only [sD_nil] at L
  rw [at__law_row_walked]
  simp [d__law_row_walked]
  rw [L]
  cases hx : walkE (stepL h) row (ws, []) with
  | inl x =>
    rw [hx] at W
    simp [outE]
    simpa using W
  | inr z =>
    rw [hx] at W
    have W' : z = (false, PyData.tuple [sD (lwalk h row ws []).1, crowdE (lwalk h row ws []).2]) := by
      injection W
    rw [W']
    simp [outE]
/-- the law's walk, seen from the deeds -/
theorem lwalk_run : ∀ {row : List Str} {ds : List Deed} {ws : List Nat} {done : List Str}, deedsOf h.deeds row = some ds → match runR h.facts ds ws with
    | some l => lwalk h row ws done = (done ++ row, l)
    | none => ∃ p l, lwalk h row ws done = (done ++ p, l) ∧ p.length < row.length
  | [], ds, ws, done, e => by
    cases e
    show lwalk h [] ws done = (done ++ [], ws)
    rw [List.append_nil]; rfl
  | y :: row, ds, ws, done, e => by
    unfold deedsOf at e
    cases e1 : namedIn h.deeds y with
    | none => rw [e1] at e; cases e
    | some d =>
      cases e2 : deedsOf h.deeds row with
      | none => rw [e1, e2] at e; cases e
      | some r =>
        rw [e1, e2] at e
        cases e
        unfold runR lwalk
        rw [e1]
        cases hf : failing h.facts d.need ws with
        | some w =>
          simp only [hf]
          exact ⟨[], ws, by rw [List.append_nil], by simp⟩
        | none =>
          simp only [hf]
          have i := lwalk_run (row := row) (ws := behind h.facts d.ways ws) (done := done ++ [y]) e2
          cases hr : runR h.facts r (behind h.facts d.ways ws) with
          | none =>
            rw [hr] at i
            obtain ⟨p, l, h1, h2⟩ := i
            exact ⟨y :: p, l, by rw [h1, List.append_assoc]; rfl, by simp only [List.length_cons]; omega⟩
          | some l =>
            rw [hr] at i
            show lwalk h row (behind h.facts d.ways ws) (done ++ [y]) = _
            rw [i, List.append_assoc]; rfl
theorem lwalk_mem {x : Str} : ∀ (row : List Str) {ws : List Nat} {done : List Str}, x ∈ (lwalk h row ws done).1 → x ∈ done ∨ x ∈ row
  | [], _, _, m => .inl m
  | y :: row, ws, done, m => by
    unfold lwalk at m
    cases e1 : namedIn h.deeds y with
    | none =>
      rw [e1] at m
      rcases lwalk_mem row m with z | z
      · exact .inl z
      · exact .inr (List.mem_cons_of_mem _ z)
    | some d =>
      rw [e1] at m
      cases hf : failing h.facts d.need ws with
      | some w => simp only [hf] at m; exact .inl m
      | none =>
        simp only [hf] at m
        rcases lwalk_mem row m with z | z
        · rcases List.mem_append.mp z with q | q
          · exact .inl q
          · rw [List.mem_singleton] at q
            rw [q]; exact .inr (List.mem_cons_self ..)
        · exact .inr (List.mem_cons_of_mem _ z)
theorem list_sD' (r : List Str) : biD .list [sD r] = .ok (.ow, sD r) := nr rfl
theorem lgoes_well_ok (g : Good n h) {row : List Str} {ws : List Nat} (r : RowOk h row) (hl : row.length ≤ 500) (hw : ∀ w ∈ ws, w < 2 ^ h.facts.length) :
    C (n + 3) 26 [houseE h, crowdE ws, sD row] = .ok (false, .bool (wellN h ws row)) := by
  have i1 := lrow_walked_ok g r hl hw
  obtain ⟨ds, h1, h2, h3⟩ := r.deeds
  have i2 := lwalk_run (h := h) (ws := ws) (done := []) h1
  have s1 := sh_sD fun x m => (r x m).1
  have s2 : SeqAt.shaped (sD (lwalk h row ws []).1) = true := by
    refine sh_sD fun x m => ?_
    rcases lwalk_mem row m with z | z
    · cases z
    · exact (r x z).1
  have i3 := lcan_ok (h := h) (n := n + 1) (ws := (lwalk h row ws []).2) g.few g.wish.1 (Nat.lt_succ_of_lt g.wish.2)
  unfold wellN
  rw [h1]
  unfold well
  rw [at__law_goes_well]
  cases hr : runR h.facts ds ws with
  | none =>
    rw [hr] at i2
    obtain ⟨p, l, e1, e2⟩ := i2
    have hne : ¬ p = row := fun z => by rw [z] at e2; omega
    rw [e1] at i1 i3 s2
    simp at i1 i3 s2
    simp [d__law_goes_well, i1, list_sD', s1, s2, eqv_sD, hne, hr]
  | some l =>
    rw [hr] at i2
    rw [i2] at i1 i3 s2
    simp at i1 i3 s2
    simp [d__law_goes_well, i1, list_sD', s1, s2, eqv_sD, i3, hr]
theorem lfirst_less_ok (g : Good n h) {row : List Str} {ws : List Nat} (r : RowOk h row) (hl : row.length ≤ 500) (hw : ∀ w ∈ ws, w < 2 ^ h.facts.length) : C (n + 4) 28 [houseE h, crowdE ws, sD row] = shortE (shorter h ws row) := by
  have L := fgo_walk (cl := C (n + 3)) (gc := gc0) (g := gas) (vs := [3]) (one := true) (b := b__law_first_less_0) (ks := [3]) (enc := natD)
    (pack := fun (_ : Unit) => [.fz (houseE h), .fz (crowdE ws), .fz (sD row), .un]) (step := fun (_ : Unit) (k : Nat) => if wellN h ws (without row k) = true then .inr (true, sD (without row k)) else .inl ()) (fun _ => True) (l := List.range row.length) (x := ()) (fun k hm u ds _ => by
      have hk := List.mem_range.mp hm
      have s1 := sl_pre (r := row) (k := k) (by omega)
      have s2 : slD (sD row) (some ((k : Int) + 1)) none = .ok (.ow, sD (row.drop (k + 1))) := sl_suf (r := row) (k := k + 1) (by omega)
      have s3 := add_sD (a := row.take k) (b := row.drop (k + 1)) (by rw [List.length_take, List.length_drop]; omega)
      have hwl := without_len hk
      have e1 := lgoes_well_ok g (r.without k) (by omega) hw
      unfold without at e1
      unfold without
      cases hw : wellN h ws (row.take k ++ row.drop (k + 1))
      · rw [hw] at e1
        refine ⟨?_, trivial⟩
        rw [s_fgo]
        simp [b__law_first_less_0, natD, s1, s2, s3, e1]
      · rw [hw] at e1
        show _ = _
        rw [s_fgo]
        simp [b__law_first_less_0, natD, s1, s2, s3, e1]) trivial
  rw [walk_short] at L
  have hl2 : row.length ≤ 1000 := by omega
  rw [at__law_first_less]
  simp [d__law_first_less, len_sD, hl2]
  rw [L]
  unfold shorter
  cases (List.range row.length).find? fun k => wellN h ws (without row k) <;> simp [outE, shortE]
end
end F1
end VL
namespace VL
open PySem PySem.Spec L2
namespace F1

/-! ### alike -/
theorem isN_sD (r : List Str) : cmpD .isN (sD r) .none = .ok (.fz, .bool false) := nr rfl
theorem ty_t (r : List Str) : isTy .tuple (sD r) = false := nr rfl
theorem ty_l (r : List Str) : isTy .list (sD r) = true := nr rfl
theorem ty_s (r : List Str) : isTy .str (sD r) = false := nr rfl
theorem ne_nat (i : Nat) : cmpD .ne (.int (i : Int)) (.int (i : Int)) = .ok (.fz, .bool false) := by simp
theorem eq_str {x : Str} (h : SeqAt.shaped (.str x) = true) : cmpD .eq (.str x) (.str x) = .ok (.fz, .bool true) := by simp [h]
section
variable {h : House} {n : Nat}
theorem alike_str {x : Str} (h : SeqAt.shaped (.str x) = true) : C (n + 1) 24 [.str x, .str x] = .ok (false, .bool true) := by
  rw [at__law_alike]
  simp [d__law_alike, h]
theorem alike_sD {r : List Str} (h : ∀ x ∈ r, SeqAt.shaped (.str x) = true) (hl : r.length ≤ 1000) : C (n + 2) 24 [sD r, sD r] = .ok (false, .bool true) := by
  have hlc : lcGo (lcF (C (n + 1)) gc0 [2] true (.one (.not (.call 24 (.cons (.ix (.var 0) (.var 2)) (.cons (.ix (.var 1) (.var 2)) .nil))))) (.var 2) [.fz (sD r), .fz (sD r), .un]) ((List.range r.length).map natD) = .ok [] := by
    rw [lcGo_map (k := fun _ => none) fun k hk => ?_]
    · rw [List.filterMap_eq_nil_iff.mpr fun _ _ => rfl]
    · have hk2 := List.mem_range.mp hk
      have hx : r[k]? = some r[k] := List.getElem?_eq_getElem hk2
      have e := alike_str (n := n) (h r[k] (List.getElem_mem hk2))
      rw [lcF_eq]
      simp [natD, ix_sD hx, e]
  rw [at__law_alike]
  simp [d__law_alike, isN_sD, ty_t, ty_l, ty_s, len_sD, hl, hlc, sh_l0, eq_l0, sh_bool]
/-! ### what is known -/
def cndsE (cs : List Cnd) : D := .list (cs.map Cnd.enc)
def knownC (fs : List Str) (ws : List Nat) (k : Nat) : List Cnd := match fs[k]? with
  | some x => if (ws.all fun w => w.testBit k) = true then [.fact x] else if (ws.all fun w => !w.testBit k) = true then [.not (.fact x)] else []
  | none => []
theorem bit_mod (w k : Nat) : (((w : Nat) : Int) / 2 ^ k % 2) = if w.testBit k then 1 else 0 := by
  have hb := bit_div w k
  have h01 : (((w : Nat) : Int) / 2 ^ k % 2) = 0 ∨ (((w : Nat) : Int) / 2 ^ k % 2) = 1 := by omega
  cases ht : w.testBit k with
  | true =>
    rw [ht, beq_iff_eq] at hb
    rw [hb]; rfl
  | false =>
    rw [ht] at hb
    rcases h01 with z | z
    · rw [z]; rfl
    · rw [z] at hb; cases hb
def bitE (b : Bool) : D := .int (if b then 1 else 0)
theorem nin0 : ∀ bs : List Bool, cmpD .nin (.int 0) (.list (bs.map bitE)) = .ok (.fz, .bool (bs.all id)) := by
  have hf : ∀ bs : List Bool, (bs.map bitE).all flatD = true := fun bs => by rw [List.all_map, List.all_eq_true]; intro x _; cases x <;> rfl
  have hi : ∀ bs : List Bool, inD (.int 0) (bs.map bitE) = !bs.all id := by
    intro bs
    induction bs with
    | nil => rfl
    | cons b bs ih =>
      show (PyData.eqv (bitE b) (.int 0) || inD (.int 0) (bs.map bitE)) = _
      rw [ih]
      cases b <;> simp [bitE]
  intro bs
  show (if (flatD (.int 0) && (bs.map bitE).all flatD) = true then Out.ok (Kd.fz, PyData.bool (!inD (.int 0) (bs.map bitE))) else .stuck) = _
  rw [if_pos (by rw [hf]; rfl), hi, Bool.not_not]
theorem nin1 : ∀ bs : List Bool, cmpD .nin (.int 1) (.list (bs.map bitE)) = .ok (.fz, .bool (bs.all (!·))) := by
  have hf : ∀ bs : List Bool, (bs.map bitE).all flatD = true := fun bs => by rw [List.all_map, List.all_eq_true]; intro x _; cases x <;> rfl
  have hi : ∀ bs : List Bool, inD (.int 1) (bs.map bitE) = !bs.all (!·) := by
    intro bs
    induction bs with
    | nil => rfl
    | cons b bs ih =>
      show (PyData.eqv (bitE b) (.int 1) || inD (.int 1) (bs.map bitE)) = _
      rw [ih]
      cases b <;> simp [bitE]
  intro bs
  show (if (flatD (.int 1) && (bs.map bitE).all flatD) = true then Out.ok (Kd.fz, PyData.bool (!inD (.int 1) (bs.map bitE))) else .stuck) = _
  rw [if_pos (by rw [hf]; rfl), hi, Bool.not_not]
theorem app_cnd {r : List Cnd} {x : Cnd} {m : Nat} {τ : Ta} (h : r.length ≤ 1000) : appk (some (.ow (cndsE r))) (.ok x.enc) m τ = .ok (.nx (τ.set m (.ow (cndsE (r ++ [x]))))) := by
  have e := k_app1 (ds := r.map Cnd.enc) (d := x.enc) (m := m) (τ := τ) (by rw [List.length_map]; exact Nat.lt_of_le_of_lt h (by decide))
  rw [show (r.map Cnd.enc) ++ [x.enc] = (r ++ [x]).map Cnd.enc by rw [List.map_append]; rfl] at e
  exact e
theorem walk_inl {α β : Type} {f : β → α → β} : ∀ {l : List α} {x : β}, walkE (fun b a => .inl (f b a)) l x = .inl (l.foldl f x)
  | [], _ => rfl
  | a :: l, x => walk_inl (l := l) (x := f x a)
theorem known_ok {fs : List Str} (hl : fs.length ≤ 5) {ws : List Nat} (hw : ws.length ≤ 1000) : C (n + 1) 22 [sD fs, .list [crowdE ws]] = .ok (true, cndsE ((List.range fs.length).foldl (fun r k => r ++ knownC fs ws k) [])) := by
  have L := fgo_walkN (cl := C n) (gc := gc0) (g := gas) (vs := [3]) (one := true) (b := b__law_known_1) (ks := [3, 4, 5, 6]) (enc := natD)
    (pack := fun (r : List Cnd) => [.fz (sD fs), .fz (.list [crowdE ws]), .ow (cndsE r), .un, .un, .un, .un]) (step := fun r k => .inl (r ++ knownC fs ws k)) (fun l r => l.length + r.length ≤ 100 ∧ ∀ k ∈ l, k < fs.length) (l := List.range fs.length) (x := []) (fun k l r ds i => by
      obtain ⟨i1, i2⟩ := i
      have hk := i2 k (List.mem_cons_self ..)
      have hx : fs[k]? = some fs[k] := List.getElem?_eq_getElem hk
      have hk3 : k ≤ 1000 := by omega
      have hr : r.length ≤ 1000 := by simp only [List.length_cons] at i1; omega
      have hlc : lcGo (lcF (C n) gc0 [6] true (.cst (.bool true)) (.bin .mod (.bin .fdiv (.var 6) (.bin .shl (.cst (.int 1)) (.var 3))) (.cst (.int 2)))
          [.fz (sD fs), .fz (.list [crowdE ws]), .ow (cndsE r), .fz (natD k), .nw (.list []), .fz (crowdE ws), .un]) (ws.map natD) = .ok ((ws.map fun w => w.testBit k).map bitE) := by
        rw [lcGo_map (k := fun w => some (bitE (w.testBit k))) fun w hw => ?_]
        · congr 1
          rw [List.map_map]
          exact congrFun (List.filterMap_eq_map' (f := bitE ∘ fun w => w.testBit k)) ws
        · have := bit_mod w k
          rw [lcF_eq]
          simp [natD, hk3, this, bitE]
      have n0 := nin0 (ws.map fun w => w.testBit k)
      have n1 := nin1 (ws.map fun w => w.testBit k)
      have a1 : ∀ m τ, appk (some (.ow (cndsE r))) (.ok (.tuple [.str "fact", .str fs[k]])) m τ = .ok (.nx (τ.set m (.ow (cndsE (r ++ [.fact fs[k]]))))) := fun m τ => app_cnd (x := .fact fs[k]) hr
      have a2 : ∀ m τ, appk (some (.ow (cndsE r))) (.ok (.tuple [.str "not", .tuple [.str "fact", .str fs[k]]])) m τ = .ok (.nx (τ.set m (.ow (cndsE (r ++ [.not (.fact fs[k])]))))) := fun m τ => app_cnd (x := .not (.fact fs[k])) hr
      have hkc : knownC fs ws k = if (ws.all fun w => w.testBit k) = true then [.fact fs[k]] else if (ws.all fun w => !w.testBit k) = true then [.not (.fact fs[k])] else [] := by
        unfold knownC
        rw [hx]
      have hkl : (knownC fs ws k).length ≤ 1 := by
        rw [hkc]
        split
        · simp
        · split <;> simp
      rw [List.all_map] at n0 n1
      simp only [List.map_map] at n0 n1 hlc
      have n0' : cmpD .nin (.int 0) (.list (ws.map (bitE ∘ fun w => w.testBit k))) = .ok (.fz, .bool (ws.all fun w => w.testBit k)) := n0
      have n1' : cmpD .nin (.int 1) (.list (ws.map (bitE ∘ fun w => w.testBit k))) = .ok (.fz, .bool (ws.all fun w => !w.testBit k)) := n1
      show fgo (C n) gc0 gas [3] true b__law_known_1 [3, 4, 5, 6] (natD k :: ds) _ = fgo (C n) gc0 gas [3] true b__law_known_1 [3, 4, 5, 6] ds _ ∧ _
      refine ⟨?_, by simp only [List.length_cons, List.length_append] at i1 ⊢; omega, fun k m => i2 k (List.mem_cons_of_mem _ m)⟩
      rw [s_fgo, hkc]
      cases h1 : ws.all fun w => w.testBit k with
      | true =>
        rw [h1] at n0'
        simp [b__law_known_1, b__law_known_0, s_fgo, fgo_nil, hlc, hw, n0', ix_sD hx, a1]
        simp [natD, ix_sD hx, a1]
      | false =>
        rw [h1] at n0'
        cases h2 : ws.all fun w => !w.testBit k with
        | true =>
          rw [h2] at n1'
          simp [b__law_known_1, b__law_known_0, s_fgo, fgo_nil, hlc, hw, n0', n1', ix_sD hx, a2]
          simp [natD, ix_sD hx, a2]
        | false =>
          rw [h2] at n1'
          simp [b__law_known_1, b__law_known_0, s_fgo, fgo_nil, hlc, hw, n0', n1', ix_sD hx]) ⟨by rw [List.length_range]; show fs.length + 0 ≤ 100; omega, fun k m => List.mem_range.mp m⟩
  rw [walk_inl] at L
  rw [show cndsE [] = PyData.list [] from rfl] at L
  have hl2 : fs.length ≤ 1000 := by omega
  rw [at__law_known]
  simp [d__law_known, len_sD, hl2]
  rw [L]
  simp [outE]
/-- what is wished -/
def wishStep (x : Cnd × Int) (c : Cnd) : Cnd × Int := (if x.2 % 4 > 0 then .both c x.1 else x.1, x.2 / 4)
theorem h_cut (h : House) : slD (houseE h) none (some 4) = .ok (.fz, .tuple [sD h.facts, deedsE h.deeds, looksE h.looks, natsE h.firsts]) := nr rfl
theorem one_cnds {k : Kd} (cs : List Cnd) (hk : k = .fz ∨ k = .ow ∨ k = .nw) : onek (.ok (k, cndsE cs)) = .ok (cs.map Cnd.enc) := by
  rcases hk with rfl | rfl | rfl <;> rfl
def wishOf (cs : List Cnd) (num : Int) : Cnd := (cs.foldl wishStep (.yes, num)).1
theorem wished_ok {ws : List Nat} {cs : List Cnd} (e : C n 22 [sD h.facts, .list [crowdE ws]] = .ok (true, cndsE cs)) (num : Int) :
    C (n + 1) 23 [houseE h, .list [crowdE ws], .int num] = .ok (false, houseE { h with wish := wishOf cs num }) := by
  have L := (fgo_fold (cl := C n) (gc := gc0) (g := gas) (vs := [4]) (one := true) (b := b__law_wished_0) (ks := [4]) (enc := Cnd.enc)
    (pack := fun (x : Cnd × Int) => [.fz (houseE h), .fz (.list [crowdE ws]), .fz (.int x.2), .fz x.1.enc, .un]) (step := wishStep) (fun _ => True) (l := cs) (x := (.yes, num)) (fun c hc x ds _ => by
      refine ⟨?_, trivial⟩
      obtain ⟨w, q⟩ := x
      rw [s_fgo]
      by_cases hq : q % 4 > 0
      · have hq' : (0 : Int) < q % 4 := hq
        simp [b__law_wished_0, wishStep, hq, hq', Cnd.enc]
      · have hq' : ¬ (0 : Int) < q % 4 := hq
        simp [b__law_wished_0, wishStep, hq, hq', Cnd.enc]) trivial).1
  rw [at__law_wished]
  have e1 := one_cnds (k := .ow) cs (.inr (.inl rfl))
  rw [show Cnd.yes.enc = PyData.tuple [.str "yes"] from rfl] at L
  simp [d__law_wished, e, e1]
  rw [L]
  simp [h_cut]

  rfl
end
end F1
end VL
namespace VL
open PySem PySem.Spec L2
namespace F1

section
variable {h : House} {n : Nat}
theorem list_way (w : List Chg) : biD .list [wayE w] = .ok (.ow, wayE w) := nr rfl
theorem list_looks (w : List Look) : biD .list [looksE w] = .ok (.ow, looksE w) := nr rfl
theorem list_nats (w : List Nat) : biD .list [natsE w] = .ok (.ow, natsE w) := nr rfl
theorem copy_ok (h : House) : C (n + 1) 27 [houseE h] = .ok (false, houseE h) := by
  have hin : ∀ (ways : List (List Chg)) (a b c d e : Sl), lcGo (lcF (C n) gc0 [2] true (.cst (.bool true)) (.bi .list (.conp (.var 2) .nil)) [a, b, .un, c, d, e]) (ways.map wayE) = .ok (ways.map wayE) := by
    intro ways a b c d e
    rw [lcGo_map (k := fun w => some (wayE w)) fun w hw => ?_]
    · congr 1
      exact congrFun (List.filterMap_eq_map' (f := wayE)) ways
    · rw [lcF_eq]
      simp [list_way]
  have hlc : lcGo (lcF (C n) gc0 [3, 4, 5] false (.cst (.bool true)) (.tup (.cons (.var 3) (.cons (.var 4) (.cons (.lc [2] true (.one (.var 5)) (.cst (.bool true)) (.bi .list (.conp (.var 2) .nil))) .nil)))) [.fz (houseE h), .un, .un, .un, .un, .un]) (h.deeds.map deedE) = .ok (h.deeds.map deedE) := by
    rw [lcGo_map (k := fun d => some (deedE d)) fun d hd => ?_]
    · congr 1
      exact congrFun (List.filterMap_eq_map' (f := deedE)) h.deeds
    · rw [lcF_eq]
      simp [deedE, hin, one_ways]
      rfl
  rw [at__law_copy]
  simp [d__law_copy, hlc, list_sD, list_looks, list_nats]
  rfl
theorem cell_ok {ns : List Int} {k : Nat} : ∃ c : Int, C (n + 1) 13 [.list (ns.map .int), natD k] = .ok (false, .int c) := by
  by_cases hk : k < ns.length
  · have hx : ns[k]? = some ns[k] := List.getElem?_eq_getElem hk
    have e : ixD (.list (ns.map .int)) (.int (k : Int)) = .ok (.fz, .int ns[k]) := x_l (atI_nat (a := PyData.int ns[k]) (by rw [List.getElem?_map, hx]; rfl))
    refine ⟨ns[k], ?_⟩
    rw [at__law_cell_at]
    simp [d__law_cell_at, natD, hk, e]
  · refine ⟨0, ?_⟩
    rw [at__law_cell_at]
    simp [d__law_cell_at, natD, hk]
theorem app_int {r : List Int} {x : Int} {m : Nat} {τ : Ta} (h : r.length ≤ 1000) : appk (some (.ow (.list (r.map .int)))) (.ok (.int x)) m τ = .ok (.nx (τ.set m (.ow (.list ((r ++ [x]).map .int))))) := by
  have e := k_app1 (ds := r.map PyData.int) (d := .int x) (m := m) (τ := τ) (by rw [List.length_map]; exact Nat.lt_of_le_of_lt h (by decide))
  rw [show (r.map PyData.int) ++ [PyData.int x] = (r ++ [x]).map PyData.int by rw [List.map_append]; rfl] at e
  exact e
theorem o_mulA {i j : Int} (h0 : 0 ≤ j) (h : j < 2147483648) : binD .mul (.int i) (.int j) = .ok (.fz, .int (i * j)) := o_mul2 h0 (by omega)
theorem o_mulB {i j : Int} (h0 : 0 ≤ i) (h : i < 2147483648) : binD .mul (.int i) (.int j) = .ok (.fz, .int (i * j)) := o_mul1 h0 (by omega)
theorem o_powl {i j r : Int} (h : 0 ≤ j ∧ j ≤ 1000000 ∧ i.natAbs < 2 ^ 64) (e : i ^ j.toNat = r) : binD .pow (.int i) (.int j) = .ok (.fz, .int r) := by
  have q : binD .pow (.int i) (.int j) = if 0 ≤ j ∧ j ≤ 1000000 ∧ i.natAbs < 2 ^ 64 then .ok (.fz, .int (i ^ j.toNat)) else .stuck := rfl
  rw [q, if_pos h, e]
theorem pow18 : binD .pow (.int 10) (.int 18) = .ok (.fz, .int 1000000000000000000) := o_powl (by decide) (by decide)
theorem pow9 : binD .pow (.int 10) (.int 9) = .ok (.fz, .int 1000000000) := o_powl (by decide) (by decide)
def stirOf (cell rest : Int) (k : Nat) : Int :=
  if 1000000000000000000 ≤ cell then rest else
    ((cell + 977 * k + 1) * 48271 % 2147483647 * ((cell + 977 * k + 1) * 48271 % 2147483647) % 2147483629 + 40692 * (k + 3)) * 69621 % 2147483423 / 8
def stirStep (cell : Int) (x : Int × List Int) (k : Nat) : Int × List Int := (x.1 / 1000000000, x.2 ++ [stirOf cell x.1 k % 1000000000])
theorem stir_len (cell : Int) : ∀ (ks : List Nat) (x : Int × List Int), (ks.foldl (stirStep cell) x).2.length = x.2.length + ks.length
  | [], x => rfl
  | k :: ks, x => by
    rw [List.foldl_cons, stir_len cell ks]
    show (x.2 ++ [_]).length + ks.length = _
    rw [List.length_append, List.length_singleton, List.length_cons]; omega
theorem stir_lt (cell : Int) : ∀ (ks : List Nat) (x : Int × List Int), (∀ d ∈ x.2, 0 ≤ d ∧ d < 1000000000) → ∀ d ∈ (ks.foldl (stirStep cell) x).2, 0 ≤ d ∧ d < 1000000000
  | [], x, h => h
  | k :: ks, x, h => by
    rw [List.foldl_cons]
    refine stir_lt cell ks _ fun d hd => ?_
    rcases List.mem_append.mp hd with z | z
    · exact h d z
    · rw [List.mem_singleton] at z
      rw [z]; omega
/-- a script's digits: thirty numbers of at most nine figures -/
theorem digits_ok (cell : Int) : ∃ xs : List Int, C (n + 1) 14 [.int cell, .int 30, .int 1000000000] = .ok (true, .list (xs.map .int)) ∧ xs.length = 30 ∧ ∀ x ∈ xs, 0 ≤ x ∧ x < 1000000000 := by
  have L := fgo_walkN (cl := C n) (gc := gc0) (g := gas) (vs := [5]) (one := true) (b := b__law_digits_0) (ks := [5, 6]) (enc := natD)
    (pack := fun (x : Int × List Int) => [.fz (.int cell), .fz (.int 30), .fz (.int 1000000000), .ow (.list (x.2.map .int)), .fz (.int x.1), .un, .un]) (step := fun x k => .inl (stirStep cell x k)) (fun l x => l.length + x.2.length ≤ 100) (l := List.range 30) (x := (cell, [])) (fun k l x ds i => by
      obtain ⟨rest, found⟩ := x
      have hf : found.length ≤ 1000 := by simp only [List.length_cons] at i; omega
      have b1 : 0 ≤ (cell + 977 * (k : Int) + 1) * 48271 % 2147483647 := by omega
      have b2 : (cell + 977 * (k : Int) + 1) * 48271 % 2147483647 < 2147483648 := by omega
      show fgo (C n) gc0 gas [5] true b__law_digits_0 [5, 6] (natD k :: ds) _ = fgo (C n) gc0 gas [5] true b__law_digits_0 [5, 6] ds _ ∧ _
      refine ⟨?_, by simp only [List.length_cons, stirStep, List.length_append, List.length_nil] at i ⊢; omega⟩
      rw [s_fgo]
      by_cases hc : 1000000000000000000 ≤ cell
      · simp [b__law_digits_0, natD, o_mulA, o_mulB, b1, b2, pow18, hc, app_int hf, stirStep, stirOf]
      · simp [b__law_digits_0, natD, o_mulA, o_mulB, b1, b2, pow18, hc, app_int hf, stirStep, stirOf]) (by show 30 + 0 ≤ 100; decide)
  rw [walk_inl] at L
  refine ⟨((List.range 30).foldl (stirStep cell) (cell, [])).2, ?_, by rw [stir_len]; rfl, stir_lt cell _ _ fun d hd => by cases hd⟩
  have hr : rngk (.ok (.fz, .int 30)) = .ok ((List.range 30).map natD) := k_rng (j := 30) (by decide)
  rw [at__law_digits]
  simp [d__law_digits, hr]
  simp at L
  rw [L]
  simp [outE]
theorem ix_mod {fs : List Str} (hne : fs ≠ []) (i : Int) : ∃ x, x ∈ fs ∧ ixD (sD fs) (.int (i % (fs.length : Int))) = .ok (.fz, .str x) := by
  have hl : 0 < fs.length := List.length_pos_iff.mpr hne
  obtain ⟨k, hk⟩ : ∃ k : Nat, i % (fs.length : Int) = (k : Int) := ⟨(i % (fs.length : Int)).toNat, by rw [Int.toNat_of_nonneg (Int.emod_nonneg _ (by omega))]⟩
  have hlt : i % (fs.length : Int) < fs.length := Int.emod_lt_of_pos _ (by omega)
  have hk2 : k < fs.length := by omega
  refine ⟨fs[k], List.getElem_mem hk2, ?_⟩
  rw [hk]
  exact ix_sD (List.getElem?_eq_getElem hk2)
theorem x_l6 {a b c d e f g : D} {r : List D} : ixD (.list (a :: b :: c :: d :: e :: f :: g :: r)) (.int 6) = .ok (.fz, g) := x_l (atI_nat (i := 6) rfl)
theorem x_l7 {a b c d e f g h : D} {r : List D} : ixD (.list (a :: b :: c :: d :: e :: f :: g :: h :: r)) (.int 7) = .ok (.fz, h) := x_l (atI_nat (i := 7) rfl)
theorem mod8 (i : Int) : i % 8 = 0 ∨ i % 8 = 1 ∨ i % 8 = 2 ∨ i % 8 = 3 ∨ i % 8 = 4 ∨ i % 8 = 5 ∨ i % 8 = 6 ∨ i % 8 = 7 := by omega
theorem mod4 (i : Int) : i % 4 = 0 ∨ i % 4 = 1 ∨ i % 4 = 2 ∨ i % 4 = 3 := by omega
theorem mod3 (i : Int) : i % 3 = 0 ∨ i % 3 = 1 ∨ i % 3 = 2 := by omega
theorem mod2 (i : Int) : i % 2 = 0 ∨ i % 2 = 1 := by omega
def small (fs : List Str) (c : Cnd) : Prop := c.on fs ∧ c.dep ≤ 3
theorem condition_ok {fs : List Str} (hne : fs ≠ []) (hl : fs.length ≤ 5) (num : Int) : ∃ c : Cnd, small fs c ∧ C (n + 1) 19 [.int num, sD fs] = .ok (false, c.enc) := by
  obtain ⟨x, hx, e1⟩ := ix_mod hne (num / 8)
  obtain ⟨y, hy, e2⟩ := ix_mod hne (num / 64)
  have hpos : (0 : Int) < fs.length := by have := List.length_pos_iff.mpr hne; omega
  have hpos2 : 0 < fs.length := by omega
  have two : ∃ t : Cnd, t.on fs ∧ t.dep ≤ 1 ∧ ixD (.list [(Cnd.fact x).enc, (Cnd.not (.fact y)).enc]) (.int (num / 512 % 2)) = .ok (.fz, t.enc) := by
    rcases mod2 (num / 512) with z | z
    · exact ⟨.fact x, hx, Nat.zero_le _, by rw [z]; exact x_l0⟩
    · exact ⟨.not (.fact y), hy, Nat.le_refl _, by rw [z]; exact x_l1⟩
  obtain ⟨t, ht, hd, e3⟩ := two
  have e3' : ixD (.list [.tuple [.str "fact", .str x], .tuple [.str "not", .tuple [.str "fact", .str y]]]) (.int (num / 512 % 2)) = .ok (.fz, t.enc) := e3
  have hon : (Cnd.fact x).on fs := hx
  have go : ∀ c : Cnd, small fs c → C (n + 1) 19 [.int num, sD fs] = .ok (false, c.enc) → ∃ c : Cnd, small fs c ∧ C (n + 1) 19 [.int num, sD fs] = .ok (false, c.enc) := fun c h1 h2 => ⟨c, h1, h2⟩
  rcases mod8 num with z | z | z | z | z | z | z | z
  · refine go (.fact x) ⟨hx, by simp [Cnd.dep]⟩ ?_
    rw [at__law_condition]
    simp [d__law_condition, len_sD, hpos, hpos2, e1, e2, e3', z, Cnd.enc]
  · refine go (.not (.fact x)) ⟨hx, by simp [Cnd.dep]⟩ ?_
    rw [at__law_condition]
    simp [d__law_condition, len_sD, hpos, hpos2, e1, e2, e3', z, Cnd.enc]
  · refine go .yes ⟨trivial, by simp [Cnd.dep]⟩ ?_
    rw [at__law_condition]
    simp [d__law_condition, len_sD, hpos, hpos2, e1, e2, e3', z, Cnd.enc]
  · refine go (.both (.fact x) t) ⟨⟨hx, ht⟩, by simp only [Cnd.dep]; omega⟩ ?_
    rw [at__law_condition]
    simp [d__law_condition, len_sD, hpos, hpos2, e1, e2, e3', z, Cnd.enc]
  · refine go (.either t (.fact x)) ⟨⟨ht, hx⟩, by simp only [Cnd.dep]; omega⟩ ?_
    rw [at__law_condition]
    simp [d__law_condition, len_sD, hpos, hpos2, e1, e2, e3', z, Cnd.enc]
  · refine go (.not (.both t (.fact x))) ⟨⟨ht, hx⟩, by simp only [Cnd.dep]; omega⟩ ?_
    rw [at__law_condition]
    simp [d__law_condition, len_sD, hpos, hpos2, e1, e2, e3', z, Cnd.enc]
  · refine go .yes ⟨trivial, by simp [Cnd.dep]⟩ ?_
    rw [at__law_condition]
    simp [d__law_condition, len_sD, hpos, hpos2, e1, e2, e3', z, Cnd.enc, x_l6]
  · refine go (.either (.not (.fact x)) t) ⟨⟨hx, ht⟩, by simp only [Cnd.dep]; omega⟩ ?_
    rw [at__law_condition]
    simp [d__law_condition, len_sD, hpos, hpos2, e1, e2, e3', z, Cnd.enc, x_l7]
end
end F1
end VL
namespace VL
open PySem PySem.Spec L2
namespace F1

def names6 : List Str := ["a", "door", "key", "wet", "yes", "x"]
theorem facts_ok (a : Int) : ∃ fs : List Str, slD (sD names6) (some (a % 3)) none = .ok (.ow, sD (names6.drop (a % 3).toNat)) ∧ slD (sD (names6.drop (a % 3).toNat)) none (some (2 + a / 3 % 3)) = .ok (.ow, sD fs) ∧ fs.Nodup ∧ 2 ≤ fs.length ∧ fs.length ≤ 4 ∧ ∀ x ∈ fs, SeqAt.shaped (.str x) = true := by
  obtain ⟨r, hr⟩ : ∃ r : Nat, a % 3 = (r : Int) := ⟨(a % 3).toNat, by omega⟩
  obtain ⟨q, hq⟩ : ∃ q : Nat, a / 3 % 3 = (q : Int) := ⟨(a / 3 % 3).toNat, by omega⟩
  have hr3 : r < 3 := by omega
  have hq3 : q < 3 := by omega
  have hlen : (names6.drop r).length = 6 - r := by rw [List.length_drop]; rfl
  refine ⟨(names6.drop r).take (2 + q), ?_, ?_, ?_, ?_, ?_, ?_⟩
  · rw [hr, Int.toNat_natCast]
    exact sl_suf (by show r ≤ 6; omega)
  · rw [hr, hq, Int.toNat_natCast]
    exact sl_pre (k := 2 + q) (by omega)
  · have h6 : names6.Nodup := by decide +kernel
    exact (h6.sublist (List.drop_sublist ..)).sublist (List.take_sublist ..)
  · rw [List.length_take]; omega
  · rw [List.length_take]; omega
  · have h6 : ∀ x ∈ names6, SeqAt.shaped (.str x) = true := by decide +kernel
    exact fun x m => h6 x (List.mem_of_mem_drop (List.mem_of_mem_take m))
theorem app_chg {r : List Chg} {x : Chg} {m : Nat} {τ : Ta} (h : r.length ≤ 1000) : appk (some (.ow (wayE r))) (.ok (chgE x)) m τ = .ok (.nx (τ.set m (.ow (wayE (r ++ [x]))))) := by
  have e := k_app1 (ds := r.map chgE) (d := chgE x) (m := m) (τ := τ) (by rw [List.length_map]; exact Nat.lt_of_le_of_lt h (by decide))
  rw [show (r.map chgE) ++ [chgE x] = (r ++ [x]).map chgE by rw [List.map_append]; rfl] at e
  exact e
theorem app_way {r : List (List Chg)} {x : List Chg} {m : Nat} {τ : Ta} (h : r.length ≤ 1000) : appk (some (.ow (waysE r))) (.ok (wayE x)) m τ = .ok (.nx (τ.set m (.ow (waysE (r ++ [x]))))) := by
  have e := k_app1 (ds := r.map wayE) (d := wayE x) (m := m) (τ := τ) (by rw [List.length_map]; exact Nat.lt_of_le_of_lt h (by decide))
  rw [show (r.map wayE) ++ [wayE x] = (r ++ [x]).map wayE by rw [List.map_append]; rfl] at e
  exact e
theorem app_deed {r : List Deed} {x : Deed} {m : Nat} {τ : Ta} (h : r.length ≤ 1000) : appk (some (.ow (deedsE r))) (.ok (deedE x)) m τ = .ok (.nx (τ.set m (.ow (deedsE (r ++ [x]))))) := by
  have e := k_app1 (ds := r.map deedE) (d := deedE x) (m := m) (τ := τ) (by rw [List.length_map]; exact Nat.lt_of_le_of_lt h (by decide))
  rw [show (r.map deedE) ++ [deedE x] = (r ++ [x]).map deedE by rw [List.map_append]; rfl] at e
  exact e
theorem app_look {r : List Look} {x : Look} {m : Nat} {τ : Ta} (h : r.length ≤ 1000) : appk (some (.ow (looksE r))) (.ok (lookE x)) m τ = .ok (.nx (τ.set m (.ow (looksE (r ++ [x]))))) := by
  have e := k_app1 (ds := r.map lookE) (d := lookE x) (m := m) (τ := τ) (by rw [List.length_map]; exact Nat.lt_of_le_of_lt h (by decide))
  rw [show (r.map lookE) ++ [lookE x] = (r ++ [x]).map lookE by rw [List.map_append]; rfl] at e
  exact e
section
variable {n : Nat} {fs : List Str}
/-- a way of the drawn house -/
theorem way_loop (hne : fs ≠ []) (hl : fs.length ≤ 5) (X : D) (k j num : Int) (s3 s5 : Sl) (m : Nat) (hm : m ≤ 2) : ∃ way : List Chg, wayOn fs 4 way ∧
    fgo (C (n + 1)) gc0 gas [9] true b__law_drawn_house_0 [9, 10] ((List.range m).map natD) [.fz X, .un, .nw (sD fs), s3, .fz (.int k), s5, .fz (.int j), .fz (.int num), .ow (wayE []), .un, .un, .un, .un, .un, .un] =
      .ok (.nx [.fz X, .un, .nw (sD fs), s3, .fz (.int k), s5, .fz (.int j), .fz (.int num), .ow (wayE way), .un, .un, .un, .un, .un, .un]) := by
  have hpos : (0 : Int) < fs.length := by have := List.length_pos_iff.mpr hne; omega
  have hpos2 : 0 < fs.length := by omega
  obtain ⟨τ, e, way, h1, h2, h3⟩ := fgo_exN (cl := C (n + 1)) (gc := gc0) (g := gas) (vs := [9]) (one := true) (b := b__law_drawn_house_0) (ks := [9, 10])
    (P := fun l τ => ∃ way : List Chg, τ = [.fz X, .un, .nw (sD fs), s3, .fz (.int k), s5, .fz (.int j), .fz (.int num), .ow (wayE way), .un, .un, .un, .un, .un, .un] ∧ wayOn fs 4 way ∧ l.length + way.length ≤ 10 ∧ ∀ d ∈ l, ∃ i : Nat, d = natD i ∧ i < 10)
    (l := (List.range m).map natD) (τ := [.fz X, .un, .nw (sD fs), s3, .fz (.int k), s5, .fz (.int j), .fz (.int num), .ow (wayE []), .un, .un, .un, .un, .un, .un])
    (fun d r τ ds p => by
      obtain ⟨way, rfl, h1, h2, h3⟩ := p
      obtain ⟨i, rfl, hi⟩ := h3 d (List.mem_cons_self ..)
      have hf : way.length ≤ 1000 := by simp only [List.length_cons] at h2; omega
      obtain ⟨c, hc, e1⟩ := condition_ok (n := n) hne hl (num / (64 + (i : Int)))
      obtain ⟨x, hx, e2⟩ := ix_mod hne (num / (8 + (i : Int)))
      obtain ⟨w, hw, e3⟩ : ∃ w : Cnd, small fs w ∧ ixD (.list [.tuple [.str "yes"], c.enc]) (.int (num / (4 + (i : Int)) % 2)) = .ok (.fz, w.enc) := by
        rcases mod2 (num / (4 + (i : Int))) with z | z
        · exact ⟨.yes, ⟨trivial, Nat.zero_le _⟩, by rw [z]; exact x_l0⟩
        · exact ⟨c, hc, by rw [z]; exact x_l1⟩
      have a1 : (0 : Int) < 64 + (i : Int) := by omega
      have a2 : 64 + (i : Int) < 1000000000000000000000000000000 := by omega
      have b1 : (0 : Int) < 4 + (i : Int) := by omega
      have b2 : 4 + (i : Int) < 1000000000000000000000000000000 := by omega
      have c1 : (0 : Int) < 8 + (i : Int) := by omega
      have c2 : 8 + (i : Int) < 1000000000000000000000000000000 := by omega
      have d1 : (0 : Int) < 32 + (i : Int) := by omega
      have d2 : 32 + (i : Int) < 1000000000000000000000000000000 := by omega
      have ap : ∀ m τ, appk (some (.ow (wayE way))) (.ok (.tuple [w.enc, .str x, .bool (decide (0 < num / (32 + (i : Int)) % 3))])) m τ = .ok (.nx (τ.set m (.ow (wayE (way ++ [(w, x, decide (0 < num / (32 + (i : Int)) % 3))]))))) := fun m τ => app_chg (x := (w, x, _)) hf
      refine ⟨_, ?_, way ++ [(w, x, decide (0 < num / (32 + (i : Int)) % 3))], rfl, fun c hc => ?_, by simp only [List.length_cons, List.length_append, List.length_nil] at h2 ⊢; omega, fun d m => h3 d (List.mem_cons_of_mem _ m)⟩
      · rw [s_fgo]
        simp [b__law_drawn_house_0, natD, e1, e2, e3, a1, a2, b1, b2, c1, c2, d1, d2, len_sD, hpos, hpos2, ap]
      · rcases List.mem_append.mp hc with q | q
        · exact h1 c q
        · rw [List.mem_singleton] at q
          rw [q]
          exact ⟨hw.1, by have := hw.2; show w.dep < 4; omega, hx⟩)
    ⟨[], rfl, fun c hc => (by cases hc), (by rw [List.length_map, List.length_range]; show m + 0 ≤ 10; omega), fun d hd => by
      obtain ⟨i, hi, rfl⟩ := List.mem_map.mp hd
      exact ⟨i, rfl, by have := List.mem_range.mp hi; omega⟩⟩
  exact ⟨way, h2, by rw [e, h1]⟩
end
end F1
end VL
namespace VL
open PySem PySem.Spec L2
namespace F1
/-- thirty numbers -/
def Dig (X : D) : Prop := ∀ k : Int, 0 ≤ k → k < 30 → ∃ a : Int, 0 ≤ a ∧ ixD X (.int k) = .ok (.fz, .int a)
section
variable {n : Nat} {fs : List Str}
theorem four_of (num : Int) : ∃ m : Nat, m ≤ 2 ∧ ixD (.list [.int 1, .int 1, .int 2, .int 0]) (.int (num % 4)) = .ok (.fz, .int (m : Int)) := by
  rcases mod4 num with z | z | z | z
  · exact ⟨1, by decide, by rw [z]; exact x_l0⟩
  · exact ⟨1, by decide, by rw [z]; exact x_l1⟩
  · exact ⟨2, by decide, by rw [z]; exact x_l2⟩
  · exact ⟨0, by decide, by rw [z]; exact x_l3⟩
theorem ways_loop (hne : fs ≠ []) (hl : fs.length ≤ 5) {X : D} (hX : Dig X) (k : Nat) (s3 : Sl) (m : Nat) (hm : m ≤ 4) : ∃ ways : List (List Chg), (∀ way ∈ ways, wayOn fs 4 way) ∧ ways.length = m ∧
    fgo (C (n + 1)) gc0 gas [6] true b__law_drawn_house_1 [6, 7, 8, 9, 10] ((List.range m).map natD) [.fz X, .un, .nw (sD fs), s3, .fz (.int (k : Int)), .ow (waysE []), .un, .un, .un, .un, .un, .un, .un, .un, .un] =
      .ok (.nx [.fz X, .un, .nw (sD fs), s3, .fz (.int (k : Int)), .ow (waysE ways), .un, .un, .un, .un, .un, .un, .un, .un, .un]) := by
  obtain ⟨τ, e, ways, h1, h2, h3, _⟩ := fgo_exN (cl := C (n + 1)) (gc := gc0) (g := gas) (vs := [6]) (one := true) (b := b__law_drawn_house_1) (ks := [6, 7, 8, 9, 10])
    (P := fun l τ => ∃ ways : List (List Chg), τ = [.fz X, .un, .nw (sD fs), s3, .fz (.int (k : Int)), .ow (waysE ways), .un, .un, .un, .un, .un, .un, .un, .un, .un] ∧ (∀ way ∈ ways, wayOn fs 4 way) ∧ l.length + ways.length = m ∧ ∀ d ∈ l, ∃ i : Nat, d = natD i ∧ i < 10)
    (l := (List.range m).map natD) (τ := [.fz X, .un, .nw (sD fs), s3, .fz (.int (k : Int)), .ow (waysE []), .un, .un, .un, .un, .un, .un, .un, .un, .un])
    (fun d r τ ds p => by
      obtain ⟨ways, rfl, h1, h2, h3⟩ := p
      obtain ⟨i, rfl, hi⟩ := h3 d (List.mem_cons_self ..)
      have hf : ways.length ≤ 1000 := by simp only [List.length_cons] at h2; omega
      obtain ⟨num, _, e1⟩ := hX (6 + (3 * (k : Int) + (i : Int)) % 8) (by omega) (by omega)
      obtain ⟨m2, hm2, e2⟩ := four_of num
      have hm3 : m2 ≤ 1000 := by omega
      obtain ⟨way, hw, e3⟩ := way_loop (n := n) hne hl X (k : Int) (i : Int) num s3 (.ow (waysE ways)) m2 hm2
      rw [show wayE [] = PyData.list [] from rfl] at e3
      refine ⟨_, ?_, ways ++ [way], rfl, fun w hw2 => ?_, by simp only [List.length_cons, List.length_append, List.length_nil] at h2 ⊢; omega, fun d m => h3 d (List.mem_cons_of_mem _ m)⟩
      · rw [s_fgo]
        simp [b__law_drawn_house_1, natD, o_mulB, e1, e2, hm3]
        rw [e3]
        simp [app_way hf]
      · rcases List.mem_append.mp hw2 with q | q
        · exact h1 w q
        · rw [List.mem_singleton] at q
          rw [q]; exact hw)
    ⟨[], rfl, fun c hc => (by cases hc), (by rw [List.length_map, List.length_range]; rfl), fun d hd => by
      obtain ⟨i, hi, rfl⟩ := List.mem_map.mp hd
      exact ⟨i, rfl, by have := List.mem_range.mp hi; omega⟩⟩
  exact ⟨ways, h2, by simpa using h3, by rw [e, h1]⟩
end
end F1
end VL
namespace VL
open PySem PySem.Spec L2
namespace F1
section
variable {n : Nat} {fs : List Str}
theorem eight_of (num : Int) : ∃ m : Nat, 1 ≤ m ∧ m ≤ 4 ∧ ixD (.list [.int 1, .int 1, .int 2, .int 3, .int 1, .int 1, .int 2, .int 4]) (.int (num % 8)) = .ok (.fz, .int (m : Int)) := by
  rcases mod8 num with z | z | z | z | z | z | z | z
  · exact ⟨1, by decide, by decide, by rw [z]; exact x_l0⟩
  · exact ⟨1, by decide, by decide, by rw [z]; exact x_l1⟩
  · exact ⟨2, by decide, by decide, by rw [z]; exact x_l2⟩
  · exact ⟨3, by decide, by decide, by rw [z]; exact x_l3⟩
  · exact ⟨1, by decide, by decide, by rw [z]; exact x_l4⟩
  · exact ⟨1, by decide, by decide, by rw [z]; exact x_l5⟩
  · exact ⟨2, by decide, by decide, by rw [z]; exact x_l6⟩
  · exact ⟨4, by decide, by decide, by rw [z]; exact x_l7⟩
def names4 : List Str := ["go", "open", "a", "wash"]
def names3 : List Str := ["look", "key", "feel"]
theorem name4 {k : Nat} (h : k < 4) : ∃ x : Str, SeqAt.shaped (.str x) = true ∧ ixD (.list [.str "go", .str "open", .str "a", .str "wash"]) (.int (k : Int)) = .ok (.fz, .str x) ∧ names4[k]? = some x := by
  match k, h with
  | 0, _ => exact ⟨"go", by decide +kernel, x_l0, rfl⟩
  | 1, _ => exact ⟨"open", by decide +kernel, x_l1, rfl⟩
  | 2, _ => exact ⟨"a", by decide +kernel, x_l2, rfl⟩
  | 3, _ => exact ⟨"wash", by decide +kernel, x_l3, rfl⟩
theorem name3 {k : Nat} (h : k < 3) : ∃ x : Str, SeqAt.shaped (.str x) = true ∧ ixD (.list [.str "look", .str "key", .str "feel"]) (.int (k : Int)) = .ok (.fz, .str x) ∧ names3[k]? = some x := by
  match k, h with
  | 0, _ => exact ⟨"look", by decide +kernel, x_l0, rfl⟩
  | 1, _ => exact ⟨"key", by decide +kernel, x_l1, rfl⟩
  | 2, _ => exact ⟨"feel", by decide +kernel, x_l2, rfl⟩
theorem names4_nd : names4.Nodup := by decide +kernel
theorem names3_nd : names3.Nodup := by decide +kernel
theorem take_more {α : Type} {l : List α} {k : Nat} {x : α} (h : l[k]? = some x) : l.take (k + 1) = l.take k ++ [x] := by rw [List.take_add_one, h]; rfl
theorem drop_range {m k i : Nat} {r : List D} (h : natD i :: r = ((List.range m).drop k).map natD) : i = k ∧ k < m ∧ r = ((List.range m).drop (k + 1)).map natD := by
  by_cases hk : k < m
  · rw [List.drop_eq_getElem_cons (by rw [List.length_range]; exact hk), List.map_cons, List.getElem_range] at h
    injection h with h1 h2
    unfold natD at h1
    injection h1 with h3
    exact ⟨by omega, hk, h2⟩
  · rw [List.drop_eq_nil_of_le (by rw [List.length_range]; omega)] at h
    cases h
theorem natD_inj {i j : Nat} (h : natD i = natD j) : i = j := by
  unfold natD at h
  injection h with h
  omega
def deedOk (fs : List Str) (d : Deed) : Prop := small fs d.need ∧ (∀ way ∈ d.ways, wayOn fs 4 way) ∧ SeqAt.shaped (.str d.name) = true ∧ d.ways ≠ []
theorem deeds_loop (hne : fs ≠ []) (hl : fs.length ≤ 5) {X : D} (hX : Dig X) (m : Nat) (hm : m ≤ 4) : ∃ deeds : List Deed, (∀ d ∈ deeds, deedOk fs d) ∧ deeds.length = m ∧ deeds.map Deed.name = names4.take m ∧
    fgo (C (n + 1)) gc0 gas [4] true b__law_drawn_house_2 [4, 5, 6, 7, 8, 9, 10, 11] ((List.range m).map natD) [.fz X, .un, .nw (sD fs), .ow (deedsE []), .un, .un, .un, .un, .un, .un, .un, .un, .un, .un, .un] =
      .ok (.nx [.fz X, .un, .nw (sD fs), .ow (deedsE deeds), .un, .un, .un, .un, .un, .un, .un, .un, .un, .un, .un]) := by
  obtain ⟨τ, e, deeds, h1, h2, h3, h4, h5⟩ := fgo_exN (cl := C (n + 1)) (gc := gc0) (g := gas) (vs := [4]) (one := true) (b := b__law_drawn_house_2) (ks := [4, 5, 6, 7, 8, 9, 10, 11])
    (P := fun l τ => ∃ deeds : List Deed, τ = [.fz X, .un, .nw (sD fs), .ow (deedsE deeds), .un, .un, .un, .un, .un, .un, .un, .un, .un, .un, .un] ∧ (∀ d ∈ deeds, deedOk fs d) ∧ l = ((List.range m).drop deeds.length).map natD ∧ deeds.length ≤ m ∧ deeds.map Deed.name = names4.take deeds.length)
    (l := (List.range m).map natD) (τ := [.fz X, .un, .nw (sD fs), .ow (deedsE []), .un, .un, .un, .un, .un, .un, .un, .un, .un, .un, .un])
    (fun d r τ ds p => by
      obtain ⟨deeds, rfl, h1, h2, h3, h4⟩ := p
      obtain ⟨i, rfl⟩ : ∃ i, d = natD i := by
        have : d ∈ ((List.range m).drop deeds.length).map natD := by rw [← h2]; exact List.mem_cons_self ..
        obtain ⟨i, _, rfl⟩ := List.mem_map.mp this
        exact ⟨i, rfl⟩
      obtain ⟨hi1, hi2, hi3⟩ := drop_range h2
      have hi : i < 4 := by omega
      have hf : deeds.length ≤ 1000 := by omega
      obtain ⟨num, _, e1⟩ := hX (2 + (i : Int)) (by omega) (by omega)
      obtain ⟨m2, hm1, hm2, e2⟩ := eight_of (num / 16)
      have hm3 : m2 ≤ 1000 := by omega
      obtain ⟨ways, hw, hwl, e3⟩ := ways_loop (n := n) hne hl hX i (.ow (deedsE deeds)) m2 hm2
      rw [show waysE [] = PyData.list [] from rfl] at e3
      obtain ⟨c, hc, e4⟩ := condition_ok (n := n) hne hl (num / 64)
      obtain ⟨w, hw4, e5⟩ : ∃ w : Cnd, small fs w ∧ ixD (.list [.tuple [.str "yes"], .tuple [.str "yes"], .tuple [.str "yes"], c.enc]) (.int (num % 4)) = .ok (.fz, w.enc) := by
        rcases mod4 num with z | z | z | z
        · exact ⟨.yes, ⟨trivial, Nat.zero_le _⟩, by rw [z]; exact x_l0⟩
        · exact ⟨.yes, ⟨trivial, Nat.zero_le _⟩, by rw [z]; exact x_l1⟩
        · exact ⟨.yes, ⟨trivial, Nat.zero_le _⟩, by rw [z]; exact x_l2⟩
        · exact ⟨c, hc, by rw [z]; exact x_l3⟩
      obtain ⟨x, hx, e6, e7⟩ := name4 hi
      have ap : ∀ m τ, appk (some (.ow (deedsE deeds))) (.ok (.tuple [.str x, w.enc, waysE ways])) m τ = .ok (.nx (τ.set m (.ow (deedsE (deeds ++ [⟨x, w, ways⟩]))))) := fun m τ => app_deed (x := ⟨x, w, ways⟩) hf
      refine ⟨_, ?_, deeds ++ [⟨x, w, ways⟩], rfl, fun d hd => ?_, by rw [List.length_append, List.length_singleton]; exact hi3, by rw [List.length_append, List.length_singleton]; omega, by rw [List.map_append, List.length_append, List.length_singleton, h4, ← hi1, take_more e7]; rfl⟩
      · rw [s_fgo]
        simp [b__law_drawn_house_2, natD, e1, e2, hm3]
        rw [e3]
        simp [e1, e4, e5, e6, ap]
      · rcases List.mem_append.mp hd with q | q
        · exact h1 d q
        · rw [List.mem_singleton] at q
          rw [q]; exact ⟨hw4, hw, hx, fun z => by
            have z : ways = [] := z
            rw [z] at hwl; simp at hwl; omega⟩)
    ⟨[], rfl, fun c hc => (by cases hc), rfl, Nat.zero_le _, rfl⟩
  have hlen : deeds.length = m := by
    have : (List.range m).drop deeds.length = [] := List.map_eq_nil_iff.mp h3.symm
    rw [List.drop_eq_nil_iff, List.length_range] at this
    omega
  exact ⟨deeds, h2, hlen, by rw [← hlen]; exact h5, by rw [e, h1]⟩
theorem looks_loop (hne : fs ≠ []) (hl : fs.length ≤ 5) {X : D} (hX : Dig X) (s3 : Sl) (m : Nat) (hm : m ≤ 3) : ∃ looks : List Look, (∀ d ∈ looks, small fs d.need ∧ small fs d.seen ∧ SeqAt.shaped (.str d.name) = true) ∧ looks.map Look.name = names3.take m ∧
    fgo (C (n + 1)) gc0 gas [4] true b__law_drawn_house_3 [4, 11] ((List.range m).map natD) [.fz X, .un, .nw (sD fs), s3, .un, .un, .un, .un, .un, .un, .un, .un, .ow (looksE []), .un, .un] =
      .ok (.nx [.fz X, .un, .nw (sD fs), s3, .un, .un, .un, .un, .un, .un, .un, .un, .ow (looksE looks), .un, .un]) := by
  obtain ⟨τ, e, looks, h1, h2, h3, h4, h5⟩ := fgo_exN (cl := C (n + 1)) (gc := gc0) (g := gas) (vs := [4]) (one := true) (b := b__law_drawn_house_3) (ks := [4, 11])
    (P := fun l τ => ∃ looks : List Look, τ = [.fz X, .un, .nw (sD fs), s3, .un, .un, .un, .un, .un, .un, .un, .un, .ow (looksE looks), .un, .un] ∧ (∀ d ∈ looks, small fs d.need ∧ small fs d.seen ∧ SeqAt.shaped (.str d.name) = true) ∧ l = ((List.range m).drop looks.length).map natD ∧ looks.length ≤ m ∧ looks.map Look.name = names3.take looks.length)
    (l := (List.range m).map natD) (τ := [.fz X, .un, .nw (sD fs), s3, .un, .un, .un, .un, .un, .un, .un, .un, .ow (looksE []), .un, .un])
    (fun d r τ ds p => by
      obtain ⟨looks, rfl, h1, h2, h3, h4⟩ := p
      obtain ⟨i, rfl⟩ : ∃ i, d = natD i := by
        have : d ∈ ((List.range m).drop looks.length).map natD := by rw [← h2]; exact List.mem_cons_self ..
        obtain ⟨i, _, rfl⟩ := List.mem_map.mp this
        exact ⟨i, rfl⟩
      obtain ⟨hi1, hi2, hi3⟩ := drop_range h2
      have hi : i < 3 := by omega
      have hf : looks.length ≤ 1000 := by omega
      obtain ⟨num, _, e1⟩ := hX (15 + (i : Int)) (by omega) (by omega)
      obtain ⟨c, hc, e4⟩ := condition_ok (n := n) hne hl (num / 64)
      obtain ⟨c2, hc2, e7⟩ := condition_ok (n := n) hne hl (num / 8)
      obtain ⟨w, hw4, e5⟩ : ∃ w : Cnd, small fs w ∧ ixD (.list [.tuple [.str "yes"], .tuple [.str "yes"], c.enc]) (.int (num % 3)) = .ok (.fz, w.enc) := by
        rcases mod3 num with z | z | z
        · exact ⟨.yes, ⟨trivial, Nat.zero_le _⟩, by rw [z]; exact x_l0⟩
        · exact ⟨.yes, ⟨trivial, Nat.zero_le _⟩, by rw [z]; exact x_l1⟩
        · exact ⟨c, hc, by rw [z]; exact x_l2⟩
      obtain ⟨x, hx, e6, e8⟩ := name3 hi
      have ap : ∀ m τ, appk (some (.ow (looksE looks))) (.ok (.tuple [.str x, w.enc, c2.enc])) m τ = .ok (.nx (τ.set m (.ow (looksE (looks ++ [⟨x, w, c2⟩]))))) := fun m τ => app_look (x := ⟨x, w, c2⟩) hf
      refine ⟨_, ?_, looks ++ [⟨x, w, c2⟩], rfl, fun d hd => ?_, by rw [List.length_append, List.length_singleton]; exact hi3, by rw [List.length_append, List.length_singleton]; omega, by rw [List.map_append, List.length_append, List.length_singleton, h4, ← hi1, take_more e8]; rfl⟩
      · rw [s_fgo]
        simp [b__law_drawn_house_3, natD, e1, e4, e5, e6, e7, ap]
      · rcases List.mem_append.mp hd with q | q
        · exact h1 d q
        · rw [List.mem_singleton] at q
          rw [q]; exact ⟨hw4, hc2, hx⟩)
    ⟨[], rfl, fun c hc => (by cases hc), rfl, Nat.zero_le _, rfl⟩
  have hlen : looks.length = m := by
    have : (List.range m).drop looks.length = [] := List.map_eq_nil_iff.mp h3.symm
    rw [List.drop_eq_nil_iff, List.length_range] at this
    omega
  exact ⟨looks, h2, by rw [← hlen]; exact h5, by rw [e, h1]⟩
end
end F1
end VL
namespace VL
open PySem PySem.Spec L2
namespace F1
section
variable {n : Nat} {fs : List Str}
theorem rng_pow {k : Kd} {m : Nat} (h : m ≤ 5) : rngk (.ok (k, .int (2 ^ m))) = .ok ((List.range (2 ^ m)).map natD) := by
  have h2 : 2 ^ m ≤ 2 ^ 5 := Nat.pow_le_pow_right (by decide) h
  have e := k_rng (k := k) (j := 2 ^ m) (by omega)
  rw [show (((2 ^ m : Nat)) : Int) = (2 : Int) ^ m by simp] at e
  exact e
theorem filter_lc {f : D → Out (Option D)} {p : Nat → Bool} {N : Nat} (h : ∀ w, w < N → f (natD w) = .ok (if p w = true then some (natD w) else none)) : lcGo f ((List.range N).map natD) = .ok (((List.range N).filter p).map natD) := by
  rw [lcGo_map (k := fun w => if p w = true then some (natD w) else none) fun w hw => h w (List.mem_range.mp hw)]
  congr 1
  generalize List.range N = l
  induction l with
  | nil => rfl
  | cons w ws ih =>
    rw [List.filter_cons]
    cases hc : p w with
    | false => rw [List.filterMap_cons_none (by simp [hc])]; simpa using ih
    | true => rw [List.filterMap_cons_some (b := natD w) (by simp [hc])]; simpa using ih
/-- a house as the law draws one -/
structure Drawn (h : House) : Prop where
  few : h.facts.length ≤ 4
  ne : h.facts ≠ []
  nd : h.facts.Nodup
  sh : ∀ x ∈ h.facts, SeqAt.shaped (.str x) = true
  deeds : ∀ d ∈ h.deeds, deedOk h.facts d
  some : h.deeds ≠ []
  dlen : h.deeds.length ≤ 4
  looks : ∀ d ∈ h.looks, small h.facts d.need ∧ small h.facts d.seen ∧ SeqAt.shaped (.str d.name) = true
  firsts : Cr h.facts.length h.firsts
  dnames : h.deeds.map Deed.name = names4.take h.deeds.length
  lnames : ∃ m, m ≤ 3 ∧ h.looks.map Look.name = names3.take m
theorem drawn_ok {X : D} (hX : Dig X) : ∃ h : House, Drawn h ∧ h.wish = .yes ∧ C (n + 2) 20 [X] = .ok (false, houseE h) := by
  obtain ⟨a0, _, e0⟩ := hX 0 (by decide) (by decide)
  obtain ⟨a1, _, e1⟩ := hX 1 (by decide) (by decide)
  obtain ⟨a14, _, e14⟩ := hX 14 (by decide) (by decide)
  obtain ⟨a18, _, e18⟩ := hX 18 (by decide) (by decide)
  obtain ⟨fs, f1, f2, f3, f4, f5, f6⟩ := facts_ok a0
  have hne : fs ≠ [] := fun z => by rw [z] at f4; simp at f4
  have hl : fs.length ≤ 5 := by omega
  rw [show sD names6 = PyData.list [.str "a", .str "door", .str "key", .str "wet", .str "yes", .str "x"] from rfl] at f1
  obtain ⟨m1, hm1⟩ : ∃ m : Nat, 1 + a1 % 4 = (m : Int) := ⟨(1 + a1 % 4).toNat, by omega⟩
  obtain ⟨m2, hm2⟩ : ∃ m : Nat, a14 % 4 = (m : Int) := ⟨(a14 % 4).toNat, by omega⟩
  have hk1 : m1 ≤ 1000 := by omega
  have hk2 : m2 ≤ 1000 := by omega
  obtain ⟨deeds, d1, d2, d4, d3⟩ := deeds_loop (n := n) hne hl hX m1 (by omega)
  obtain ⟨looks, l1, l3, l2⟩ := looks_loop (n := n) hne hl hX (.ow (deedsE deeds)) m2 (by omega)
  rw [show deedsE [] = PyData.list [] from rfl] at d3
  rw [show looksE [] = PyData.list [] from rfl] at l2
  have hN : 2 ^ fs.length ≤ 2 ^ 4 := Nat.pow_le_pow_right (by decide) f5
  have hpos : 0 < 2 ^ fs.length := Nat.two_pow_pos _
  have hlen : fs.length ≤ 1000 := by omega
  have hlc : lcGo (lcF (C (n + 1)) gc0 [14] true (.one (.cmp .eq (.bin .mod (.bin .fdiv (.ix (.var 0) (.cst (.int 18))) (.bin .add (.cst (.int 1)) (.bin .mul (.var 14) (.cst (.int 7))))) (.cst (.int 3))) (.cst (.int 0)))) (.var 14)
      [.fz X, .un, .nw (sD fs), .ow (deedsE deeds), .un, .un, .un, .un, .un, .un, .un, .un, .ow (looksE looks), .un, .un]) ((List.range (2 ^ fs.length)).map natD) = .ok (((List.range (2 ^ fs.length)).filter fun (w : Nat) => a18 / (1 + (w : Int) * 7) % 3 == 0).map natD) := by
    refine filter_lc fun w hw => ?_
    have b1 : (0 : Int) < 1 + (w : Int) * 7 := by omega
    have b2 : 1 + (w : Int) * 7 < 1000000000000000000000000000000 := by omega
    rw [lcF_eq]
    cases hc : (a18 / (1 + (w : Int) * 7) % 3 == 0) <;> simp [natD, e18, o_mulA, b1, b2, hc]
  have hpi : (0 : Int) < 2 ^ fs.length := by
    have : (0 : Int) < ((2 ^ fs.length : Nat) : Int) := by omega
    simpa using this
  cases hem : ((List.range (2 ^ fs.length)).filter fun (w : Nat) => a18 / (1 + (w : Int) * 7) % 3 == 0).isEmpty with
  | false =>
    refine ⟨⟨fs, deeds, looks, (List.range (2 ^ fs.length)).filter fun (w : Nat) => a18 / (1 + (w : Int) * 7) % 3 == 0, .yes⟩, ⟨f5, hne, f3, f6, d1, fun z => ?_, by show deeds.length ≤ 4; omega, l1, ⟨fun z => ?_, ?_, fun w hw => ?_⟩, by show deeds.map Deed.name = names4.take deeds.length; rw [d2]; exact d4, m2, by omega, l3⟩, rfl, ?_⟩
    · have z' : deeds = [] := z
      rw [z'] at d2; simp at d2; omega
    · have z' : ((List.range (2 ^ fs.length)).filter fun (w : Nat) => a18 / (1 + (w : Int) * 7) % 3 == 0) = [] := z
      rw [z'] at hem; cases hem
    · exact List.Pairwise.filter _ List.pairwise_lt_range
    · exact List.mem_range.mp (List.mem_filter.mp hw).1
    · rw [at__law_drawn_house]
      simp [d__law_drawn_house, e0, f1, f2, e1, hm1, hk1]
      rw [d3]
      simp [e14, hm2, hk2]
      rw [l2]
      simp [len_sD, hlen, rng_pow hl]
      rw [hlc]
      simp [sh_nats, sh_l0, eqv_nats, hem]
      rfl
  | true =>
    obtain ⟨q, hq⟩ : ∃ q : Nat, a18 % (2 ^ fs.length : Int) = (q : Int) := ⟨(a18 % (2 ^ fs.length : Int)).toNat, by rw [Int.toNat_of_nonneg (Int.emod_nonneg _ (by omega))]⟩
    have hq2 : (q : Int) < 2 ^ fs.length := by rw [← hq]; exact Int.emod_lt_of_pos _ hpi
    have hq3 : q < 2 ^ fs.length := by exact_mod_cast hq2
    refine ⟨⟨fs, deeds, looks, [q], .yes⟩, ⟨f5, hne, f3, f6, d1, fun z => ?_, by show deeds.length ≤ 4; omega, l1, ⟨fun z => (by cases z), List.pairwise_singleton .., fun w hw => ?_⟩, by show deeds.map Deed.name = names4.take deeds.length; rw [d2]; exact d4, m2, by omega, l3⟩, rfl, ?_⟩
    · have z' : deeds = [] := z
      rw [z'] at d2; simp at d2; omega
    · have : w = q := List.mem_singleton.mp hw
      rw [this]; exact hq3
    · rw [at__law_drawn_house]
      simp [d__law_drawn_house, e0, f1, f2, e1, hm1, hk1]
      rw [d3]
      simp [e14, hm2, hk2]
      rw [l2]
      simp [len_sD, hlen, rng_pow hl]
      rw [hlc]
      simp [sh_nats, sh_l0, eqv_nats, hem, e18, len_sD, hlen, hpi, hq]
      rfl
end
end F1
end VL
namespace VL
open PySem PySem.Spec L2
namespace F1
section
variable {n : Nat} {h : House}
theorem sh_tn (ws : List Nat) : SeqAt.shaped (.tuple (ws.map natD)) = true := sh_crowd ws
theorem eqv_tn (ws : List Nat) : PyData.eqv (.tuple (ws.map natD)) (.tuple []) = ws.isEmpty := by cases ws <;> rfl
theorem tup_nats (ws : List Nat) : biD .tuple [natsE ws] = .ok (.fz, crowdE ws) := nr rfl
theorem len_nats (ws : List Nat) : biD .len [natsE ws] = .ok (.fz, .int (ws.length : Nat)) := by
  show Out.ok (Kd.fz, PyData.int ((ws.map natD).length : Nat)) = _
  rw [List.length_map]
theorem ix_modN {l : List Nat} (hne : l ≠ []) (i : Int) : ∃ q, q ∈ l ∧ ixD (natsE l) (.int (i % (l.length : Int))) = .ok (.fz, natD q) := by
  have hl : 0 < l.length := List.length_pos_iff.mpr hne
  obtain ⟨k, hk⟩ : ∃ k : Nat, i % (l.length : Int) = (k : Int) := ⟨(i % (l.length : Int)).toNat, by rw [Int.toNat_of_nonneg (Int.emod_nonneg _ (by omega))]⟩
  have hlt : i % (l.length : Int) < l.length := Int.emod_lt_of_pos _ (by omega)
  have hk2 : k < l.length := by omega
  refine ⟨l[k], List.getElem_mem hk2, ?_⟩
  rw [hk]
  exact x_l (atI_nat (a := natD l[k]) (by rw [List.getElem?_map, List.getElem?_eq_getElem hk2]; rfl))
theorem crowd_ok (d : Drawn h) (a b : Int) : ∃ ws, Cr h.facts.length ws ∧ C (n + 1) 21 [houseE h, .list [.int a, .int b]] = .ok (false, crowdE ws) := by
  have hl : h.facts.length ≤ 5 := by have := d.few; omega
  have hlen : h.facts.length ≤ 1000 := by omega
  have hN : 2 ^ h.facts.length ≤ 2 ^ 4 := Nat.pow_le_pow_right (by decide) d.few
  obtain ⟨q, hq, e1⟩ := ix_modN d.firsts.ne b
  have hfl : (0 : Int) < h.firsts.length := by have := List.length_pos_iff.mpr d.firsts.ne; omega
  have hfl2 : 0 < h.firsts.length := by omega
  have hlc : lcGo (lcF (C n) gc0 [4] true (.one (.cmp .eq (.bin .mod (.bin .fdiv (.ix (.var 1) (.cst (.int 1))) (.bin .add (.cst (.int 1)) (.bin .mul (.cst (.int 5)) (.var 4)))) (.cst (.int 3))) (.cst (.int 0)))) (.var 4)
      [.fz (houseE h), .fz (.list [.int a, .int b]), .fz (.int (2 ^ h.facts.length)), .un, .un]) ((List.range (2 ^ h.facts.length)).map natD) = .ok (((List.range (2 ^ h.facts.length)).filter fun (w : Nat) => b / (1 + 5 * (w : Int)) % 3 == 0).map natD) := by
    refine filter_lc fun w hw => ?_
    have b1 : (0 : Int) < 1 + 5 * (w : Int) := by omega
    have b2 : 1 + 5 * (w : Int) < 1000000000000000000000000000000 := by omega
    rw [lcF_eq]
    cases hc : (b / (1 + 5 * (w : Int)) % 3 == 0) <;> simp [natD, o_mulB, b1, b2, hc]
  have one : ∃ ws, Cr h.facts.length ws ∧ (PyData.tuple [natD q]) = crowdE ws := ⟨[q], ⟨fun z => (by cases z), List.pairwise_singleton .., fun w hw => by rw [List.mem_singleton.mp hw]; exact d.firsts.lt q hq⟩, rfl⟩
  by_cases h0 : a % 4 = 0
  · refine ⟨h.firsts, d.firsts, ?_⟩
    rw [at__law_crowd]
    simp [d__law_crowd, len_sD, hlen, rng_pow hl]
    rw [hlc]
    simp [h0, tup_nats]
  · have h0b : (a % 4 == 0) = false := by simpa using h0
    by_cases h1 : a % 4 = 1
    · refine ⟨[q], ⟨fun z => (by cases z), List.pairwise_singleton .., fun w hw => by rw [List.mem_singleton.mp hw]; exact d.firsts.lt q hq⟩, ?_⟩
      rw [at__law_crowd]
      simp [d__law_crowd, len_sD, hlen, rng_pow hl]
      rw [hlc]
      simp [h1, len_nats, e1, hfl, hfl2, sh_tn, sh_t0]
      rfl
    · have h1b : (a % 4 == 1) = false := by simpa using h1
      cases hem : ((List.range (2 ^ h.facts.length)).filter fun (w : Nat) => b / (1 + 5 * (w : Int)) % 3 == 0).isEmpty with
      | true =>
        refine ⟨[q], ⟨fun z => (by cases z), List.pairwise_singleton .., fun w hw => by rw [List.mem_singleton.mp hw]; exact d.firsts.lt q hq⟩, ?_⟩
        rw [at__law_crowd]
        simp [d__law_crowd, len_sD, hlen, rng_pow hl]
        rw [hlc]
        simp [h0b, h1b, len_nats, e1, hfl, hfl2, sh_tn, sh_t0, eqv_tn, hem]
        rfl
      | false =>
        refine ⟨(List.range (2 ^ h.facts.length)).filter fun (w : Nat) => b / (1 + 5 * (w : Int)) % 3 == 0, ⟨fun z => ?_, List.Pairwise.filter _ List.pairwise_lt_range, fun w hw => List.mem_range.mp (List.mem_filter.mp hw).1⟩, ?_⟩
        · rw [z] at hem; cases hem
        · rw [at__law_crowd]
          simp [d__law_crowd, len_sD, hlen, rng_pow hl]
          rw [hlc]
          simp [h0b, h1b, sh_tn, sh_t0, eqv_tn, hem]
          rfl
end
end F1
end VL
namespace VL
open PySem PySem.Spec L2
namespace F1
/-! ### what is compared has a shape -/
def Lay (d : D) (k : Nat) : Prop := d.canLay0 = true ∧ d.depth ≤ k
theorem Lay.mono {d : D} {k j : Nat} (h : Lay d k) (l : k ≤ j) : Lay d j := ⟨h.1, Nat.le_trans h.2 l⟩
theorem layAll : ∀ {xs : List D} {k : Nat}, (∀ x ∈ xs, Lay x k) → PyData.canLayAll0 xs = true ∧ PyData.depthAll xs ≤ k
  | [], _, _ => ⟨rfl, Nat.zero_le _⟩
  | x :: xs, k, h => by
    obtain ⟨h1, h2⟩ := layAll fun y m => h y (List.mem_cons_of_mem _ m)
    have hx := h x (List.mem_cons_self ..)
    constructor
    · show (PyData.canLay0 x && PyData.canLayAll0 xs) = true
      rw [hx.1, h1]; rfl
    · show max (PyData.depth x) (PyData.depthAll xs) ≤ k
      exact Nat.max_le.mpr ⟨hx.2, h2⟩
theorem lay_list {xs : List D} {k : Nat} (h : ∀ x ∈ xs, Lay x k) : Lay (.list xs) (k + 1) := ⟨(layAll h).1, Nat.succ_le_succ (layAll h).2⟩
theorem lay_tup {xs : List D} {k : Nat} (h : ∀ x ∈ xs, Lay x k) : Lay (.tuple xs) (k + 1) := ⟨(layAll h).1, Nat.succ_le_succ (layAll h).2⟩
theorem lay_str {x : Str} {k : Nat} (h : SeqAt.shaped (.str x) = true) : Lay (.str x) k := ⟨SeqAt.canLay_of_shaped h, Nat.zero_le _⟩
theorem lay_nat {x k : Nat} : Lay (natD x) k := ⟨rfl, Nat.zero_le _⟩
theorem lay_bool {x : Bool} {k : Nat} : Lay (.bool x) k := ⟨rfl, Nat.zero_le _⟩
theorem Lay.sh {d : D} {k : Nat} (h : Lay d k) (l : k ≤ 64) : SeqAt.shaped d = true := by
  unfold SeqAt.shaped
  rw [Bool.and_eq_true, decide_eq_true_eq]
  exact ⟨h.1, Nat.le_trans h.2 l⟩
theorem lay_cnd {fs : List Str} (hs : ∀ x ∈ fs, SeqAt.shaped (.str x) = true) : ∀ {c : Cnd}, c.on fs → Lay c.enc (c.dep + 1)
  | .yes, _ => lay_tup (by simp only [List.mem_singleton]; rintro x rfl; exact lay_str sh_yes)
  | .fact y, h => lay_tup (by
      intro x hx
      simp only [List.mem_cons, List.not_mem_nil, or_false] at hx
      rcases hx with rfl | rfl
      · exact lay_str sh_fact
      · exact lay_str (hs y h))
  | .not c, h => lay_tup (by
      intro x hx
      simp only [List.mem_cons, List.not_mem_nil, or_false] at hx
      rcases hx with rfl | rfl
      · exact lay_str sh_not
      · exact lay_cnd hs h)
  | .both a b, h => lay_tup (by
      intro x hx
      simp only [List.mem_cons, List.not_mem_nil, or_false] at hx
      rcases hx with rfl | rfl | rfl
      · exact lay_str sh_both
      · exact (lay_cnd hs h.1).mono (by simp only [Cnd.dep]; omega)
      · exact (lay_cnd hs h.2).mono (by simp only [Cnd.dep]; omega))
  | .either a b, h => lay_tup (by
      intro x hx
      simp only [List.mem_cons, List.not_mem_nil, or_false] at hx
      rcases hx with rfl | rfl | rfl
      · exact lay_str sh_either
      · exact (lay_cnd hs h.1).mono (by simp only [Cnd.dep]; omega)
      · exact (lay_cnd hs h.2).mono (by simp only [Cnd.dep]; omega))
theorem lay_small {fs : List Str} (hs : ∀ x ∈ fs, SeqAt.shaped (.str x) = true) {c : Cnd} (h : small fs c) : Lay c.enc 4 := (lay_cnd hs h.1).mono (Nat.succ_le_succ h.2)
theorem lay_house {h : House} (d : Drawn h) {w : Cnd} (hw : w.on h.facts) (hd : w.dep ≤ 20) : SeqAt.shaped (houseE { h with wish := w }) = true := by
  refine Lay.sh (k := 31) (lay_tup (k := 30) fun x hx => ?_) (by decide)
  simp only [List.mem_cons, List.not_mem_nil, or_false] at hx
  rcases hx with rfl | rfl | rfl | rfl | rfl
  · refine (lay_list (k := 0) fun x hx => ?_).mono (by decide)
    obtain ⟨y, hy, rfl⟩ := List.mem_map.mp hx
    exact lay_str (d.sh y hy)
  · refine (lay_list (k := 20) fun x hx => ?_).mono (by decide)
    obtain ⟨e, he, rfl⟩ := List.mem_map.mp hx
    obtain ⟨o1, o2, o3⟩ := d.deeds e he
    refine (lay_tup (k := 19) fun x hx => ?_)
    simp only [List.mem_cons, List.not_mem_nil, or_false] at hx
    rcases hx with rfl | rfl | rfl
    · exact lay_str o3.1
    · exact (lay_small d.sh o1).mono (by decide)
    · refine (lay_list (k := 18) fun x hx => ?_)
      obtain ⟨way, hway, rfl⟩ := List.mem_map.mp hx
      refine (lay_list (k := 17) fun x hx => ?_)
      obtain ⟨c, hc, rfl⟩ := List.mem_map.mp hx
      obtain ⟨p1, p2, p3⟩ := o2 way hway c hc
      refine (lay_tup (k := 16) fun x hx => ?_)
      simp only [List.mem_cons, List.not_mem_nil, or_false] at hx
      rcases hx with rfl | rfl | rfl
      · exact (lay_cnd d.sh p1).mono (by omega)
      · exact lay_str (d.sh _ p3)
      · exact lay_bool
  · refine (lay_list (k := 20) fun x hx => ?_).mono (by decide)
    obtain ⟨e, he, rfl⟩ := List.mem_map.mp hx
    obtain ⟨o1, o2, o3⟩ := d.looks e he
    refine (lay_tup (k := 19) fun x hx => ?_)
    simp only [List.mem_cons, List.not_mem_nil, or_false] at hx
    rcases hx with rfl | rfl | rfl
    · exact lay_str o3
    · exact (lay_small d.sh o1).mono (by decide)
    · exact (lay_small d.sh o2).mono (by decide)
  · refine (lay_list (k := 0) fun x hx => ?_).mono (by decide)
    obtain ⟨y, hy, rfl⟩ := List.mem_map.mp hx
    exact lay_nat
  · exact (lay_cnd d.sh hw).mono (by omega)
theorem eqv_self {d : D} (h : SeqAt.shaped d = true) : PyData.eqv d d = true := PySem.SeqAt.eqv_refl d (SeqAt.canLay_of_shaped h)
/-! ### the wish -/
theorem wish_dep : ∀ (cs : List Cnd) (x : Cnd × Int), (∀ c ∈ cs, c.dep ≤ 1) → (cs.foldl wishStep x).1.dep ≤ max x.1.dep 1 + cs.length
  | [], x, _ => by
    show x.1.dep ≤ max x.1.dep 1 + 0
    omega
  | c :: cs, x, h => by
    have i := wish_dep cs (wishStep x c) fun d m => h d (List.mem_cons_of_mem _ m)
    have hc := h c (List.mem_cons_self ..)
    rw [List.foldl_cons, List.length_cons]
    have : (wishStep x c).1.dep ≤ max x.1.dep 1 + 1 := by
      unfold wishStep
      dsimp only
      split
      · simp only [Cnd.dep]; omega
      · omega
    omega
theorem wish_holds {fs : List Str} {w : Nat} : ∀ (cs : List Cnd) (x : Cnd × Int), (∀ c ∈ cs, c.hold fs w = true) → x.1.hold fs w = true → (cs.foldl wishStep x).1.hold fs w = true
  | [], x, _, h => h
  | c :: cs, x, h, hx => by
    rw [List.foldl_cons]
    refine wish_holds cs _ (fun d m => h d (List.mem_cons_of_mem _ m)) ?_
    have hc := h c (List.mem_cons_self ..)
    unfold wishStep
    dsimp only
    split
    · simp only [Cnd.hold, hc, hx, Bool.and_true]
    · exact hx
theorem wish_on {fs : List Str} : ∀ (cs : List Cnd) (x : Cnd × Int), (∀ c ∈ cs, c.on fs) → x.1.on fs → (cs.foldl wishStep x).1.on fs
  | [], x, _, h => h
  | c :: cs, x, h, hx => by
    rw [List.foldl_cons]
    refine wish_on cs _ (fun d m => h d (List.mem_cons_of_mem _ m)) ?_
    have hc := h c (List.mem_cons_self ..)
    unfold wishStep
    dsimp only
    split
    · exact ⟨hc, hx⟩
    · exact hx
theorem idx_self {fs : List Str} (hn : fs.Nodup) {k : Nat} {x : Str} (h : fs[k]? = some x) : fs.idxOf x = k := idxOf_nd hn h
theorem known_props {fs : List Str} (hn : fs.Nodup) {ws : List Nat} {k : Nat} {c : Cnd} (h : c ∈ knownC fs ws k) : c.on fs ∧ c.dep ≤ 1 ∧ ∀ w ∈ ws, c.hold fs w = true := by
  unfold knownC at h
  cases hx : fs[k]? with
  | none => rw [hx] at h; cases h
  | some x =>
    rw [hx] at h
    dsimp only at h
    have hm : x ∈ fs := List.mem_of_getElem? hx
    have hi := idx_self hn hx
    split at h
    · rename_i h1
      rw [List.mem_singleton] at h
      subst h
      refine ⟨hm, Nat.zero_le _, fun w hw => ?_⟩
      have := List.all_eq_true.mp h1 w hw
      simp only [Cnd.hold, hi]; exact this
    · split at h
      · rename_i h1
        rw [List.mem_singleton] at h
        subst h
        refine ⟨hm, Nat.le_refl _, fun w hw => ?_⟩
        have := List.all_eq_true.mp h1 w hw
        simp only [Cnd.hold, hi]; exact this
      · cases h
theorem knowns_props {fs : List Str} (hn : fs.Nodup) {ws : List Nat} : ∀ (ks : List Nat) (r : List Cnd), (∀ c ∈ r, c.on fs ∧ c.dep ≤ 1 ∧ ∀ w ∈ ws, c.hold fs w = true) → (∀ c ∈ ks.foldl (fun r k => r ++ knownC fs ws k) r, c.on fs ∧ c.dep ≤ 1 ∧ ∀ w ∈ ws, c.hold fs w = true) ∧ (ks.foldl (fun r k => r ++ knownC fs ws k) r).length ≤ r.length + ks.length
  | [], r, h => ⟨h, Nat.le_refl _⟩
  | k :: ks, r, h => by
    have hl : (knownC fs ws k).length ≤ 1 := by
      unfold knownC
      split
      · split
        · simp
        · split <;> simp
      · simp
    obtain ⟨i1, i2⟩ := knowns_props hn ks (r ++ knownC fs ws k) fun c hc => by
      rcases List.mem_append.mp hc with z | z
      · exact h c z
      · exact known_props hn z
    rw [List.foldl_cons]
    exact ⟨i1, by rw [List.length_append] at i2; rw [List.length_cons]; omega⟩
end F1
end VL
namespace VL
open PySem PySem.Spec L2
namespace F1
section
variable {h : House} {n : Nat}
theorem drawn_good (d : Drawn h) {w : Cnd} (hw : w.on h.facts) {m : Nat} (hd : w.dep < m) (hm : 4 ≤ m) : Good m { h with wish := w } :=
  ⟨by have := d.few; show h.facts.length ≤ 5; omega, d.nd, fun e he => ⟨(d.deeds e he).1.1, by have := (d.deeds e he).1.2; omega⟩, fun e he way hway => ((d.deeds e he).2.1 way hway).mono hm, fun e he => (d.deeds e he).2.2.1, hw, hd⟩
/-- a name of a deed that is drawn by a number -/
theorem ix_deed {ds : List Deed} (hne : ds ≠ []) (i : Int) : ∃ d, d ∈ ds ∧ ixD (deedsE ds) (.int (i % (ds.length : Int))) = .ok (.fz, deedE d) := by
  have hl : 0 < ds.length := List.length_pos_iff.mpr hne
  obtain ⟨k, hk⟩ : ∃ k : Nat, i % (ds.length : Int) = (k : Int) := ⟨(i % (ds.length : Int)).toNat, by rw [Int.toNat_of_nonneg (Int.emod_nonneg _ (by omega))]⟩
  have hlt : i % (ds.length : Int) < ds.length := Int.emod_lt_of_pos _ (by omega)
  have hk2 : k < ds.length := by omega
  refine ⟨ds[k], List.getElem_mem hk2, ?_⟩
  rw [hk]
  exact x_l (atI_nat (a := deedE ds[k]) (by rw [List.getElem?_map, List.getElem?_eq_getElem hk2]; rfl))
theorem len_deeds (ds : List Deed) : biD .len [deedsE ds] = .ok (.fz, .int (ds.length : Nat)) := by
  show Out.ok (Kd.fz, PyData.int ((ds.map deedE).length : Nat)) = _
  rw [List.length_map]
theorem named_of {ds : List Deed} {d : Deed} (h : d ∈ ds) : ∃ e, namedIn ds d.name = some e := by
  unfold namedIn
  cases hf : ds.find? fun e => e.name == d.name with
  | some e => exact ⟨e, rfl⟩
  | none =>
    have := List.find?_eq_none.mp hf d h
    simp at this
/-- names of a house -/
def NamesOk (h : House) (row : List Str) : Prop := RowOk h row
theorem names_lc {f : D → Out (Option D)} (d : Drawn h) (N : Nat) (hf : ∀ w, w < N → ∃ e, e ∈ h.deeds ∧ f (natD w) = .ok (some (.str e.name))) : ∃ row : List Str, row.length = N ∧ RowOk h row ∧ lcGo f ((List.range N).map natD) = .ok (row.map .str) := by
  have go : ∀ l : List Nat, (∀ w ∈ l, w < N) → ∃ row : List Str, row.length = l.length ∧ RowOk h row ∧ lcGo f (l.map natD) = .ok (row.map .str) := by
    intro l
    induction l with
    | nil => exact fun _ => ⟨[], rfl, fun x hx => (by cases hx), rfl⟩
    | cons w l ih =>
      intro hl
      obtain ⟨row, h1, h2, h3⟩ := ih fun x m => hl x (List.mem_cons_of_mem _ m)
      obtain ⟨e, he, hw⟩ := hf w (hl w (List.mem_cons_self ..))
      refine ⟨e.name :: row, by rw [List.length_cons, List.length_cons, h1], fun x hx => ?_, ?_⟩
      · cases hx with
        | head => exact ⟨(d.deeds e he).2.2.1, named_of he⟩
        | tail _ m => exact h2 x m
      · rw [List.map_cons]
        unfold lcGo
        rw [hw, h3]; rfl
  obtain ⟨row, h1, h2, h3⟩ := go (List.range N) fun w m => List.mem_range.mp m
  exact ⟨row, by rw [h1, List.length_range], h2, h3⟩
end
end F1
end VL
namespace VL
open PySem PySem.Spec L2
namespace F1
section
variable {h : House}
/-- what the law's walk did can be done -/
theorem lwalk_runs : ∀ {row : List Str} {ws : List Nat} {done : List Str}, RowOk h row → ∃ p ds l, lwalk h row ws done = (done ++ p, l) ∧ deedsOf h.deeds p = some ds ∧ runR h.facts ds ws = some l ∧ p.length ≤ row.length ∧ ∀ x ∈ p, x ∈ row
  | [], ws, done, _ => ⟨[], [], ws, by rw [List.append_nil]; rfl, rfl, rfl, Nat.le_refl _, fun _ m => m⟩
  | y :: row, ws, done, hr => by
    obtain ⟨d, hd⟩ := (hr y (List.mem_cons_self ..)).2
    unfold lwalk
    rw [hd]
    cases hf : failing h.facts d.need ws with
    | some w =>
      simp only [hf]
      exact ⟨[], [], ws, by rw [List.append_nil], rfl, rfl, Nat.zero_le _, fun _ m => by cases m⟩
    | none =>
      simp only [hf]
      obtain ⟨p, ds, l, h1, h2, h3, h4, h5⟩ := lwalk_runs (row := row) (ws := behind h.facts d.ways ws) (done := done ++ [y]) fun x m => hr x (List.mem_cons_of_mem _ m)
      refine ⟨y :: p, d :: ds, l, by rw [h1, List.append_assoc]; rfl, ?_, ?_, by simp only [List.length_cons]; omega, fun x m => ?_⟩
      · unfold deedsOf
        rw [hd, h2]
      · unfold runR
        rw [hf]
        exact h3
      · cases m with
        | head => exact List.mem_cons_self ..
        | tail _ m => exact List.mem_cons_of_mem _ (h5 x m)
theorem runR_lt {n : Nat} (g : ∀ d ∈ h.deeds, ∀ way ∈ d.ways, wayOn h.facts n way) : ∀ {ds : List Deed} {ws l : List Nat}, (∀ d ∈ ds, d ∈ h.deeds) → (∀ w ∈ ws, w < 2 ^ h.facts.length) → runR h.facts ds ws = some l → ∀ w ∈ l, w < 2 ^ h.facts.length
  | [], ws, l, _, hw, e => by cases e; exact hw
  | d :: ds, ws, l, hd, hw, e => by
    unfold runR at e
    cases hf : failing h.facts d.need ws with
    | some w => rw [hf] at e; cases e
    | none =>
      rw [hf] at e
      exact runR_lt g (fun x m => hd x (List.mem_cons_of_mem _ m)) (behind_lt (g d (hd d (List.mem_cons_self ..))) hw) e
theorem runR_len {n : Nat} (hl : h.facts.length ≤ 5) (g : ∀ d ∈ h.deeds, ∀ way ∈ d.ways, wayOn h.facts n way) : ∀ {ds : List Deed} {ws l : List Nat}, (∀ d ∈ ds, d ∈ h.deeds) → (∀ w ∈ ws, w < 2 ^ h.facts.length) → ws.length ≤ 64 → runR h.facts ds ws = some l → l.length ≤ 64
  | [], ws, l, _, hw, hlen, e => by cases e; exact hlen
  | d :: ds, ws, l, hd, hw, hlen, e => by
    unfold runR at e
    cases hf : failing h.facts d.need ws with
    | some w => rw [hf] at e; cases e
    | none =>
      rw [hf] at e
      have gd := g d (hd d (List.mem_cons_self ..))
      have hk := KsOk.few (ksOk_beh gd hw ⟨List.nodup_nil, fun _ h => by cases h⟩) hl
      refine runR_len hl g (fun x m => hd x (List.mem_cons_of_mem _ m)) (behind_lt gd hw) ?_ e
      unfold behind sortN
      rw [List.length_mergeSort]
      omega
theorem failing_none {fs : List Str} {c : Cnd} {ws : List Nat} (h : ∀ w ∈ ws, c.hold fs w = true) : failing fs c ws = none := by
  unfold failing
  rw [List.find?_eq_none]
  intro w hw
  rw [h w hw]; decide
end
end F1
end VL
namespace VL
open PySem PySem.Spec L2
namespace F1

/-! ### trees -/
inductive Tr where
  | fin | act (x : Str) (t : Tr) | see (x : Str) (y n : Tr)
namespace Tr
def enc : Tr → D
  | fin => .tuple [.str "end"]
  | act x t => .tuple [.str "do", .str x, t.enc]
  | see x y n => .tuple [.str "see", .str x, y.enc, n.enc]
def size : Tr → Nat
  | fin => 1
  | act _ t => t.size + 1
  | see _ y n => y.size + n.size + 1
def deep : Tr → Nat
  | fin => 0
  | act _ t => t.deep + 1
  | see _ y n => max y.deep n.deep + 1
def kids : Tr → List Tr
  | fin => []
  | act _ t => [t]
  | see _ y n => [y, n]
def parts : Tr → List Tr
  | fin => [fin]
  | act x t => act x t :: t.parts
  | see x y n => see x y n :: (y.parts ++ n.parts)
end Tr
def lookIn (ls : List Look) (x : Str) : Option Look := ls.find? fun l => l.name == x
/-- all names of a tree are names of the house -/
def Tr.ok (h : House) : Tr → Prop
  | .fin => True
  | .act x t => SeqAt.shaped (.str x) = true ∧ (∃ d, namedIn h.deeds x = some d) ∧ t.ok h
  | .see x y n => SeqAt.shaped (.str x) = true ∧ (∃ l, lookIn h.looks x = some l) ∧ y.ok h ∧ n.ok h
structure GL (n : Nat) (h : House) : Prop where
  g : Good n h
  looks : ∀ l ∈ h.looks, (l.need.on h.facts ∧ l.need.dep < n) ∧ (l.seen.on h.facts ∧ l.seen.dep < n) ∧ SeqAt.shaped (.str l.name) = true
theorem GL.mono {n m : Nat} {h : House} (g : GL n h) (l : n ≤ m) : GL m h :=
  ⟨g.g.mono l, fun x hx => ⟨⟨(g.looks x hx).1.1, Nat.lt_of_lt_of_le (g.looks x hx).1.2 l⟩, ⟨(g.looks x hx).2.1.1, Nat.lt_of_lt_of_le (g.looks x hx).2.1.2 l⟩, (g.looks x hx).2.2⟩⟩
@[simp] theorem sh_end : SeqAt.shaped (.str "end") = true := by decide +kernel
@[simp] theorem sh_do : SeqAt.shaped (.str "do") = true := by decide +kernel
@[simp] theorem sh_see : SeqAt.shaped (.str "see") = true := by decide +kernel
@[simp] theorem w_de : (("do" : Str) == ("end" : Str)) = false := by decide +kernel
@[simp] theorem w_se : (("see" : Str) == ("end" : Str)) = false := by decide +kernel
@[simp] theorem w_sd : (("see" : Str) == ("do" : Str)) = false := by decide +kernel
@[simp] theorem w_ed : (("end" : Str) == ("do" : Str)) = false := by decide +kernel
@[simp] theorem w_es : (("end" : Str) == ("see" : Str)) = false := by decide +kernel
@[simp] theorem w_ds : (("do" : Str) == ("see" : Str)) = false := by decide +kernel
@[simp] theorem one_looks (ds : List Look) : onek (.ok (.fz, looksE ds)) = .ok (ds.map lookE) := nr rfl
@[simp] theorem l_0 (d : Look) : ixD (lookE d) (.int 0) = .ok (.fz, .str d.name) := x_t0
@[simp] theorem l_1 (d : Look) : ixD (lookE d) (.int 1) = .ok (.fz, d.need.enc) := x_t1
@[simp] theorem l_2 (d : Look) : ixD (lookE d) (.int 2) = .ok (.fz, d.seen.enc) := x_t2
@[simp] theorem sl_t3 {a b c : D} : slD (.tuple [a, b, c]) (some 2) none = .ok (.fz, .tuple [c]) := nr rfl
@[simp] theorem sl_t4 {a b c d : D} : slD (.tuple [a, b, c, d]) (some 2) none = .ok (.fz, .tuple [c, d]) := nr rfl
@[simp] theorem k_pop {xs : List D} {d : D} {j i : Nat} {τ : Ta} : popk (some (.ow (.list (xs ++ [d])))) j i τ = .ok (.nx ((τ.set i (.ow (.list xs))).set j (.fz d))) := by
  unfold popk
  simp
@[simp] theorem k_popu {xs ds : List D} {is : List Nat} {i : Nat} {τ : Ta} : popuk (some (.ow (.list (xs ++ [.tuple ds])))) is i τ = unpt (setAll is ds (τ.set i (.ow (.list xs)))) := by
  unfold popuk unpt
  simp
theorem k_ext {xs ys : List D} {k : Kd} {i : Nat} {τ : Ta} (h : xs.length + ys.length ≤ line) : extk (some (.ow (.list xs))) (.ok (k, .list ys)) i τ = .ok (.nx (τ.set i (.ow (.list (xs ++ ys))))) := by
  unfold extk
  simp [h]
theorem k_ext2 {xs ys : List D} {k : Kd} {i : Nat} {τ : Ta} (h : xs.length + ys.length ≤ 1000) : extk (some (.ow (.list xs))) (.ok (k, .list ys)) i τ = .ok (.nx (τ.set i (.ow (.list (xs ++ ys))))) := k_ext (line_ge h)
def treesE (ts : List Tr) : List D := ts.map Tr.enc
/-- how data is laid -/
theorem trLay {h : House} : ∀ {t : Tr}, t.ok h → Lay t.enc (t.deep + 1)
  | .fin, _ => lay_tup (k := 0) fun x m => by rw [List.mem_singleton.mp m]; exact lay_str sh_end
  | .act x t, o => lay_tup fun y m => by
    simp only [List.mem_cons, List.not_mem_nil, or_false] at m
    rcases m with rfl | rfl | rfl
    · exact lay_str sh_do
    · exact lay_str o.1
    · exact trLay o.2.2
  | .see x y n, o => lay_tup fun z m => by
    simp only [List.mem_cons, List.not_mem_nil, or_false] at m
    rcases m with rfl | rfl | rfl | rfl
    · exact lay_str sh_see
    · exact lay_str o.1
    · exact (trLay o.2.2.1).mono (by show y.deep + 1 ≤ max y.deep n.deep + 1; omega)
    · exact (trLay o.2.2.2).mono (by show n.deep + 1 ≤ max y.deep n.deep + 1; omega)
theorem Tr.size_pos : ∀ t : Tr, 1 ≤ t.size
  | .fin => Nat.le_refl _
  | .act _ _ => Nat.le_add_left _ _
  | .see _ _ _ => Nat.le_add_left _ _
theorem parts_ok {h : House} : ∀ {t : Tr}, t.ok h → ∀ p ∈ t.parts, p.ok h
  | .fin, o, p, m => by rw [List.mem_singleton.mp m]; trivial
  | .act x t, o, p, m => by
    rcases List.mem_cons.mp m with rfl | m
    · exact o
    · exact parts_ok o.2.2 p m
  | .see x y n, o, p, m => by
    rcases List.mem_cons.mp m with rfl | m
    · exact o
    · rcases List.mem_append.mp m with m | m
      · exact parts_ok o.2.2.1 p m
      · exact parts_ok o.2.2.2 p m
theorem kids_ok {h : House} {t : Tr} (o : t.ok h) : ∀ p ∈ t.kids, p.ok h := by
  cases t with
  | fin => intro p m; cases m
  | act x t => intro p m; rw [List.mem_singleton.mp m]; exact o.2.2
  | see x y n =>
    intro p m
    rcases List.mem_cons.mp m with rfl | m
    · exact o.2.2.1
    · rw [List.mem_singleton.mp m]; exact o.2.2.2
theorem kids_deep {t p : Tr} (m : p ∈ t.kids) : p.deep ≤ t.deep := by
  cases t with
  | fin => cases m
  | act x t => rw [List.mem_singleton.mp m]; exact Nat.le_succ _
  | see x y n =>
    rcases List.mem_cons.mp m with rfl | m
    · show p.deep ≤ max p.deep n.deep + 1; omega
    · rw [List.mem_singleton.mp m]; show n.deep ≤ max y.deep n.deep + 1; omega
section
variable {h : House} {n : Nat}
theorem trees_within_ok (t : Tr) : C (n + 1) 32 [t.enc] = .ok (true, .list (t.kids.map Tr.enc)) := by
  rw [at_trees_within]
  cases t <;> simp [d_trees_within, Tr.enc, Tr.kids]
def sizes (s : List Tr) : Nat := (s.map Tr.size).sum
theorem eqv_nil (xs : List D) : PyData.eqv (.list xs) (.list []) = xs.isEmpty := by cases xs <;> rfl
theorem eqv_nilT (xs : List D) : PyData.eqv (.tuple xs) (.tuple []) = xs.isEmpty := by cases xs <;> rfl
theorem parts_go (t0 : Tr) : ∀ (k m : Nat) (s found : List Tr), (∀ t ∈ s, t.ok h ∧ t.deep ≤ 60) → sizes s ≤ k → k < m → found.length + k ≤ 1000 → s.length ≤ k →
    wgo (C (n + 1)) gc0 gas (.cmp .ne (.pk 2) (.lst .nil)) b_all_parts_0 [3] m [.fz t0.enc, .ow (.list (treesE found)), .ow (.list (treesE s.reverse)), .un] =
      .ok (.nx [.fz t0.enc, .ow (.list (treesE (found ++ s.flatMap Tr.parts))), .ow (.list []), .un])
  | k, m + 1, [], found, _, _, _, _, _ => by
    rw [s_wgo]
    simp [treesE, sh_l0, eqv_nil]
  | k, m + 1, a :: r, found, ho, hk, hm, hf, hs => by
    have ea : ∀ t ∈ a :: r, Lay t.enc 62 := fun t mt => (trLay (ho t mt).1).mono (by have := (ho t mt).2; omega)
    have e1 : treesE (a :: r).reverse = treesE r.reverse ++ [a.enc] := by unfold treesE; rw [List.reverse_cons, List.map_append]; rfl
    have hsh : SeqAt.shaped (.list (treesE r.reverse ++ [a.enc])) = true := by
      rw [← e1]
      refine Lay.sh (k := 63) (lay_list fun x mx => ?_) (by decide)
      obtain ⟨t, mt, rfl⟩ := List.mem_map.mp mx
      exact ea t (List.mem_reverse.mp mt)
    have hne : (treesE r.reverse ++ [a.enc]).isEmpty = false := by simp
    have hsz : sizes (a :: r) = a.size + sizes r := by unfold sizes; rw [List.map_cons, List.sum_cons]
    have hap := a.size_pos
    cases k with
    | zero => omega
    | succ k =>
      have hks : sizes (a.kids ++ r) ≤ k := by
        have : sizes (a.kids ++ r) + 1 = sizes (a :: r) := by
          unfold sizes
          cases a <;> simp [Tr.kids, Tr.size] <;> omega
        omega
      have hkl : (a.kids ++ r).length ≤ k := by
        have : ∀ s : List Tr, s.length ≤ sizes s := fun s => by
          induction s with
          | nil => exact Nat.le_refl _
          | cons b s ih =>
            have := b.size_pos
            show s.length + 1 ≤ (List.map Tr.size (b :: s)).sum
            rw [List.map_cons, List.sum_cons]
            unfold sizes at ih
            omega
        exact Nat.le_trans (this _) hks
      have i := parts_go t0 k m (a.kids ++ r) (found ++ [a]) (fun t mt => by
        rcases List.mem_append.mp mt with z | z
        · exact ⟨kids_ok (ho a (List.mem_cons_self ..)).1 t z, Nat.le_trans (kids_deep z) (ho a (List.mem_cons_self ..)).2⟩
        · exact ho t (List.mem_cons_of_mem _ z)) hks (by omega) (by rw [List.length_append, List.length_singleton]; omega) hkl
      have e2 : treesE (a.kids ++ r).reverse = treesE r.reverse ++ (treesE a.kids).reverse := by simp only [treesE, List.reverse_append, List.map_append, List.map_reverse]
      have e3 : treesE (found ++ [a]) = treesE found ++ [a.enc] := by unfold treesE; rw [List.map_append]; rfl
      have e4 : (found ++ [a]) ++ (a.kids ++ r).flatMap Tr.parts = found ++ (a :: r).flatMap Tr.parts := by
        cases a <;> simp [Tr.kids, Tr.parts]
      rw [e4, e3, e2] at i
      have hl1 : (treesE found).length ≤ 1000 := by unfold treesE; rw [List.length_map]; omega
      have hl2 : (treesE r.reverse).length + (treesE a.kids).reverse.length ≤ 1000 := by
        rw [List.length_reverse]
        unfold treesE
        rw [List.length_map, List.length_map, List.length_reverse]
        rw [List.length_append] at hkl
        omega
      have w := trees_within_ok (n := n) a
      have hl1' : (treesE found).length < line := Nat.lt_of_le_of_lt hl1 (by decide)
      have ke := fun kd i τ => k_ext2 (k := kd) (i := i) (τ := τ) hl2
      rw [s_wgo, e1]
      rw [show treesE a.kids = a.kids.map Tr.enc from rfl] at ke i
      simp [hsh, sh_l0, eqv_nil, hne, b_all_parts_0, w, hl1', ke]
      simpa [b_all_parts_0] using i
end
end F1
end VL
namespace VL
open PySem PySem.Spec L2
namespace F1
section
variable {h : House} {n : Nat}
theorem all_parts_ok {t : Tr} (o : t.ok h) (hd : t.deep ≤ 60) (hs : t.size ≤ 900) : C (n + 2) 33 [t.enc] = .ok (true, .list (treesE t.parts)) := by
  have i := parts_go (h := h) (n := n) t t.size 1000 [t] [] (fun u m => by rw [List.mem_singleton.mp m]; exact ⟨o, hd⟩) (by simp [sizes]) (by omega) (by show 0 + t.size ≤ 1000; omega) t.size_pos
  simp [treesE] at i
  rw [at_all_parts]
  simp [d_all_parts]
  rw [show gas = 1000 from rfl] at i ⊢
  rw [i]
  simp [treesE]
theorem walk_lookF {x : Str} : ∀ ds : List Look, walkE (fun (_ : Unit) (d : Look) => if (d.name == x) = true then .inr (false, lookE d) else .inl ()) ds () = match lookIn ds x with | some d => .inr (false, lookE d) | none => .inl ()
  | [] => rfl
  | d :: ds => by
    unfold walkE lookIn
    rw [List.find?_cons]
    cases h : d.name == x with
    | true => rfl
    | false => exact walk_lookF ds
theorem need_look_ok (g : GL n h) {x : Str} {d : Look} (hx : SeqAt.shaped (.str x) = true) (hd : lookIn h.looks x = some d) : C (n + 1) 30 [houseE h, .str x] = .ok (false, lookE d) := by
  have L := fgo_walk (cl := C n) (gc := gc0) (g := gas) (vs := [2]) (one := true) (b := b_need_look_0) (ks := [2]) (enc := lookE)
    (pack := fun (_ : Unit) => [.fz (houseE h), .fz (.str x), .un]) (step := fun (_ : Unit) (d : Look) => if (d.name == x) = true then .inr (false, lookE d) else .inl ()) (fun _ => True) (l := h.looks) (x := ()) (fun d hm u ds _ => by
      have hn := (g.looks d hm).2.2
      cases hc : d.name == x
      · refine ⟨?_, trivial⟩
        rw [s_fgo]
        simp [b_need_look_0, hn, hx, hc]
      · show _ = _
        rw [s_fgo]
        simp [b_need_look_0, hn, hx, hc]) trivial
  rw [walk_lookF, hd] at L
  rw [at_need_look]
  simp [d_need_look]
  rw [L]
  simp [outE]
theorem need_names_ok (g : GL n h) {t : Tr} (o : t.ok h) (hd : t.deep ≤ 60) (hs : t.size ≤ 900) : C (n + 3) 34 [houseE h, t.enc] = .ok (false, .none) := by
  have L := (fgo_fold (cl := C (n + 2)) (gc := gc0) (g := gas) (vs := [2]) (one := true) (b := b_need_names_0) (ks := [2]) (enc := Tr.enc)
    (pack := fun (_ : Unit) => [.fz (houseE h), .fz t.enc, .un]) (step := fun _ _ => ()) (fun _ => True) (l := t.parts) (x := ()) (fun p hm u ds _ => by
      refine ⟨?_, trivial⟩
      have po := parts_ok o p hm
      rw [s_fgo]
      cases p with
      | fin => simp [b_need_names_0, Tr.enc]
      | act x t =>
        obtain ⟨d, e⟩ := po.2.1
        have q := need_deed_ok (n := n + 1) (g.g.mono (Nat.le_succ n)) po.1 e
        simp [b_need_names_0, Tr.enc, q]
      | see x y n =>
        obtain ⟨d, e⟩ := po.2.1
        have q := need_look_ok (n := _) (g.mono (Nat.le_succ _)) po.1 e
        simp [b_need_names_0, Tr.enc, q]) trivial).1
  have a := all_parts_ok (n := n) o hd hs
  rw [at_need_names]
  simp [d_need_names, a]
  rw [show treesE t.parts = t.parts.map Tr.enc from rfl, L]
  simp
theorem lc_filter {f : D → Out (Option D)} {p : Nat → Bool} {ws : List Nat} (hf : ∀ w ∈ ws, f (natD w) = .ok (if p w = true then some (natD w) else none)) : lcGo f (ws.map natD) = .ok ((ws.filter p).map natD) := by
  rw [lcGo_map (k := fun w => if p w = true then some (natD w) else none) hf]
  congr 1
  induction ws with
  | nil => rfl
  | cons w ws ih =>
    rw [List.filter_cons]
    have ih := ih fun v m => hf v (List.mem_cons_of_mem _ m)
    cases hc : p w with
    | false => rw [List.filterMap_cons_none (by simp [hc])]; simpa using ih
    | true => rw [List.filterMap_cons_some (b := natD w) (by simp [hc])]; simpa using ih
def bars (fs : List Str) (c : Cnd) (ws : List Nat) : List Nat := ws.filter fun w => !c.hold fs w
theorem barring_ok {c : Cnd} {ws : List Nat} (o : c.on h.facts) (l : c.dep < n) : C (n + 1) 35 [houseE h, c.enc, crowdE ws] = .ok (true, natsE (bars h.facts c ws)) := by
  rw [at_barring]
  simp [d_barring]
  rw [lc_filter (p := fun w => !c.hold h.facts w) fun w _ => ?_]
  · simp [natsE, bars]
  · have e := holds_ok (w := w) o l
    rw [lcF_eq]
    unfold natD
    cases hc : c.hold h.facts w <;> rw [hc] at e <;> simp [e]
def yesOf (fs : List Str) (c : Cnd) (ws : List Nat) : List Nat := ws.filter fun w => c.hold fs w
def noOf (fs : List Str) (c : Cnd) (ws : List Nat) : List Nat := ws.filter fun w => !c.hold fs w
theorem inD_nats (w : Nat) : ∀ ws : List Nat, inD (natD w) (ws.map natD) = decide (w ∈ ws)
  | [] => rfl
  | v :: ws => by
    show (PyData.eqv (natD v) (natD w) || inD (natD w) (ws.map natD)) = _
    rw [inD_nats w ws]
    unfold natD
    rw [eqv_int, Bool.eq_iff_iff, Bool.or_eq_true, beq_iff_eq, decide_eq_true_eq, decide_eq_true_eq, List.mem_cons]
    constructor
    · rintro (h | h)
      · exact .inl (by omega)
      · exact .inr h
    · rintro (h | h)
      · exact .inl (by omega)
      · exact .inr h
theorem flat_nats (ws : List Nat) : (ws.map natD).all flatD = true := by
  rw [List.all_map, List.all_eq_true]; intro x _; rfl
theorem nin_nats (w : Nat) (ws : List Nat) : cmpD .nin (natD w) (.list (ws.map natD)) = .ok (.fz, .bool (!decide (w ∈ ws))) := by
  show (if (flatD (natD w) && (ws.map natD).all flatD) = true then Out.ok (Kd.fz, PyData.bool (!inD (natD w) (ws.map natD))) else .stuck) = _
  rw [flat_nats, inD_nats]
  rfl
theorem nin_natsT (w : Nat) (ws : List Nat) : cmpD .nin (natD w) (.tuple (ws.map natD)) = .ok (.fz, .bool (!decide (w ∈ ws))) := by
  show (if (flatD (natD w) && (ws.map natD).all flatD) = true then Out.ok (Kd.fz, PyData.bool (!inD (natD w) (ws.map natD))) else .stuck) = _
  rw [flat_nats, inD_nats]
  rfl
theorem tup_lst (xs : List D) : biD .tuple [.list xs] = .ok (.fz, .tuple xs) := nr rfl
theorem sides_by_ok {l : Look} {ws : List Nat} (o : l.seen.on h.facts) (d : l.seen.dep < n) : C (n + 1) 31 [houseE h, lookE l, crowdE ws] = .ok (false, .tuple [crowdE (yesOf h.facts l.seen ws), crowdE (noOf h.facts l.seen ws)]) := by
  have L1 : ∀ s : Sl, lcGo (lcF (C n) gc0 [4] true (.one (.call 0 (.cons (.ix (.var 0) (.cst (.int 0))) (.cons (.ix (.var 1) (.cst (.int 2))) (.cons (.var 4) .nil))))) (.var 4) [.fz (houseE h), .fz (lookE l), .fz (crowdE ws), s, .un]) (ws.map natD) = .ok ((yesOf h.facts l.seen ws).map natD) := fun s => by
    refine lc_filter (p := fun w => l.seen.hold h.facts w) fun w _ => ?_
    have e := holds_ok (w := w) o d
    rw [lcF_eq]
    unfold natD
    cases hc : l.seen.hold h.facts w <;> rw [hc] at e <;> simp [e]
  have L2 : lcGo (lcF (C n) gc0 [4] true (.one (.cmp .nin (.var 4) (.var 3))) (.var 4) [.fz (houseE h), .fz (lookE l), .fz (crowdE ws), .nw (.list ((yesOf h.facts l.seen ws).map natD)), .un]) (ws.map natD) = .ok ((noOf h.facts l.seen ws).map natD) := by
    refine lc_filter (p := fun w => !l.seen.hold h.facts w) fun w hw => ?_
    have e := nin_nats w (yesOf h.facts l.seen ws)
    have m : (w ∈ yesOf h.facts l.seen ws) ↔ l.seen.hold h.facts w = true := by
      unfold yesOf
      rw [List.mem_filter]
      exact ⟨fun z => z.2, fun z => ⟨hw, z⟩⟩
    have e2 : decide (w ∈ yesOf h.facts l.seen ws) = l.seen.hold h.facts w := by
      rw [Bool.eq_iff_iff, decide_eq_true_eq]; exact m
    rw [e2] at e
    rw [lcF_eq]
    cases hc : l.seen.hold h.facts w <;> rw [hc] at e <;> simp [e]
  rw [at_sides_by]
  simp [d_sides_by]
  rw [L1]
  simp
  rw [L2]
  simp [crowdE]
end
end F1
end VL
namespace VL
open PySem PySem.Spec L2
namespace F1
theorem lcGo_two {f : D → Out (Option D)} {a b : D} {x y : Option D} (h1 : f a = .ok x) (h2 : f b = .ok y) : lcGo f [a, b] = .ok (x.toList ++ y.toList) := by
  unfold lcGo
  rw [h1]
  unfold lcGo
  rw [h2]
  unfold lcGo
  cases x <;> cases y <;> rfl
section
variable {h : House} {n : Nat}
def sideD (t : Tr) (way : List D) (ws : List Nat) : D := .tuple [.none, t.enc, .list way, crowdE ws]
def sidesD (t : Tr) (way : List D) (ws : List Nat) : List D := if ws.isEmpty then [] else [sideD t way ws]
def lookW (x : Str) (b : Bool) : D := .tuple [.str x, .bool b]
theorem pw_fin (ws : List Nat) (way : List D) : C (n + 1) 36 [houseE h, crowdE ws, Tr.fin.enc, .list way] = .ok (false, .tuple [h.wish.enc, .list []]) := by
  rw [at_parts_walked]
  simp [d_parts_walked, Tr.enc]
theorem pw_act (g : GL n h) {x : Str} {t : Tr} {d : Deed} (hx : SeqAt.shaped (.str x) = true) (hd : namedIn h.deeds x = some d) (ws : List Nat) {way : List D} (hw : way.length ≤ 900) :
    C (n + 2) 36 [houseE h, crowdE ws, (Tr.act x t).enc, .list way] = .ok (false, .tuple [d.need.enc, .list [.tuple [deedE d, t.enc, .list (way ++ [.str x]), .none]]]) := by
  have q := need_deed_ok g.g hx hd
  have hl : way.length + 1 ≤ line := line_ge (by omega)
  rw [at_parts_walked]
  simp [d_parts_walked, Tr.enc, q, hl]
theorem pw_see (g : GL n h) {x : Str} {y z : Tr} {l : Look} (hx : SeqAt.shaped (.str x) = true) (hd : lookIn h.looks x = some l) (ws : List Nat) {way : List D} (hw : way.length ≤ 900) :
    C (n + 2) 36 [houseE h, crowdE ws, (Tr.see x y z).enc, .list way] = .ok (false, .tuple [l.need.enc, .list (sidesD y (way ++ [lookW x true]) (yesOf h.facts l.seen ws) ++ sidesD z (way ++ [lookW x false]) (noOf h.facts l.seen ws))]) := by
  have q := need_look_ok g hx hd
  have hm : l ∈ h.looks := List.mem_of_find?_eq_some hd
  obtain ⟨o1, o2⟩ := (g.looks l hm).2.1
  have s := sides_by_ok (h := h) (n := n) (l := l) (ws := ws) o1 o2
  have hl : way.length + 1 ≤ line := line_ge (by omega)
  have L : ∀ (τ : Ta), τ.length = 10 → lcGo (lcF (C (n + 1)) gc0 [9] true (.one (.cmp .ne (.ix (.var 9) (.cst (.int 3))) (.tup .nil))) (.var 9) τ) [sideD y (way ++ [lookW x true]) (yesOf h.facts l.seen ws), sideD z (way ++ [lookW x false]) (noOf h.facts l.seen ws)] =
      .ok (sidesD y (way ++ [lookW x true]) (yesOf h.facts l.seen ws) ++ sidesD z (way ++ [lookW x false]) (noOf h.facts l.seen ws)) := fun τ hτ => by
    have e : ∀ t w us, lcF (C (n + 1)) gc0 [9] true (.one (.cmp .ne (.ix (.var 9) (.cst (.int 3))) (.tup .nil))) (.var 9) τ (sideD t w us) = .ok (if us.isEmpty then none else some (sideD t w us)) := fun t w us => by
      have h1 : PyData.eqv (crowdE us) (.tuple []) = us.isEmpty := by cases us <;> rfl
      have h2 := sh_crowd us
      rw [lcF_eq]
      cases hu : us.isEmpty <;> rw [hu] at h1 <;> simp [sideD, hτ, h1, h2, sh_t0]
    rw [lcGo_two (e _ _ _) (e _ _ _)]
    unfold sidesD
    cases (yesOf h.facts l.seen ws).isEmpty <;> cases (noOf h.facts l.seen ws).isEmpty <;> rfl
  rw [at_parts_walked]
  simp [d_parts_walked, Tr.enc, q, hl, s]
  have L' := L
  unfold sideD lookW at L'
  rw [L' _ rfl]
  simp [lookW]
end
end F1
end VL
namespace VL
open PySem PySem.Spec L2
namespace F1
/-- what lies on the pile: a crowd, a tree, the way there -/
abbrev P := List Nat × Tr × List D
def pe (p : P) : D := .tuple [crowdE p.1, p.2.1.enc, .list p.2.2]
def pileD (s : List P) : List D := s.reverse.map pe
theorem pileD_cons (p : P) (s : List P) : pileD (p :: s) = pileD s ++ [.tuple [crowdE p.1, p.2.1.enc, .list p.2.2]] := by
  unfold pileD
  rw [List.reverse_cons, List.map_append]
  rfl
abbrev Res := List (List Nat) ⊕ D
def comb : Res → Res → Res
  | .inr d, _ => .inr d
  | .inl _, .inr d => .inr d
  | .inl a, .inl b => .inl (a ++ b)
theorem comb_nil (r : Res) : comb (.inl []) r = r := by cases r <;> rfl
theorem comb_nil2 (r : Res) : comb r (.inl []) = r := by
  cases r with
  | inl a => show Sum.inl (a ++ []) = _; rw [List.append_nil]
  | inr d => rfl
theorem comb_assoc (a b c : Res) : comb (comb a b) c = comb a (comb b c) := by
  cases a <;> cases b <;> cases c <;> simp [comb]
def wayX (x : Str) (b : Bool) : D := lookW x b
/-- how a tree is walked -/
def walkT (h : House) : Tr → List Nat → List D → Res
  | .fin, ws, way => match failing h.facts h.wish ws with
    | none => .inl [ws]
    | some w => .inr (.tuple [.str "ends", .list way, natD w])
  | .act x t, ws, way => match namedIn h.deeds x with
    | none => .inl []
    | some d => match failing h.facts d.need ws with
      | none => walkT h t (behind h.facts d.ways ws) (way ++ [.str x])
      | some w => .inr (.tuple [.str "stuck", .list way, natD w])
  | .see x y z, ws, way => match lookIn h.looks x with
    | none => .inl []
    | some l => match failing h.facts l.need ws with
      | none => comb (if (yesOf h.facts l.seen ws).isEmpty then .inl [] else walkT h y (yesOf h.facts l.seen ws) (way ++ [lookW x true]))
          (if (noOf h.facts l.seen ws).isEmpty then .inl [] else walkT h z (noOf h.facts l.seen ws) (way ++ [lookW x false]))
      | some w => .inr (.tuple [.str "stuck", .list way, natD w])
def goPile (h : House) : List P → Res
  | [] => .inl []
  | p :: r => comb (walkT h p.2.1 p.1 p.2.2) (goPile h r)
@[simp] theorem app_ne {α : Type} {xs : List α} {d : α} : (xs ++ [d]).isEmpty = false := by cases xs <;> rfl
structure POk (h : House) (p : P) : Prop where
  ok : p.2.1.ok h
  deep : p.2.1.deep ≤ 60
  lt : ∀ w ∈ p.1, w < 2 ^ h.facts.length
  way : p.2.2.length + p.2.1.deep ≤ 500
  lay : ∀ x ∈ p.2.2, Lay x 1
theorem layP {h : House} {p : P} (o : POk h p) : Lay (pe p) 62 := by
  refine lay_tup (k := 61) fun x m => ?_
  simp only [List.mem_cons, List.not_mem_nil, or_false] at m
  rcases m with rfl | rfl | rfl
  · exact (lay_tup (k := 0) fun y my => by
      obtain ⟨w, _, rfl⟩ := List.mem_map.mp my
      exact lay_nat).mono (by omega)
  · exact (trLay o.ok).mono (by have := o.deep; omega)
  · exact (lay_list o.lay).mono (by omega)
def sizesP (s : List P) : Nat := (s.map fun p => p.2.1.size).sum
theorem sizesP_cons (p : P) (s : List P) : sizesP (p :: s) = p.2.1.size + sizesP s := by unfold sizesP; rw [List.map_cons, List.sum_cons]
theorem len_sizesP : ∀ s : List P, s.length ≤ sizesP s
  | [] => Nat.le_refl _
  | p :: s => by
    have := len_sizesP s
    have := p.2.1.size_pos
    rw [sizesP_cons, List.length_cons]
    omega
theorem bars_none {fs : List Str} {c : Cnd} {ws : List Nat} (e : failing fs c ws = none) : bars fs c ws = [] := by
  have := filter_fail (fs := fs) (c := c) ws
  rw [e] at this
  exact List.isEmpty_iff.mp this
theorem bars_some {fs : List Str} {c : Cnd} {ws : List Nat} {w : Nat} (e : failing fs c ws = some w) : ∃ r, bars fs c ws = w :: r := by
  have q : (bars fs c ws).head? = some w := by
    unfold bars
    rw [List.head?_filter]
    exact e
  cases hb : bars fs c ws with
  | nil => rw [hb] at q; cases q
  | cons a r => rw [hb] at q; cases q; exact ⟨r, rfl⟩
theorem notN_deed (d : Deed) : cmpD .notN (deedE d) .none = .ok (.fz, .bool true) := nr rfl
section
variable {h : House} {n : Nat}
def goT (h : House) (x1 x2 : D) (ends : List (List Nat)) (s : List P) : Ta := [.fz (houseE h), .fz x1, .fz x2, .ow (.list (ends.map crowdE)), .ow (.list (pileD s)), .un, .un, .un, .un, .un, .un, .un, .un, .un, .un, .un]
theorem sh_nE (ws : List Nat) : SeqAt.shaped (natsE ws) = true := sh_nats ws
theorem eqv_nE (ws : List Nat) : PyData.eqv (natsE ws) (.list []) = ws.isEmpty := eqv_nats ws
theorem ix_nats0 (w : Nat) (r : List Nat) : ixD (natsE (w :: r)) (.int 0) = .ok (.fz, natD w) := x_l0
theorem goes_go (g : GL n h) (x1 x2 : D) : ∀ (k m : Nat) (s : List P) (ends : List (List Nat)), (∀ p ∈ s, POk h p) → sizesP s ≤ k → k < m → ends.length + k ≤ 900 →
    wgo (C (n + 3)) gc0 gas (.cmp .ne (.pk 4) (.lst .nil)) b_tree_goes_1 [5, 6, 7, 8, 9, 10, 11, 12, 13, 14, 15] m (goT h x1 x2 ends s) = match goPile h s with
      | .inl e => .ok (.nx (goT h x1 x2 (ends ++ e) []))
      | .inr d => .ok (.rt false d)
  | k, m + 1, [], ends, _, _, _, _ => by
    rw [s_wgo]
    simp [goT, pileD, sh_l0, eqv_nil, goPile]
  | k, m + 1, (ws, t, way) :: s, ends, ho, hk, hm, he => by
    have o := ho _ (List.mem_cons_self ..)
    have o1 := o.ok
    have o2 := o.deep
    have o3 := o.lt
    have o4 := o.way
    have o5 := o.lay
    simp only at o1 o2 o3 o4 o5
    rw [sizesP_cons] at hk
    simp only at hk
    have hsl := len_sizesP s
    have hap := t.size_pos
    have hsh : SeqAt.shaped (.list (pileD s ++ [.tuple [crowdE ws, t.enc, .list way]])) = true := by
      rw [← pileD_cons (ws, t, way) s]
      refine Lay.sh (k := 63) (lay_list fun x mx => ?_) (by decide)
      obtain ⟨p, mp, rfl⟩ := List.mem_map.mp mx
      exact layP (ho p (List.mem_reverse.mp mp))
    have hpl : (pileD s).length = s.length := by unfold pileD; rw [List.length_map, List.length_reverse]
    have hpl1 : (pileD s).length < line := by rw [hpl]; exact Nat.lt_of_le_of_lt (show s.length ≤ 1000 by omega) (by decide)
    have hpl2 : (pileD s).length + 1 < line := by rw [hpl]; exact Nat.lt_of_le_of_lt (show s.length + 1 ≤ 1000 by omega) (by decide)
    have hel : (ends.map crowdE).length < line := by rw [List.length_map]; exact Nat.lt_of_le_of_lt (show ends.length ≤ 1000 by omega) (by decide)
    have hel2 : ends.length < line := Nat.lt_of_le_of_lt (show ends.length ≤ 1000 by omega) (by decide)
    have IH := goes_go g x1 x2 (k - 1) m
    have hs0 := fun p m => ho p (List.mem_cons_of_mem _ m)
    rw [s_wgo]
    cases t with
    | fin =>
      have pw := pw_fin (h := h) (n := n + 2) ws way
      have ba := barring_ok (h := h) (n := n + 2) (ws := ws) g.g.wish.1 (by have := g.g.wish.2; omega)
      cases hf : failing h.facts h.wish ws with
      | some w =>
        obtain ⟨r, hr⟩ := bars_some hf
        rw [hr] at ba
        have e : goPile h ((ws, Tr.fin, way) :: s) = .inr (.tuple [.str "ends", .list way, natD w]) := by
          show comb (walkT h Tr.fin ws way) _ = _
          unfold walkT
          rw [hf]; rfl
        rw [e]
        have hsh' := hsh
        simp [Tr.enc] at hsh' pw
        simp [goT, pileD_cons, hsh', sh_l0, eqv_nil, b_tree_goes_1, Tr.enc, pw, ba, sh_nE, eqv_nE, ix_nats0]
      | none =>
        rw [bars_none hf] at ba
        have e : goPile h ((ws, Tr.fin, way) :: s) = comb (.inl [ws]) (goPile h s) := by
          show comb (walkT h Tr.fin ws way) _ = _
          unfold walkT
          rw [hf]
        have i := IH s (ends ++ [ws]) hs0 (by simp only [Tr.size] at hk; omega) (by omega) (by simp only [Tr.size] at hk; rw [List.length_append, List.length_singleton]; omega)
        have e2 : (match goPile h ((ws, Tr.fin, way) :: s) with | .inl e => Out.ok (Fl.nx (goT h x1 x2 (ends ++ e) [])) | .inr d => .ok (.rt false d)) = (match goPile h s with | .inl e => .ok (.nx (goT h x1 x2 (ends ++ [ws] ++ e) [])) | .inr d => .ok (.rt false d)) := by
          rw [e]
          cases goPile h s <;> simp [comb]
        rw [e2, ← i]
        have hsh' := hsh
        simp [Tr.enc] at hsh' pw
        simp [goT, pileD_cons, hsh', sh_l0, eqv_nil, b_tree_goes_1, Tr.enc, pw, ba, sh_nE, eqv_nE, hel2, fgo_nil]
    | act x t =>
      obtain ⟨d, hd⟩ := o1.2.1
      have hdm : d ∈ h.deeds := List.mem_of_find?_eq_some hd
      have pw := pw_act (n := n + 1) (g.mono (Nat.le_succ n)) o1.1 hd ws (t := t) (way := way) (by omega)
      have ba := barring_ok (h := h) (n := n + 2) (ws := ws) (g.g.need d hdm).1 (by have := (g.g.need d hdm).2; omega)
      have ab := all_behind_ok (n := n + 1) (h1 := deedsE h.deeds) (h2 := looksE h.looks) (h3 := natsE h.firsts) (h4 := h.wish.enc) g.g.few ((g.g.mono (Nat.le_succ n)).ways d hdm) o3 (.str d.name) d.need.enc
      have ab' : C (n + 3) 7 [houseE h, deedE d, crowdE ws] = .ok (false, crowdE (behind h.facts d.ways ws)) := ab
      cases hf : failing h.facts d.need ws with
      | some w =>
        obtain ⟨r, hr⟩ := bars_some hf
        rw [hr] at ba
        have e : goPile h ((ws, Tr.act x t, way) :: s) = .inr (.tuple [.str "stuck", .list way, natD w]) := by
          show comb (walkT h (Tr.act x t) ws way) _ = _
          unfold walkT
          rw [hd]
          simp only [hf]
          rfl
        rw [e]
        have hsh' := hsh
        simp [Tr.enc] at hsh' pw
        simp [goT, pileD_cons, hsh', sh_l0, eqv_nil, b_tree_goes_1, Tr.enc, pw, ba, sh_nE, eqv_nE, ix_nats0]
      | none =>
        rw [bars_none hf] at ba
        have e : goPile h ((ws, Tr.act x t, way) :: s) = goPile h ((behind h.facts d.ways ws, t, way ++ [.str x]) :: s) := by
          show comb (walkT h (Tr.act x t) ws way) _ = comb _ _
          conv => lhs; unfold walkT
          rw [hd]
          simp only [hf]
        simp only [Tr.size] at hk
        simp only [Tr.deep] at o2 o4
        have i := IH ((behind h.facts d.ways ws, t, way ++ [.str x]) :: s) ends (fun p mp => by
          rcases List.mem_cons.mp mp with rfl | mp
          · refine ⟨o1.2.2, by show t.deep ≤ 60; omega, behind_lt (g.g.ways d hdm) o3, by show (way ++ [_]).length + t.deep ≤ 500; rw [List.length_append, List.length_singleton]; omega, fun y my => ?_⟩
            rcases List.mem_append.mp my with z | z
            · exact o5 y z
            · rw [List.mem_singleton.mp z]; exact lay_str o1.1
          · exact hs0 p mp) (by rw [sizesP_cons]; show t.size + _ ≤ _; omega) (by omega) (by omega)
        rw [e, ← i]
        have hsh' := hsh
        simp [Tr.enc] at hsh' pw
        simp [goT, pileD_cons, hsh', sh_l0, eqv_nil, b_tree_goes_1, Tr.enc, pw, ba, sh_nE, eqv_nE, fgo_nil, s_fgo, b_tree_goes_0, notN_deed, ab', hpl1]
    | see x y z =>
      obtain ⟨l, hd⟩ := o1.2.1
      have hdm : l ∈ h.looks := List.mem_of_find?_eq_some hd
      have pw := pw_see (n := n + 1) (g.mono (Nat.le_succ n)) o1.1 hd ws (y := y) (z := z) (way := way) (by omega)
      have ba := barring_ok (h := h) (n := n + 2) (ws := ws) (g.looks l hdm).1.1 (by have := (g.looks l hdm).1.2; omega)
      cases hf : failing h.facts l.need ws with
      | some w =>
        obtain ⟨r, hr⟩ := bars_some hf
        rw [hr] at ba
        have e : goPile h ((ws, Tr.see x y z, way) :: s) = .inr (.tuple [.str "stuck", .list way, natD w]) := by
          show comb (walkT h (Tr.see x y z) ws way) _ = _
          unfold walkT
          rw [hd]
          simp only [hf]
          rfl
        rw [e]
        have hsh' := hsh
        simp [Tr.enc] at hsh' pw
        simp [goT, pileD_cons, hsh', sh_l0, eqv_nil, b_tree_goes_1, Tr.enc, pw, ba, sh_nE, eqv_nE, ix_nats0]
      | none =>
        rw [bars_none hf] at ba
        simp only [Tr.size] at hk
        simp only [Tr.deep] at o2 o4
        have oy : ∀ us, (∀ w ∈ us, w ∈ ws) → POk h (us, y, way ++ [lookW x true]) := fun us hu =>
          ⟨o1.2.2.1, by show y.deep ≤ 60; omega, fun w hw => o3 w (hu w hw), by show (way ++ [_]).length + y.deep ≤ 500; rw [List.length_append, List.length_singleton]; omega, fun v mv => by
            rcases List.mem_append.mp mv with q | q
            · exact o5 v q
            · rw [List.mem_singleton.mp q]
              exact lay_tup (k := 0) fun u mu => by
                simp only [List.mem_cons, List.not_mem_nil, or_false] at mu
                rcases mu with rfl | rfl
                · exact lay_str o1.1
                · exact lay_bool⟩
        have oz : ∀ us, (∀ w ∈ us, w ∈ ws) → POk h (us, z, way ++ [lookW x false]) := fun us hu =>
          ⟨o1.2.2.2, by show z.deep ≤ 60; omega, fun w hw => o3 w (hu w hw), by show (way ++ [_]).length + z.deep ≤ 500; rw [List.length_append, List.length_singleton]; omega, fun v mv => by
            rcases List.mem_append.mp mv with q | q
            · exact o5 v q
            · rw [List.mem_singleton.mp q]
              exact lay_tup (k := 0) fun u mu => by
                simp only [List.mem_cons, List.not_mem_nil, or_false] at mu
                rcases mu with rfl | rfl
                · exact lay_str o1.1
                · exact lay_bool⟩
        have oy' := oy (yesOf h.facts l.seen ws) fun w hw => (List.mem_filter.mp hw).1
        have oz' := oz (noOf h.facts l.seen ws) fun w hw => (List.mem_filter.mp hw).1
        have e : goPile h ((ws, Tr.see x y z, way) :: s) = comb (if (yesOf h.facts l.seen ws).isEmpty then .inl [] else walkT h y (yesOf h.facts l.seen ws) (way ++ [lookW x true])) (comb
          (if (noOf h.facts l.seen ws).isEmpty then .inl [] else walkT h z (noOf h.facts l.seen ws) (way ++ [lookW x false])) (goPile h s)) := by
          show comb (walkT h (Tr.see x y z) ws way) _ = _
          conv => lhs; unfold walkT
          rw [hd]
          simp only [hf]
          rw [comb_assoc]
        have hsh' := hsh
        simp [Tr.enc] at hsh' pw
        cases hy : (yesOf h.facts l.seen ws).isEmpty <;> cases hz : (noOf h.facts l.seen ws).isEmpty
        · rw [hy, hz] at e
          have i := IH ((yesOf h.facts l.seen ws, y, way ++ [lookW x true]) :: (noOf h.facts l.seen ws, z, way ++ [lookW x false]) :: s) ends (fun p mp => by
            rcases List.mem_cons.mp mp with rfl | mp
            · exact oy'
            · rcases List.mem_cons.mp mp with rfl | mp
              · exact oz'
              · exact hs0 p mp) (by rw [sizesP_cons, sizesP_cons]; show y.size + (z.size + _) ≤ _; omega) (by omega) (by omega)
          rw [show goPile h ((ws, Tr.see x y z, way) :: s) = goPile h ((yesOf h.facts l.seen ws, y, way ++ [lookW x true]) :: (noOf h.facts l.seen ws, z, way ++ [lookW x false]) :: s) from e, ← i]
          simp [sidesD, hy, hz, sideD] at pw
          simp [goT, pileD_cons, hsh', sh_l0, eqv_nil, b_tree_goes_1, Tr.enc, pw, ba, sh_nE, eqv_nE, fgo_nil, s_fgo, b_tree_goes_0, hpl1, hpl2]
        · rw [hy, hz] at e
          have i := IH ((yesOf h.facts l.seen ws, y, way ++ [lookW x true]) :: s) ends (fun p mp => by
            rcases List.mem_cons.mp mp with rfl | mp
            · exact oy'
            · exact hs0 p mp) (by rw [sizesP_cons]; show y.size + _ ≤ _; omega) (by omega) (by omega)
          rw [show goPile h ((ws, Tr.see x y z, way) :: s) = goPile h ((yesOf h.facts l.seen ws, y, way ++ [lookW x true]) :: s) from by rw [e]; show comb _ (comb (.inl []) _) = comb _ _; rw [comb_nil]; rfl, ← i]
          simp [sidesD, hy, hz, sideD] at pw
          simp [goT, pileD_cons, hsh', sh_l0, eqv_nil, b_tree_goes_1, Tr.enc, pw, ba, sh_nE, eqv_nE, fgo_nil, s_fgo, b_tree_goes_0, hpl1, hpl2]
        · rw [hy, hz] at e
          have i := IH ((noOf h.facts l.seen ws, z, way ++ [lookW x false]) :: s) ends (fun p mp => by
            rcases List.mem_cons.mp mp with rfl | mp
            · exact oz'
            · exact hs0 p mp) (by rw [sizesP_cons]; show z.size + _ ≤ _; omega) (by omega) (by omega)
          rw [show goPile h ((ws, Tr.see x y z, way) :: s) = goPile h ((noOf h.facts l.seen ws, z, way ++ [lookW x false]) :: s) from by rw [e]; show comb (.inl []) (comb _ _) = comb _ _; rw [comb_nil]; rfl, ← i]
          simp [sidesD, hy, hz, sideD] at pw
          simp [goT, pileD_cons, hsh', sh_l0, eqv_nil, b_tree_goes_1, Tr.enc, pw, ba, sh_nE, eqv_nE, fgo_nil, s_fgo, b_tree_goes_0, hpl1, hpl2]
        · rw [hy, hz] at e
          have i := IH s ends hs0 (by omega) (by omega) (by omega)
          rw [show goPile h ((ws, Tr.see x y z, way) :: s) = goPile h s from by rw [e]; show comb (.inl []) (comb (.inl []) _) = _; rw [comb_nil, comb_nil], ← i]
          simp [sidesD, hy, hz, sideD] at pw
          simp [goT, pileD_cons, hsh', sh_l0, eqv_nil, b_tree_goes_1, Tr.enc, pw, ba, sh_nE, eqv_nE, fgo_nil, s_fgo, b_tree_goes_0, hpl1, hpl2]
end
end F1
end VL
namespace VL
open PySem PySem.Spec L2
namespace F1
/-- whether a tree goes well from a crowd -/
def wellT (h : House) : Tr → List Nat → Bool
  | .fin, ws => (failing h.facts h.wish ws).isNone
  | .act x t, ws => match namedIn h.deeds x with
    | none => true
    | some d => (failing h.facts d.need ws).isNone && wellT h t (behind h.facts d.ways ws)
  | .see x y z, ws => match lookIn h.looks x with
    | none => true
    | some l => (failing h.facts l.need ws).isNone && (wellT h y (yesOf h.facts l.seen ws) && wellT h z (noOf h.facts l.seen ws))
theorem behind_nil (fs : List Str) (ways : List (List Chg)) : behind fs ways [] = [] := by
  unfold behind sortN behK
  simp
theorem wellT_nil (h : House) : ∀ t : Tr, wellT h t [] = true
  | .fin => rfl
  | .act x t => by
    unfold wellT
    cases namedIn h.deeds x with
    | none => rfl
    | some d =>
      show ((failing h.facts d.need []).isNone && wellT h t (behind h.facts d.ways [])) = true
      rw [behind_nil, wellT_nil h t]; rfl
  | .see x y z => by
    unfold wellT
    cases lookIn h.looks x with
    | none => rfl
    | some l =>
      show ((failing h.facts l.need []).isNone && (wellT h y (yesOf h.facts l.seen []) && wellT h z (noOf h.facts l.seen []))) = true
      rw [show yesOf h.facts l.seen [] = [] from rfl, show noOf h.facts l.seen [] = [] from rfl, wellT_nil h y, wellT_nil h z]; rfl
def isL : Res → Bool
  | .inl _ => true
  | .inr _ => false
theorem isL_comb (a b : Res) : isL (comb a b) = (isL a && isL b) := by cases a <;> cases b <;> rfl
theorem isL_walk (h : House) : ∀ (t : Tr) (ws : List Nat) (way : List D), isL (walkT h t ws way) = wellT h t ws
  | .fin, ws, way => by
    unfold walkT wellT
    cases failing h.facts h.wish ws <;> rfl
  | .act x t, ws, way => by
    unfold walkT wellT
    cases namedIn h.deeds x with
    | none => rfl
    | some d =>
      show isL (match failing h.facts d.need ws with | none => _ | some w => _) = ((failing h.facts d.need ws).isNone && wellT h t (behind h.facts d.ways ws))
      cases failing h.facts d.need ws with
      | none => exact (isL_walk h t _ _).trans (by simp)
      | some w => rfl
  | .see x y z, ws, way => by
    unfold walkT wellT
    cases lookIn h.looks x with
    | none => rfl
    | some l =>
      show isL (match failing h.facts l.need ws with | none => _ | some w => _) = ((failing h.facts l.need ws).isNone && (wellT h y (yesOf h.facts l.seen ws) && wellT h z (noOf h.facts l.seen ws)))
      cases failing h.facts l.need ws with
      | none =>
        have e : ∀ (t : Tr) us w2, (isL (walkT h t us w2) = wellT h t us) → isL (if us.isEmpty then .inl [] else walkT h t us w2) = wellT h t us := fun t us w2 q => by
          cases us with
          | nil => rw [wellT_nil]; rfl
          | cons a r => exact q
        show isL (comb _ _) = _
        rw [isL_comb, e y _ _ (isL_walk h y _ _), e z _ _ (isL_walk h z _ _)]
        rfl
      | some w => rfl
theorem inr_form (h : House) : ∀ (t : Tr) (ws : List Nat) (way : List D) (d : D), walkT h t ws way = .inr d → ∃ s r, d = .tuple (.str s :: r) ∧ SeqAt.shaped (.str s) = true ∧ (s == ("well" : Str)) = false
  | .fin, ws, way, d, e => by
    unfold walkT at e
    cases hf : failing h.facts h.wish ws with
    | none => rw [hf] at e; cases e
    | some w => rw [hf] at e; cases e; exact ⟨_, _, rfl, sh_ends, w_ew⟩
  | .act x t, ws, way, d, e => by
    unfold walkT at e
    cases hn : namedIn h.deeds x with
    | none => rw [hn] at e; cases e
    | some dd =>
      rw [hn] at e
      simp only at e
      cases hf : failing h.facts dd.need ws with
      | none => rw [hf] at e; exact inr_form h t _ _ d e
      | some w => rw [hf] at e; cases e; exact ⟨_, _, rfl, sh_stuck, w_sw⟩
  | .see x y z, ws, way, d, e => by
    unfold walkT at e
    cases hn : lookIn h.looks x with
    | none => rw [hn] at e; cases e
    | some l =>
      rw [hn] at e
      simp only at e
      cases hf : failing h.facts l.need ws with
      | some w => rw [hf] at e; cases e; exact ⟨_, _, rfl, sh_stuck, w_sw⟩
      | none =>
        rw [hf] at e
        simp only at e
        have cs : ∀ a b : Res, comb a b = .inr d → a = .inr d ∨ b = .inr d := fun a b q => by
          cases a with
          | inr a => exact .inl q
          | inl a => cases b with
            | inl b => cases q
            | inr b => exact .inr q
        rcases cs _ _ e with q | q
        · split at q
          · cases q
          · exact inr_form h y _ _ d q
        · split at q
          · cases q
          · exact inr_form h z _ _ d q
section
variable {h : House} {n : Nat}
theorem tree_goes_ok (g : GL n h) {t : Tr} {ws : List Nat} (o : t.ok h) (hd : t.deep ≤ 60) (hs : t.size ≤ 800) (c : Cr h.facts.length ws) : C (n + 4) 37 [houseE h, crowdE ws, t.enc] = match walkT h t ws [] with
      | .inl e => .ok (false, .tuple [.str "well", .list (e.map crowdE)])
      | .inr d => .ok (false, d) := by
  have i1 := need_crowd_ok (n := n) g.g.few c
  have i2 := need_names_ok (n := n) g o hd (by omega)
  have G := goes_go g (crowdE ws) t.enc t.size 1000 [(ws, t, [])] [] (fun p m => by
    rw [List.mem_singleton.mp m]
    exact ⟨o, hd, c.lt, by show 0 + t.deep ≤ 500; omega, fun x m => by cases m⟩) (by simp [sizesP]) (by omega) (by show 0 + t.size ≤ 900; omega)
  have e : goPile h [(ws, t, [])] = walkT h t ws [] := by
    show comb (walkT h t ws []) (.inl []) = _
    rw [comb_nil2]
  rw [e] at G
  rw [at_tree_goes]
  simp [d_tree_goes, i1, i2]
  simp [goT, pileD, pe] at G
  rw [show gas = 1000 from rfl] at G ⊢
  rw [G]
  cases walkT h t ws [] <;> simp
theorem goes_says (g : GL n h) {t : Tr} {ws : List Nat} (o : t.ok h) (hd : t.deep ≤ 60) (hs : t.size ≤ 800) (c : Cr h.facts.length ws) :
    ∃ (s : Str) (r : List D), C (n + 4) 37 [houseE h, crowdE ws, t.enc] = .ok (false, .tuple (.str s :: r)) ∧ SeqAt.shaped (.str s) = true ∧ (s == ("well" : Str)) = wellT h t ws := by
  have e := tree_goes_ok g o hd hs c
  have l := isL_walk h t ws []
  cases hw : walkT h t ws [] with
  | inl a =>
    rw [hw] at e l
    exact ⟨_, _, e, sh_well, by rw [← l, beq_self_eq_true]; rfl⟩
  | inr d =>
    obtain ⟨s, r, rfl, q1, q2⟩ := inr_form h t ws [] d hw
    rw [hw] at e l
    exact ⟨s, r, e, q1, by rw [q2, ← l]; rfl⟩
end
/-! ### one part put out -/
def Tr.without : Tr → List Tr
  | .fin => []
  | .act x t => t :: t.without.map (.act x)
  | .see x y z => [y, z] ++ y.without.map (fun l => .see x l z) ++ z.without.map (fun l => .see x y l)
theorem without_size : ∀ {t l : Tr}, l ∈ t.without → l.size < t.size
  | .fin, _, m => by cases m
  | .act x t, l, m => by
    rcases List.mem_cons.mp m with rfl | m
    · exact Nat.lt_succ_self _
    · obtain ⟨u, mu, rfl⟩ := List.mem_map.mp m
      exact Nat.succ_lt_succ (without_size mu)
  | .see x y z, l, m => by
    have hy := y.size_pos
    have hz := z.size_pos
    rcases List.mem_append.mp m with m | m
    · rcases List.mem_append.mp m with m | m
      · rcases List.mem_cons.mp m with rfl | m
        · show l.size < l.size + z.size + 1; omega
        · rw [List.mem_singleton.mp m]; show z.size < y.size + z.size + 1; omega
      · obtain ⟨u, mu, rfl⟩ := List.mem_map.mp m
        have := without_size mu
        show u.size + z.size + 1 < y.size + z.size + 1; omega
    · obtain ⟨u, mu, rfl⟩ := List.mem_map.mp m
      have := without_size mu
      show y.size + u.size + 1 < y.size + z.size + 1; omega
theorem without_deep : ∀ {t l : Tr}, l ∈ t.without → l.deep ≤ t.deep
  | .fin, _, m => by cases m
  | .act x t, l, m => by
    rcases List.mem_cons.mp m with rfl | m
    · exact Nat.le_succ _
    · obtain ⟨u, mu, rfl⟩ := List.mem_map.mp m
      exact Nat.succ_le_succ (without_deep mu)
  | .see x y z, l, m => by
    rcases List.mem_append.mp m with m | m
    · rcases List.mem_append.mp m with m | m
      · rcases List.mem_cons.mp m with rfl | m
        · show l.deep ≤ max l.deep z.deep + 1; omega
        · rw [List.mem_singleton.mp m]; show z.deep ≤ max y.deep z.deep + 1; omega
      · obtain ⟨u, mu, rfl⟩ := List.mem_map.mp m
        have := without_deep mu
        show max u.deep z.deep + 1 ≤ max y.deep z.deep + 1; omega
    · obtain ⟨u, mu, rfl⟩ := List.mem_map.mp m
      have := without_deep mu
      show max y.deep u.deep + 1 ≤ max y.deep z.deep + 1; omega
theorem without_ok {h : House} : ∀ {t l : Tr}, t.ok h → l ∈ t.without → l.ok h
  | .fin, _, _, m => by cases m
  | .act x t, l, o, m => by
    rcases List.mem_cons.mp m with rfl | m
    · exact o.2.2
    · obtain ⟨u, mu, rfl⟩ := List.mem_map.mp m
      exact ⟨o.1, o.2.1, without_ok o.2.2 mu⟩
  | .see x y z, l, o, m => by
    rcases List.mem_append.mp m with m | m
    · rcases List.mem_append.mp m with m | m
      · rcases List.mem_cons.mp m with rfl | m
        · exact o.2.2.1
        · rw [List.mem_singleton.mp m]; exact o.2.2.2
      · obtain ⟨u, mu, rfl⟩ := List.mem_map.mp m
        exact ⟨o.1, o.2.1, without_ok o.2.2.1 mu, o.2.2.2⟩
    · obtain ⟨u, mu, rfl⟩ := List.mem_map.mp m
      exact ⟨o.1, o.2.1, o.2.2.1, without_ok o.2.2.2 mu⟩
theorem without_many : ∀ t : Tr, t.without.length ≤ 2 * t.size
  | .fin => Nat.zero_le _
  | .act x t => by
    have := without_many t
    show (t.without.map _).length + 1 ≤ 2 * (t.size + 1)
    rw [List.length_map]; omega
  | .see x y z => by
    have := without_many y
    have := without_many z
    show ([y, z] ++ y.without.map _ ++ z.without.map _).length ≤ 2 * (y.size + z.size + 1)
    simp only [List.length_append, List.length_map, List.length_cons, List.length_nil]
    omega
theorem lc_trees {f : D → Out (Option D)} {k : Tr → Tr} (l : List Tr) (hf : ∀ u, f u.enc = .ok (some (k u).enc)) : lcGo f (treesE l) = .ok (treesE (l.map k)) := by
  unfold treesE
  rw [lcGo_map (k := fun u => some (k u).enc) fun u _ => hf u]
  congr 1
  rw [List.map_map]
  exact congrFun (List.filterMap_eq_map' (f := Tr.enc ∘ k)) l
theorem one_trees {k : Kd} (h : k = .fz ∨ k = .ow ∨ k = .nw) (ts : List Tr) : onek (.ok (k, .list (treesE ts))) = .ok (treesE ts) := by
  rcases h with rfl | rfl | rfl <;> rfl
section
variable {h : House} {n : Nat}
theorem treesE_len (l : List Tr) : (treesE l).length = l.length := List.length_map _
theorem trees_without_ok : ∀ (t : Tr) (m : Nat), t.deep < m → t.size ≤ 400 → C m 38 [t.enc] = .ok (true, .list (treesE t.without))
  | .fin, m + 1, _, _ => by
    rw [at_trees_without]
    simp [d_trees_without, Tr.enc, Tr.without, treesE]
  | .act x t, m + 1, hm, hs => by
    simp only [Tr.deep] at hm
    simp only [Tr.size] at hs
    have i := trees_without_ok t m (by omega) (by omega)
    have hmany := without_many t
    have L : ∀ τ : Ta, τ[0]? = some (.fz (.tuple [.str "do", .str x, t.enc])) → τ.length = 3 → lcGo (lcF (C m) gc0 [1] true (.cst (.bool true)) (.tup (.cons (.cst (.str "do")) (.cons (.ix (.var 0) (.cst (.int 1))) (.cons (.var 1) .nil)))) τ) (treesE t.without) = .ok (treesE (t.without.map (.act x))) := fun τ h0 hl =>
      lc_trees _ fun u => by
        match τ, hl with
        | [a, b, c], _ =>
          have h0 : a = .fz (.tuple [.str "do", .str x, t.enc]) := by simpa using h0
          subst h0
          rw [lcF_eq]
          simp [Tr.enc]
    have hl : (treesE (t.without.map (.act x))).length + 1 ≤ 1000 := by rw [treesE_len, List.length_map]; omega
    have hl' : 1 + (treesE (t.without.map (.act x))).length ≤ line := line_ge (by omega)
    rw [at_trees_without]
    simp [d_trees_without, Tr.enc, i, one_trees]
    rw [L _ rfl rfl]
    simp [hl', Nat.add_comm]
    simp [Tr.without, treesE]
  | .see x y z, m + 1, hm, hs => by
    simp only [Tr.deep] at hm
    simp only [Tr.size] at hs
    have i1 := trees_without_ok y m (by omega) (by omega)
    have i2 := trees_without_ok z m (by omega) (by omega)
    have hm1 := without_many y
    have hm2 := without_many z
    have L1 : ∀ τ : Ta, τ[0]? = some (.fz (.tuple [.str "see", .str x, y.enc, z.enc])) → τ.length = 3 → lcGo (lcF (C m) gc0 [1] true (.cst (.bool true)) (.tup (.cons (.cst (.str "see")) (.cons (.ix (.var 0) (.cst (.int 1))) (.cons (.var 1) (.cons (.ix (.var 0) (.cst (.int 3))) .nil))))) τ) (treesE y.without) = .ok (treesE (y.without.map fun l => .see x l z)) := fun τ h0 hl =>
      lc_trees (k := fun l => .see x l z) _ fun u => by
        match τ, hl with
        | [a, b, c], _ =>
          have h0 : a = .fz (.tuple [.str "see", .str x, y.enc, z.enc]) := by simpa using h0
          subst h0
          rw [lcF_eq]
          simp [Tr.enc]
    have L2 : ∀ τ : Ta, τ[0]? = some (.fz (.tuple [.str "see", .str x, y.enc, z.enc])) → τ.length = 3 → lcGo (lcF (C m) gc0 [1] true (.cst (.bool true)) (.tup (.cons (.cst (.str "see")) (.cons (.ix (.var 0) (.cst (.int 1))) (.cons (.ix (.var 0) (.cst (.int 2))) (.cons (.var 1) .nil))))) τ) (treesE z.without) = .ok (treesE (z.without.map fun l => .see x y l)) := fun τ h0 hl =>
      lc_trees (k := fun l => .see x y l) _ fun u => by
        match τ, hl with
        | [a, b, c], _ =>
          have h0 : a = .fz (.tuple [.str "see", .str x, y.enc, z.enc]) := by simpa using h0
          subst h0
          rw [lcF_eq]
          simp [Tr.enc]
    have e1 : ∀ kd i τ, extk (some (.ow (.list [y.enc, z.enc]))) (.ok (kd, .list (treesE (y.without.map fun l => .see x l z)))) i τ = _ := fun kd i τ => k_ext2 (by rw [treesE_len, List.length_map]; show 2 + _ ≤ 1000; omega)
    have e2 : ∀ kd i τ, extk (some (.ow (.list ([y.enc, z.enc] ++ treesE (y.without.map fun l => .see x l z))))) (.ok (kd, .list (treesE (z.without.map fun l => .see x y l)))) i τ = _ := fun kd i τ => k_ext2 (by rw [List.length_append, treesE_len, List.length_map, treesE_len, List.length_map]; show 2 + _ + _ ≤ 1000; omega)
    simp at e1 e2
    rw [at_trees_without]
    simp [d_trees_without, Tr.enc, i1, i2, one_trees]
    rw [L1 _ rfl rfl]
    simp [e1, i2, one_trees]
    rw [L2 _ rfl rfl]
    simp [e2]
    simp [Tr.without, treesE]
end
end F1
end VL
namespace VL
open PySem PySem.Spec L2
namespace F1
def shorterT (h : House) (ws : List Nat) (t : Tr) : Option Tr := t.without.find? fun l => wellT h l ws
def madeT (h : House) (ws : List Nat) : Nat → Tr → Tr
  | 0, t => t
  | k + 1, t => match shorterT h ws t with
    | none => t
    | some l => madeT h ws k l
def optT : Option Tr → D
  | some t => t.enc
  | none => .none
theorem walk_findT {h : House} {ws : List Nat} : ∀ ts : List Tr, walkE (fun (_ : Unit) (l : Tr) => if wellT h l ws = true then .inr (false, l.enc) else .inl ()) ts () = match ts.find? (fun l => wellT h l ws) with | some l => .inr (false, l.enc) | none => .inl ()
  | [] => rfl
  | l :: ts => by
    unfold walkE
    rw [List.find?_cons]
    cases hw : wellT h l ws with
    | true => rfl
    | false => exact walk_findT ts
theorem notN_tree (t : Tr) : cmpD .notN t.enc .none = .ok (.fz, .bool true) := by cases t <;> rfl
theorem shorterT_some {h : House} {ws : List Nat} {t l : Tr} (e : shorterT h ws t = some l) : l ∈ t.without ∧ wellT h l ws = true := ⟨List.mem_of_find?_eq_some e, List.find?_some (p := fun l => wellT h l ws) e⟩
/-- a tree of a bearable size -/
structure TrOk (h : House) (N : Nat) (t : Tr) : Prop where
  ok : t.ok h
  deep : t.deep ≤ 60
  size : t.size ≤ N
theorem TrOk.less {h : House} {N : Nat} {t l : Tr} (o : TrOk h N t) (m : l ∈ t.without) : TrOk h N l :=
  ⟨without_ok o.ok m, Nat.le_trans (without_deep m) o.deep, Nat.le_trans (Nat.le_of_lt (without_size m)) o.size⟩
section
variable {h : House} {n : Nat}
theorem shorter_tree_ok (g : GL n h) {t : Tr} {ws : List Nat} (o : TrOk h 400 t) (hn : 60 ≤ n) (c : Cr h.facts.length ws) : C (n + 5) 39 [houseE h, crowdE ws, t.enc] = .ok (false, optT (shorterT h ws t)) := by
  have L := fgo_walk (cl := C (n + 4)) (gc := gc0) (g := gas) (vs := [3]) (one := true) (b := b_shorter_tree_0) (ks := [3]) (enc := Tr.enc)
    (pack := fun (_ : Unit) => [.fz (houseE h), .fz (crowdE ws), .fz t.enc, .un]) (step := fun (_ : Unit) (l : Tr) => if wellT h l ws = true then .inr (false, l.enc) else .inl ()) (fun _ => True) (l := t.without) (x := ()) (fun l hm u ds _ => by
      have ol := o.less hm
      obtain ⟨s, r, e1, e2, e3⟩ := goes_says g ol.ok ol.deep (Nat.le_trans ol.size (by decide)) c
      cases hw : wellT h l ws
      · rw [hw] at e3
        refine ⟨?_, trivial⟩
        rw [s_fgo]
        simp [b_shorter_tree_0, e1, e2, e3, sh_well]
      · rw [hw] at e3
        show _ = _
        rw [s_fgo]
        simp [b_shorter_tree_0, e1, e2, e3, sh_well]) trivial
  rw [walk_findT] at L
  have w := trees_without_ok t (n + 4) (by have := o.deep; omega) o.size
  rw [at_shorter_tree]
  simp [d_shorter_tree, w, one_trees]
  rw [show treesE t.without = t.without.map Tr.enc from rfl, L]
  unfold shorterT
  cases t.without.find? fun l => wellT h l ws <;> simp [outE, optT]
theorem need_good_tree_ok (g : GL n h) {t : Tr} {ws : List Nat} (o : TrOk h 400 t) (c : Cr h.facts.length ws) (hw : wellT h t ws = true) : C (n + 5) 40 [houseE h, crowdE ws, t.enc] = .ok (false, .none) := by
  obtain ⟨s, r, e1, e2, e3⟩ := goes_says g o.ok o.deep (Nat.le_trans o.size (by decide)) c
  rw [hw] at e3
  rw [at_need_good_tree]
  simp [d_need_good_tree, e1, e2, e3, sh_well]
def tlessT (h : House) (ws : List Nat) (t0 : D) (t : Tr) (o : Option Tr) : Ta := [.fz (houseE h), .fz (crowdE ws), .fz t0, .fz t.enc, .fz (optT o)]
theorem tmade_go (g : GL n h) (hn : 60 ≤ n) {ws : List Nat} (t0 : D) (c : Cr h.facts.length ws) : ∀ (k m : Nat) (t : Tr), TrOk h 400 t → t.size ≤ k → k < m →
    wgo (C (n + 5)) gc0 gas (.cmp .notN (.var 4) (.cst .none)) b_tree_made_less_0 [] m (tlessT h ws t0 t (shorterT h ws t)) = .ok (.nx (tlessT h ws t0 (madeT h ws k t) none))
  | k, m + 1, t, o, hk, hm => by
    rw [s_wgo]
    cases hs : shorterT h ws t with
    | none =>
      have e : madeT h ws k t = t := by
        cases k with
        | zero => rfl
        | succ k => unfold madeT; rw [hs]
      rw [e]
      simp [tlessT, optT]
    | some l =>
      obtain ⟨m1, m2⟩ := shorterT_some hs
      have hsz := without_size m1
      cases k with
      | zero => have := t.size_pos; omega
      | succ k =>
        have i := tmade_go g hn t0 c k m l (o.less m1) (by omega) (by omega)
        have s := shorter_tree_ok g (o.less m1) hn c
        have e : madeT h ws (k + 1) t = madeT h ws k l := by
          show (match shorterT h ws t with | none => t | some l => madeT h ws k l) = _
          rw [hs]
        rw [e, ← i]
        simp [tlessT, optT, notN_tree, b_tree_made_less_0, s]
theorem tree_made_less_ok (g : GL n h) {t : Tr} {ws : List Nat} (o : TrOk h 400 t) (hn : 60 ≤ n) (c : Cr h.facts.length ws) (hw : wellT h t ws = true) : C (n + 6) 41 [houseE h, crowdE ws, t.enc] = .ok (false, (madeT h ws t.size t).enc) := by
  have i1 := need_good_tree_ok g o c hw
  have s := shorter_tree_ok g o hn c
  have G := tmade_go g hn t.enc c t.size 1000 t o (Nat.le_refl _) (by have := o.size; omega)
  rw [at_tree_made_less]
  simp [d_tree_made_less, i1, s]
  simp [tlessT] at G
  rw [show gas = 1000 from rfl] at G ⊢
  rw [G]
  simp
theorem madeT_facts {ws : List Nat} {N : Nat} : ∀ (k : Nat) (t : Tr), TrOk h N t → wellT h t ws = true → TrOk h N (madeT h ws k t) ∧ wellT h (madeT h ws k t) ws = true
  | 0, t, o, hw => ⟨o, hw⟩
  | k + 1, t, o, hw => by
    unfold madeT
    cases hs : shorterT h ws t with
    | none => exact ⟨o, hw⟩
    | some l =>
      obtain ⟨m1, m2⟩ := shorterT_some hs
      exact madeT_facts k l (o.less m1) m2
end
end F1
end VL
namespace VL
open PySem PySem.Spec L2
namespace F1
section
variable {h : House} {n : Nat}
theorem lsides_ok {l : Look} {ws : List Nat} (hl : h.facts.length ≤ 5) (o : l.seen.on h.facts) (d : l.seen.dep < n) : C (n + 1) 42 [houseE h, lookE l, crowdE ws] = .ok (false, .tuple [crowdE (yesOf h.facts l.seen ws), crowdE (noOf h.facts l.seen ws)]) := by
  have hl2 : h.facts.length ≤ 100 := by omega
  have L1 : ∀ s : Sl, lcGo (lcF (C n) gc0 [4] true (.one (.call 15 (.cons (.ix (.var 0) (.cst (.int 0))) (.cons (.ix (.var 1) (.cst (.int 2))) (.cons (.var 4) .nil))))) (.var 4) [.fz (houseE h), .fz (lookE l), .fz (crowdE ws), s, .un]) (ws.map natD) = .ok ((yesOf h.facts l.seen ws).map natD) := fun s => by
    refine lc_filter (p := fun w => l.seen.hold h.facts w) fun w _ => ?_
    have e := lholds_ok hl2 (w := w) o d
    rw [lcF_eq]
    unfold natD
    cases hc : l.seen.hold h.facts w <;> rw [hc] at e <;> simp [e]
  have L2 : lcGo (lcF (C n) gc0 [4] true (.one (.cmp .nin (.var 4) (.var 3))) (.var 4) [.fz (houseE h), .fz (lookE l), .fz (crowdE ws), .fz (.tuple ((yesOf h.facts l.seen ws).map natD)), .un]) (ws.map natD) = .ok ((noOf h.facts l.seen ws).map natD) := by
    refine lc_filter (p := fun w => !l.seen.hold h.facts w) fun w hw => ?_
    have e := nin_natsT w (yesOf h.facts l.seen ws)
    have m : (w ∈ yesOf h.facts l.seen ws) ↔ l.seen.hold h.facts w = true := by
      unfold yesOf
      rw [List.mem_filter]
      exact ⟨fun z => z.2, fun z => ⟨hw, z⟩⟩
    have e2 : decide (w ∈ yesOf h.facts l.seen ws) = l.seen.hold h.facts w := by
      rw [Bool.eq_iff_iff, decide_eq_true_eq]; exact m
    rw [e2] at e
    rw [lcF_eq]
    cases hc : l.seen.hold h.facts w <;> rw [hc] at e <;> simp [e]
  rw [at__law_sides]
  simp [d__law_sides]
  rw [L1]
  simp
  rw [L2]
  simp [crowdE]
theorem lnamedL_ok (g : GL n h) {x : Str} {d : Look} (hx : SeqAt.shaped (.str x) = true) (hd : lookIn h.looks x = some d) : C (n + 1) 18 [looksE h.looks, .str x] = .ok (false, lookE d) := by
  have hlc : ∀ ds : List Look, (∀ d ∈ ds, d ∈ h.looks) → lcGo (lcF (C n) gc0 [2] true (.one (.cmp .eq (.ix (.var 2) (.cst (.int 0))) (.var 1))) (.var 2) [.fz (looksE h.looks), .fz (.str x), .un]) (ds.map lookE) = .ok ((ds.filter fun d => d.name == x).map lookE) := by
    intro ds hds
    rw [lcGo_map (k := fun d => if (d.name == x) = true then some (lookE d) else none) fun d hm => ?_]
    · congr 1
      clear hds
      induction ds with
      | nil => rfl
      | cons d ds ih =>
        rw [List.filter_cons]
        cases hc : d.name == x with
        | false => rw [List.filterMap_cons_none (by simp [hc])]; simpa using ih
        | true => rw [List.filterMap_cons_some (b := lookE d) (by simp [hc])]; simpa using ih
    · have hn := (g.looks d (hds d hm)).2.2
      rw [lcF_eq]
      cases hc : d.name == x <;> simp [hn, hx, hc]
  have e := hlc h.looks fun d m => m
  have hh : (h.looks.filter fun d => d.name == x).head? = some d := by rw [List.head?_filter]; exact hd
  obtain ⟨r, hr⟩ : ∃ r, (h.looks.filter fun d => d.name == x) = d :: r := by
    cases q : h.looks.filter fun d => d.name == x with
    | nil => rw [q] at hh; cases hh
    | cons a r => rw [q] at hh; cases hh; exact ⟨r, rfl⟩
  rw [hr] at e
  rw [at__law_named]
  simp [d__law_named, e]
theorem sh_cr (ws : List Nat) : SeqAt.shaped (crowdE ws) = true := sh_crowd ws
theorem eqv_cr (ws : List Nat) : PyData.eqv (crowdE ws) (.tuple []) = ws.isEmpty := by cases ws <;> rfl
theorem ltree_well_ok (g : GL n h) : ∀ (t : Tr) (m : Nat) (ws : List Nat), t.ok h → t.deep ≤ m → (∀ w ∈ ws, w < 2 ^ h.facts.length) → C (n + m + 2) 44 [houseE h, crowdE ws, t.enc] = .ok (false, .bool (wellT h t ws))
  | t, m, [], o, hm, hw => by
    rw [wellT_nil, at__law_tree_well]
    simp [d__law_tree_well, sh_cr, eqv_cr, sh_t0]
  | .fin, m, a :: r, o, hm, hw => by
    have c := lcan_ok (h := h) (n := n + m) (ws := a :: r) g.g.few g.g.wish.1 (by have := g.g.wish.2; omega)
    rw [at__law_tree_well]
    simp [d__law_tree_well, sh_cr, eqv_cr, sh_t0, Tr.enc, c, wellT]
  | .act x t, m, a :: r, o, hm, hw => by
    cases m with
    | zero => simp [Tr.deep] at hm
    | succ m =>
      simp only [Tr.deep] at hm
      obtain ⟨d, hd⟩ := o.2.1
      have hdm : d ∈ h.deeds := List.mem_of_find?_eq_some hd
      have nd := lnamed_ok (n := n + (m + 1)) (g.g.mono (by omega)) o.1 hd
      have c := lcan_ok (h := h) (n := n + (m + 1)) (ws := a :: r) g.g.few (g.g.need d hdm).1 (by have := (g.g.need d hdm).2; omega)
      have b := lbehind_ok (n := n + (m + 1)) g.g.few g.g.nd (fun way my => (g.g.ways d hdm way my).mono (by omega)) (ws := a :: r) hw (.str d.name) d.need.enc
      have b' : C (n + (m + 1) + 1) 17 [sD h.facts, deedE d, crowdE (a :: r)] = .ok (false, crowdE (behind h.facts d.ways (a :: r))) := b
      have i := ltree_well_ok g t m (behind h.facts d.ways (a :: r)) o.2.2 (by omega) (behind_lt (g.g.ways d hdm) hw)
      rw [at__law_tree_well]
      rw [show n + m + 2 = n + (m + 1) + 1 by omega] at i
      unfold wellT
      rw [hd]
      cases hf : (failing h.facts d.need (a :: r)).isNone
      · rw [hf] at c
        simp [d__law_tree_well, sh_cr, eqv_cr, sh_t0, Tr.enc, nd, c, hf]
      · rw [hf] at c
        simp [d__law_tree_well, sh_cr, eqv_cr, sh_t0, Tr.enc, nd, c, b', i, hf]
  | .see x y z, m, a :: r, o, hm, hw => by
    cases m with
    | zero => simp [Tr.deep] at hm
    | succ m =>
      simp only [Tr.deep] at hm
      obtain ⟨d, hd⟩ := o.2.1
      have hdm : d ∈ h.looks := List.mem_of_find?_eq_some hd
      have nd := lnamedL_ok (n := n + (m + 1)) (g.mono (by omega)) o.1 hd
      have c := lcan_ok (h := h) (n := n + (m + 1)) (ws := a :: r) g.g.few (g.looks d hdm).1.1 (by have := (g.looks d hdm).1.2; omega)
      have b := lsides_ok (h := h) (n := n + (m + 1)) (l := d) (ws := a :: r) g.g.few (g.looks d hdm).2.1.1 (by have := (g.looks d hdm).2.1.2; omega)
      have i1 := ltree_well_ok g y m (yesOf h.facts d.seen (a :: r)) o.2.2.1 (by omega) fun w q => hw w (List.mem_filter.mp q).1
      have i2 := ltree_well_ok g z m (noOf h.facts d.seen (a :: r)) o.2.2.2 (by omega) fun w q => hw w (List.mem_filter.mp q).1
      rw [at__law_tree_well]
      rw [show n + m + 2 = n + (m + 1) + 1 by omega] at i1 i2
      unfold wellT
      rw [hd]
      cases hf : (failing h.facts d.need (a :: r)).isNone
      · rw [hf] at c
        simp [d__law_tree_well, sh_cr, eqv_cr, sh_t0, Tr.enc, nd, c, hf]
      · rw [hf] at c
        cases hy : wellT h y (yesOf h.facts d.seen (a :: r)) <;> rw [hy] at i1 <;>
        simp [d__law_tree_well, sh_cr, eqv_cr, sh_t0, Tr.enc, nd, c, b, i1, i2, hf, hy]
end
end F1
end VL
namespace VL
open PySem PySem.Spec L2
namespace F1
/-! ### the law's ways to the parts -/
def ways : Tr → List (List Nat)
  | .fin => []
  | .act _ t => [] :: (ways t).map (2 :: ·)
  | .see _ y z => [] :: ((ways y).map (2 :: ·) ++ (ways z).map (3 :: ·))
def sub : Tr → List Nat → Option Tr
  | t, [] => some t
  | .act _ t, 2 :: r => sub t r
  | .see _ y _, 2 :: r => sub y r
  | .see _ _ z, 3 :: r => sub z r
  | _, _ => none
def lessAt : Tr → List Nat → Nat → Option Tr
  | .act _ t, [], 0 => some t
  | .see _ y _, [], 0 => some y
  | .see _ _ z, [], 1 => some z
  | .act x t, 2 :: r, s => (lessAt t r s).map (.act x)
  | .see x y z, 2 :: r, s => (lessAt y r s).map fun l => .see x l z
  | .see x y z, 3 :: r, s => (lessAt z r s).map fun l => .see x y l
  | _, _, _ => none
def lesses (t : Tr) (w : List Nat) : List Tr := match sub t w with
  | some p => (List.range p.kids.length).filterMap (lessAt t w)
  | none => []
theorem fm_map {α β γ : Type} (f : α → Option β) (g : β → γ) : ∀ l : List α, l.filterMap (fun a => (f a).map g) = (l.filterMap f).map g
  | [] => rfl
  | a :: l => by
    cases h : f a with
    | none => rw [List.filterMap_cons_none (by simp [h]), List.filterMap_cons_none h]; exact fm_map f g l
    | some b => rw [List.filterMap_cons_some (b := g b) (by simp [h]), List.filterMap_cons_some h, List.map_cons, fm_map f g l]
theorem fl_map {α β γ : Type} (f : α → α) (g : α → List β) (k : β → γ) (g' : α → List γ) (h : ∀ a, g' (f a) = (g a).map k) : ∀ l : List α, (l.map f).flatMap g' = (l.flatMap g).map k
  | [] => rfl
  | a :: l => by rw [List.map_cons, List.flatMap_cons, List.flatMap_cons, List.map_append, h, fl_map f g k g' h l]
theorem all_less : ∀ t : Tr, (ways t).flatMap (lesses t) = t.without
  | .fin => rfl
  | .act x t => by
    have e : ((ways t).map (2 :: ·)).flatMap (lesses (.act x t)) = ((ways t).flatMap (lesses t)).map (Tr.act x) := fl_map (2 :: ·) (lesses t) (Tr.act x) (lesses (.act x t)) (fun w => by
      show (match sub t w with | some p => (List.range p.kids.length).filterMap (lessAt (.act x t) (2 :: w)) | none => []) = (match sub t w with | some p => (List.range p.kids.length).filterMap (lessAt t w) | none => []).map (Tr.act x)
      cases sub t w with
      | none => rfl
      | some p => exact fm_map (lessAt t w) (Tr.act x) _) _
    rw [show ways (.act x t) = [] :: (ways t).map (2 :: ·) from rfl, List.flatMap_cons, e, all_less t]
    rfl
  | .see x y z => by
    have e1 : ((ways y).map (2 :: ·)).flatMap (lesses (.see x y z)) = ((ways y).flatMap (lesses y)).map (fun l => Tr.see x l z) := fl_map (2 :: ·) (lesses y) (fun l => Tr.see x l z) (lesses (.see x y z)) (fun w => by
      show (match sub y w with | some p => (List.range p.kids.length).filterMap (lessAt (.see x y z) (2 :: w)) | none => []) = (match sub y w with | some p => (List.range p.kids.length).filterMap (lessAt y w) | none => []).map _
      cases sub y w with
      | none => rfl
      | some p => exact fm_map (lessAt y w) (fun l => Tr.see x l z) _) _
    have e2 : ((ways z).map (3 :: ·)).flatMap (lesses (.see x y z)) = ((ways z).flatMap (lesses z)).map (fun l => Tr.see x y l) := fl_map (3 :: ·) (lesses z) (fun l => Tr.see x y l) (lesses (.see x y z)) (fun w => by
      show (match sub z w with | some p => (List.range p.kids.length).filterMap (lessAt (.see x y z) (3 :: w)) | none => []) = (match sub z w with | some p => (List.range p.kids.length).filterMap (lessAt z w) | none => []).map _
      cases sub z w with
      | none => rfl
      | some p => exact fm_map (lessAt z w) (fun l => Tr.see x y l) _) _
    rw [show ways (.see x y z) = [] :: ((ways y).map (2 :: ·) ++ (ways z).map (3 :: ·)) from rfl, List.flatMap_cons, List.flatMap_append, e1, e2, all_less y, all_less z]
    rfl
theorem ways_sub : ∀ {t : Tr} {w : List Nat}, w ∈ ways t → ∃ p, sub t w = some p ∧ 0 < p.kids.length ∧ w.length ≤ t.deep
  | .fin, _, m => by cases m
  | .act x t, w, m => by
    rcases List.mem_cons.mp m with rfl | m
    · exact ⟨_, rfl, Nat.zero_lt_one, Nat.zero_le _⟩
    · obtain ⟨v, mv, rfl⟩ := List.mem_map.mp m
      obtain ⟨p, h1, h2, h3⟩ := ways_sub mv
      exact ⟨p, h1, h2, Nat.succ_le_succ h3⟩
  | .see x y z, w, m => by
    rcases List.mem_cons.mp m with rfl | m
    · exact ⟨_, rfl, Nat.zero_lt_two, Nat.zero_le _⟩
    · rcases List.mem_append.mp m with m | m
      · obtain ⟨v, mv, rfl⟩ := List.mem_map.mp m
        obtain ⟨p, h1, h2, h3⟩ := ways_sub mv
        exact ⟨p, h1, h2, by show v.length + 1 ≤ max y.deep z.deep + 1; omega⟩
      · obtain ⟨v, mv, rfl⟩ := List.mem_map.mp m
        obtain ⟨p, h1, h2, h3⟩ := ways_sub mv
        exact ⟨p, h1, h2, by show v.length + 1 ≤ max y.deep z.deep + 1; omega⟩
theorem lessAt_some : ∀ {t : Tr} {w : List Nat} {p : Tr} {s : Nat}, sub t w = some p → s < p.kids.length → ∃ l, lessAt t w s = some l
  | .fin, [], _, s, e, hs => by cases e; exact absurd hs (Nat.not_lt_zero _)
  | .act x t, [], _, s, e, hs => by
    cases e
    have hs : s < 1 := hs
    obtain rfl : s = 0 := by omega
    exact ⟨_, rfl⟩
  | .see x y z, [], _, s, e, hs => by
    cases e
    have hs : s < 2 := hs
    rcases s with _ | _ | s
    · exact ⟨_, rfl⟩
    · exact ⟨_, rfl⟩
    · omega
  | .act x t, 2 :: r, p, s, e, hs => by
    obtain ⟨l, hl⟩ := lessAt_some (t := t) (w := r) e hs
    exact ⟨_, by show (lessAt t r s).map _ = _; rw [hl]; rfl⟩
  | .see x y z, 2 :: r, p, s, e, hs => by
    obtain ⟨l, hl⟩ := lessAt_some (t := y) (w := r) e hs
    exact ⟨_, by show (lessAt y r s).map _ = _; rw [hl]; rfl⟩
  | .see x y z, 3 :: r, p, s, e, hs => by
    obtain ⟨l, hl⟩ := lessAt_some (t := z) (w := r) e hs
    exact ⟨_, by show (lessAt z r s).map _ = _; rw [hl]; rfl⟩
  | .fin, _ :: _, _, _, e, _ => by simp [sub] at e
  | .act _ _, (_ + 3) :: _, _, _, e, _ => by simp [sub] at e
  | .see _ _ _, (_ + 4) :: _, _, _, e, _ => by simp [sub] at e
theorem lessAt_mem {t l : Tr} {w : List Nat} {p : Tr} {s : Nat} (mw : w ∈ ways t) (hp : sub t w = some p) (hs : s < p.kids.length) (e : lessAt t w s = some l) : l ∈ t.without := by
  rw [← all_less]
  refine List.mem_flatMap.mpr ⟨w, mw, ?_⟩
  unfold lesses
  rw [hp]
  exact List.mem_filterMap.mpr ⟨s, List.mem_range.mpr hs, e⟩
theorem ways_many : ∀ t : Tr, (ways t).length ≤ t.size
  | .fin => Nat.zero_le _
  | .act x t => by
    have := ways_many t
    show ((ways t).map _).length + 1 ≤ t.size + 1
    rw [List.length_map]; omega
  | .see x y z => by
    have := ways_many y
    have := ways_many z
    show ((ways y).map _ ++ (ways z).map _).length + 1 ≤ y.size + z.size + 1
    rw [List.length_append, List.length_map, List.length_map]; omega
def waysD (ws : List (List Nat)) : List D := ws.map natsE
theorem waysD_len (l : List (List Nat)) : (waysD l).length = l.length := List.length_map _
theorem one_waysD {k : Kd} (h : k = .fz ∨ k = .ow ∨ k = .nw) (ts : List (List Nat)) : onek (.ok (k, .list (waysD ts))) = .ok (waysD ts) := by
  rcases h with rfl | rfl | rfl <;> rfl
theorem lc_ways {f : D → Out (Option D)} {k : List Nat → List Nat} (l : List (List Nat)) (hf : ∀ u ∈ l, f (natsE u) = .ok (some (natsE (k u)))) : lcGo f (waysD l) = .ok (waysD (l.map k)) := by
  unfold waysD
  rw [lcGo_map (k := fun u => some (natsE (k u))) fun u m => hf u m]
  congr 1
  rw [List.map_map]
  exact congrFun (List.filterMap_eq_map' (f := natsE ∘ k)) l
theorem rng23 {k k' : Kd} : rng2k (.ok (k, .int 2)) (.ok (k', .int 3)) = .ok [natD 2] := by
  have := k_rng2 (k := k) (k' := k') (i := 2) (j := 3) (by decide) (by decide)
  simpa using this
theorem rng24 {k k' : Kd} : rng2k (.ok (k, .int 2)) (.ok (k', .int 4)) = .ok [natD 2, natD 3] := by
  have := k_rng2 (k := k) (k' := k') (i := 2) (j := 4) (by decide) (by decide)
  simpa [List.range, List.range.loop] using this
theorem x_tn2 {a b c : D} {r : List D} : ixD (.tuple (a :: b :: c :: r)) (natD 2) = .ok (.fz, c) := x_t2
theorem x_tn3 {a b c d : D} {r : List D} : ixD (.tuple (a :: b :: c :: d :: r)) (natD 3) = .ok (.fz, d) := x_t3
theorem add_nat (a : Nat) (w : List Nat) (h : w.length ≤ 900) : binD .add (.list [natD a]) (natsE w) = .ok (.ow, natsE (a :: w)) := by
  have := o_addl (xs := [natD a]) (ys := w.map natD) (line_ge (by rw [List.length_map]; show 1 + _ ≤ 1000; omega))
  exact this
theorem add_ways (a b : List (List Nat)) (h : a.length + b.length ≤ 1000) : binD .add (.list (waysD a)) (.list (waysD b)) = .ok (.ow, .list (waysD (a ++ b))) := by
  have := o_addl (xs := waysD a) (ys := waysD b) (line_ge (by rw [waysD_len, waysD_len]; exact h))
  rw [this]
  unfold waysD
  rw [List.map_append]
section
variable {h : House} {n : Nat}
theorem lways_ok : ∀ (t : Tr) (m : Nat), t.deep < m → t.deep ≤ 100 → t.size ≤ 400 → C m 46 [t.enc] = .ok (true, .list (waysD (ways t)))
  | .fin, m + 1, _, _, _ => by
    rw [at__law_ways]
    simp [d__law_ways, Tr.enc, ways, waysD]
  | .act x t, m + 1, hm, hd, hs => by
    simp only [Tr.deep] at hm hd
    simp only [Tr.size] at hs
    have i := lways_ok t m (by omega) (by omega) (by omega)
    have hmany := ways_many t
    have L : ∀ τ : Ta, τ[2]? = some (.fz (natD 2)) → τ.length = 4 → lcGo (lcF (C m) gc0 [3] true (.cst (.bool true)) (.bin .add (.lst (.cons (.var 2) .nil)) (.var 3)) τ) (waysD (ways t)) = .ok (waysD ((ways t).map (2 :: ·))) := fun τ h2 hl =>
      lc_ways _ fun u mu => by
        have hu := (ways_sub mu).choose_spec.2.2
        match τ, hl with
        | [a, b, c, d], _ =>
          have h2 : c = .fz (natD 2) := by simpa using h2
          subst h2
          have ad := add_nat 2 u (by omega)
          rw [lcF_eq]
          simp [ad]
    have ad : binD .add (.list [.list []]) (.list (waysD ((ways t).map (2 :: ·)))) = .ok (.ow, .list (waysD (ways (.act x t)))) := add_ways [[]] ((ways t).map (2 :: ·)) (by rw [List.length_map]; show 1 + _ ≤ 1000; omega)
    rw [at__law_ways]
    simp [d__law_ways, Tr.enc, rng23, b__law_ways_0, s_fgo, fgo_nil, i, one_waysD, x_tn2]
    rw [L _ rfl rfl]
    simp [ad, fgo_nil]
  | .see x y z, m + 1, hm, hd, hs => by
    simp only [Tr.deep] at hm hd
    simp only [Tr.size] at hs
    have i1 := lways_ok y m (by omega) (by omega) (by omega)
    have i2 := lways_ok z m (by omega) (by omega) (by omega)
    have hm1 := ways_many y
    have hm2 := ways_many z
    have L : ∀ (q : Nat) (t : Tr) (τ : Ta), t.deep ≤ 100 → τ[2]? = some (.fz (natD q)) → τ.length = 4 → lcGo (lcF (C m) gc0 [3] true (.cst (.bool true)) (.bin .add (.lst (.cons (.var 2) .nil)) (.var 3)) τ) (waysD (ways t)) = .ok (waysD ((ways t).map (q :: ·))) := fun q t τ hd h2 hl =>
      lc_ways _ fun u mu => by
        have hu := (ways_sub mu).choose_spec.2.2
        match τ, hl with
        | [a, b, c, d], _ =>
          have h2 : c = .fz (natD q) := by simpa using h2
          subst h2
          have ad := add_nat q u (by omega)
          rw [lcF_eq]
          simp [ad]
    have ad1 : binD .add (.list [.list []]) (.list (waysD ((ways y).map (2 :: ·)))) = .ok (.ow, .list (waysD ([[]] ++ (ways y).map (2 :: ·)))) := add_ways [[]] ((ways y).map (2 :: ·)) (by rw [List.length_map]; show 1 + _ ≤ 1000; omega)
    have ad2 : binD .add (.list (waysD ([[]] ++ (ways y).map (2 :: ·)))) (.list (waysD ((ways z).map (3 :: ·)))) = .ok (.ow, .list (waysD (ways (.see x y z)))) := add_ways ([[]] ++ (ways y).map (2 :: ·)) ((ways z).map (3 :: ·)) (by rw [List.length_append, List.length_map, List.length_map]; show 1 + _ + _ ≤ 1000; omega)
    rw [at__law_ways]
    simp [d__law_ways, Tr.enc, rng24, b__law_ways_0, s_fgo, fgo_nil, i1, i2, one_waysD, x_tn2, x_tn3]
    rw [L 2 y _ (by omega) rfl rfl]
    simp only [bind_ok, k_b2, ad1, k_asz3, List.set_cons_succ, List.set_cons_zero, k_sq1, gs_nil, k_fk1, y_wip1, y_wip0]
    rw [s_fgo]
    simp [i2, one_waysD, x_tn3]
    rw [L 3 z _ (by omega) rfl rfl]
    simp only [List.singleton_append] at ad2
    simp [ad2, fgo_nil]
end
end F1
end VL
namespace VL
open PySem PySem.Spec L2
namespace F1
theorem sl_nats1 (a : Nat) (r : List Nat) : slD (natsE (a :: r)) (some 1) none = .ok (.ow, natsE r) := by
  show Out.ok (Kd.ow, PyData.list (cutD ((a :: r).map natD) (some ((1 : Nat) : Int)) none)) = _
  unfold cutD
  rw [HT.sIx_none, HT.sIx_nat, List.length_map, List.length_cons, Nat.min_eq_left (by omega)]
  simp only [List.map_cons, List.drop_succ_cons, List.drop_zero, Nat.add_sub_cancel]
  rw [show r.length = (r.map natD).length by rw [List.length_map], List.take_length]
  rfl
@[simp] theorem one_nats (ws : List Nat) : onek (.ok (.fz, natsE ws)) = .ok (ws.map natD) := nr rfl
section
variable {h : House} {n : Nat}
theorem part_go (W : D) : ∀ {w : List Nat} {t p : Tr}, sub t w = some p → fgo (C n) gc0 gas [2] true b__law_part_0 [2] (w.map natD) [.fz t.enc, .fz W, .un] = .ok (.nx [.fz p.enc, .fz W, .un])
  | [], t, p, e => by
    have e' : some t = some p := by cases t <;> exact e
    cases e'; rfl
  | a :: r, .fin, p, e => by simp [sub] at e
  | 2 :: r, .act x t, p, e => by
    have i := part_go W (w := r) (t := t) e
    rw [List.map_cons, s_fgo]
    simp [b__law_part_0, Tr.enc, x_tn2] at i ⊢
    exact i
  | 2 :: r, .see x y z, p, e => by
    have i := part_go W (w := r) (t := y) e
    rw [List.map_cons, s_fgo]
    simp [b__law_part_0, Tr.enc, x_tn2] at i ⊢
    exact i
  | 3 :: r, .see x y z, p, e => by
    have i := part_go W (w := r) (t := z) e
    rw [List.map_cons, s_fgo]
    simp [b__law_part_0, Tr.enc, x_tn3] at i ⊢
    exact i
  | 0 :: r, .act x t, p, e => by simp [sub] at e
  | 1 :: r, .act x t, p, e => by simp [sub] at e
  | (k + 3) :: r, .act x t, p, e => by simp [sub] at e
  | 0 :: r, .see x y z, p, e => by simp [sub] at e
  | 1 :: r, .see x y z, p, e => by simp [sub] at e
  | (k + 4) :: r, .see x y z, p, e => by simp [sub] at e
theorem lpart_ok {w : List Nat} {t p : Tr} (e : sub t w = some p) : C (n + 1) 47 [t.enc, natsE w] = .ok (false, p.enc) := by
  have i := part_go (n := n) (natsE w) e
  rw [at__law_part]
  simp [d__law_part]
  rw [i]
  simp
theorem cut3_02 {a b c : D} : slD (.tuple [a, b, c]) none (some 2) = .ok (.fz, .tuple [a, b]) := nr rfl
theorem cut3_3 {a b c : D} : slD (.tuple [a, b, c]) (some 3) none = .ok (.fz, .tuple []) := nr rfl
theorem cut4_02 {a b c d : D} : slD (.tuple [a, b, c, d]) none (some 2) = .ok (.fz, .tuple [a, b]) := nr rfl
theorem cut4_3 {a b c d : D} : slD (.tuple [a, b, c, d]) (some 3) none = .ok (.fz, .tuple [d]) := nr rfl
theorem cut4_03 {a b c d : D} : slD (.tuple [a, b, c, d]) none (some 3) = .ok (.fz, .tuple [a, b, c]) := nr rfl
theorem cut4_4 {a b c d : D} : slD (.tuple [a, b, c, d]) (some 4) none = .ok (.fz, .tuple []) := nr rfl
theorem natD2 : natD 2 = .int 2 := rfl
theorem natD3 : natD 3 = .int 3 := rfl
theorem natD0 : natD 0 = .int 0 := rfl
theorem natD1 : natD 1 = .int 1 := rfl
theorem lless_ok : ∀ {w : List Nat} {t l : Tr} {s m : Nat}, lessAt t w s = some l → w.length < m → C m 45 [t.enc, natsE w, natD s] = .ok (false, l.enc)
  | [], .act x t, l, 0, m + 1, e, _ => by
    cases e
    rw [at__law_less_at]
    simp [d__law_less_at, Tr.enc, sh_nE, eqv_nE, sh_l0, natD0]
  | [], .see x y z, l, 0, m + 1, e, _ => by
    cases e
    rw [at__law_less_at]
    simp [d__law_less_at, Tr.enc, sh_nE, eqv_nE, sh_l0, natD0]
  | [], .see x y z, l, 1, m + 1, e, _ => by
    cases e
    rw [at__law_less_at]
    simp [d__law_less_at, Tr.enc, sh_nE, eqv_nE, sh_l0, natD1]
  | 2 :: r, .act x t, l, s, m + 1, e, hm => by
    have e : (lessAt t r s).map (.act x) = some l := e
    cases q : lessAt t r s with
    | none => rw [q] at e; cases e
    | some u =>
      rw [q] at e
      cases e
      have i := lless_ok (m := m) q (by simp only [List.length_cons] at hm; omega)
      rw [at__law_less_at]
      simp [d__law_less_at, Tr.enc, sh_nE, eqv_nE, sh_l0, ix_nats0, sl_nats1, natD2, cut3_02, cut3_3, i]
  | 2 :: r, .see x y z, l, s, m + 1, e, hm => by
    have e : (lessAt y r s).map (fun l => Tr.see x l z) = some l := e
    cases q : lessAt y r s with
    | none => rw [q] at e; cases e
    | some u =>
      rw [q] at e
      cases e
      have i := lless_ok (m := m) q (by simp only [List.length_cons] at hm; omega)
      rw [at__law_less_at]
      simp [d__law_less_at, Tr.enc, sh_nE, eqv_nE, sh_l0, ix_nats0, sl_nats1, natD2, cut4_02, cut4_3, i]
  | 3 :: r, .see x y z, l, s, m + 1, e, hm => by
    have e : (lessAt z r s).map (fun l => Tr.see x y l) = some l := e
    cases q : lessAt z r s with
    | none => rw [q] at e; cases e
    | some u =>
      rw [q] at e
      cases e
      have i := lless_ok (m := m) q (by simp only [List.length_cons] at hm; omega)
      rw [at__law_less_at]
      simp [d__law_less_at, Tr.enc, sh_nE, eqv_nE, sh_l0, ix_nats0, sl_nats1, natD3, cut4_03, cut4_4, i]
  | [], .fin, l, s, m + 1, e, _ => by simp [lessAt] at e
  | _ :: _, .fin, l, s, m + 1, e, _ => by simp [lessAt] at e
  | [], .act x t, l, s + 1, m + 1, e, _ => by simp [lessAt] at e
  | [], .see x y z, l, s + 2, m + 1, e, _ => by simp [lessAt] at e
  | 0 :: r, .act x t, l, s, m + 1, e, _ => by simp [lessAt] at e
  | 1 :: r, .act x t, l, s, m + 1, e, _ => by simp [lessAt] at e
  | (k + 3) :: r, .act x t, l, s, m + 1, e, _ => by simp [lessAt] at e
  | 0 :: r, .see x y z, l, s, m + 1, e, _ => by simp [lessAt] at e
  | 1 :: r, .see x y z, l, s, m + 1, e, _ => by simp [lessAt] at e
  | (k + 4) :: r, .see x y z, l, s, m + 1, e, _ => by simp [lessAt] at e
/-- the walk along one way's lesses, along all ways -/
theorem walk_sides {h : House} {ws : List Nat} (f : Nat → Option Tr) : ∀ ks : List Nat, walkE (fun (_ : Unit) (s : Nat) => match f s with | some l => if wellT h l ws = true then .inr (false, l.enc) else .inl () | none => .inl ()) ks () =
    match (ks.filterMap f).find? (fun l => wellT h l ws) with | some l => .inr (false, l.enc) | none => .inl ()
  | [] => rfl
  | k :: ks => by
    unfold walkE
    cases hf : f k with
    | none => rw [List.filterMap_cons_none hf]; exact walk_sides f ks
    | some l =>
      rw [List.filterMap_cons_some hf, List.find?_cons]
      cases hw : wellT h l ws with
      | true => simp [hw]
      | false =>
        simp only [hw, Bool.false_eq_true, if_false]
        exact walk_sides f ks
theorem walk_ways {h : House} {ws : List Nat} (f : List Nat → List Tr) : ∀ vs : List (List Nat), walkE (fun (_ : Unit) (v : List Nat) => match (f v).find? (fun l => wellT h l ws) with | some l => .inr (false, l.enc) | none => .inl ()) vs () =
    match (vs.flatMap f).find? (fun l => wellT h l ws) with | some l => .inr (false, l.enc) | none => .inl ()
  | [] => rfl
  | v :: vs => by
    unfold walkE
    rw [List.flatMap_cons, List.find?_append]
    cases hf : (f v).find? (fun l => wellT h l ws) with
    | some l => rfl
    | none => exact walk_ways f vs
theorem lfirst_lessT_ok (g : GL n h) {t : Tr} {ws : List Nat} (o : TrOk h 400 t) (hw : ∀ w ∈ ws, w < 2 ^ h.facts.length) : C (n + 63) 48 [houseE h, crowdE ws, t.enc] = .ok (false, optT (shorterT h ws t)) := by
  have inner : ∀ v ∈ ways t, ∀ p, sub t v = some p → _ := fun v mv p hp => fgo_walk (cl := C (n + 62)) (gc := gc0) (g := gas) (vs := [4]) (one := true) (b := b__law_first_less_48_0) (ks := [4, 5]) (enc := natD)
    (pack := fun (_ : Unit) => [.fz (houseE h), .fz (crowdE ws), .fz t.enc, .fz (natsE v), .un, .un]) (step := fun (_ : Unit) (s : Nat) => match lessAt t v s with | some l => if wellT h l ws = true then .inr (false, l.enc) else .inl () | none => .inl ()) (fun _ => True) (l := List.range p.kids.length) (x := ()) (fun s hm u ds _ => by
      have hs := List.mem_range.mp hm
      obtain ⟨l, hl⟩ := lessAt_some hp hs
      have ol := o.less (lessAt_mem mv hp hs hl)
      have hv : v.length ≤ 60 := by
        obtain ⟨_, _, _, q⟩ := ways_sub mv
        have := o.deep
        omega
      have e1 := lless_ok (m := n + 62) hl (by omega)
      have e2 := ltree_well_ok g l 60 ws ol.ok ol.deep hw
      rw [show n + 60 + 2 = n + 62 by omega] at e2
      cases hww : wellT h l ws
      · rw [hww] at e2
        simp only [hl, hww, Bool.false_eq_true, if_false]
        refine ⟨?_, trivial⟩
        rw [s_fgo]
        simp [b__law_first_less_48_0, e1, e2]
      · rw [hww] at e2
        simp only [hl, hww, if_true]
        rw [s_fgo]
        simp [b__law_first_less_48_0, e1, e2]) trivial
  have L := fgo_walk (cl := C (n + 62)) (gc := gc0) (g := gas) (vs := [3]) (one := true) (b := b__law_first_less_48_1) (ks := [3, 4, 5]) (enc := natsE)
    (pack := fun (_ : Unit) => [.fz (houseE h), .fz (crowdE ws), .fz t.enc, .un, .un, .un]) (step := fun (_ : Unit) (v : List Nat) => match (lesses t v).find? (fun l => wellT h l ws) with | some l => .inr (false, l.enc) | none => .inl ()) (fun _ => True) (l := ways t) (x := ()) (fun v hm u ds _ => by
      obtain ⟨p, hp, hk, _⟩ := ways_sub hm
      have i := inner v hm p hp
      rw [walk_sides] at i
      have el : (List.range p.kids.length).filterMap (lessAt t v) = lesses t v := by unfold lesses; rw [hp]
      rw [el] at i
      have lp := lpart_ok (n := n + 61) hp
      have hlen : bik .len (.ok (.pk, .list [p.enc])) = .ok (.fz, .int ((p.kids.length : Int) + 2)) := by
        cases p with
        | fin => exact absurd hk (Nat.lt_irrefl 0)
        | act x t => rfl
        | see x y z => rfl
      have hlen' : biD .len [p.enc] = .ok (.fz, .int ((p.kids.length : Int) + 2)) := hlen
      have hsub : (p.kids.length : Int) + 2 - 2 = (p.kids.length : Int) := by omega
      have hkl : p.kids.length ≤ 1000 := by cases p <;> simp [Tr.kids]
      cases hfind : (lesses t v).find? (fun l => wellT h l ws) with
      | none =>
        rw [hfind] at i
        simp only
        refine ⟨?_, trivial⟩
        rw [s_fgo]
        simp [b__law_first_less_48_1, lp, hlen', hsub, hkl]
        rw [i]
        simp [outE]
      | some l =>
        rw [hfind] at i
        simp only
        rw [s_fgo]
        simp [b__law_first_less_48_1, lp, hlen', hsub, hkl]
        rw [i]
        simp [outE]) trivial
  rw [walk_ways, all_less] at L
  have w := lways_ok t (n + 62) (by have := o.deep; omega) (by have := o.deep; omega) o.size
  rw [at__law_first_less_48]
  simp [d__law_first_less_48, w, one_waysD]
  rw [show waysD (ways t) = (ways t).map natsE from rfl, L]
  unfold shorterT
  cases t.without.find? fun l => wellT h l ws <;> simp [outE, optT]
def ltlessT (h : House) (ws : List Nat) (t : Tr) (o : Option Tr) : Ta := [.fz (houseE h), .fz (crowdE ws), .fz t.enc, .fz (optT o)]
theorem ltmade_go (g : GL n h) {ws : List Nat} (hw : ∀ w ∈ ws, w < 2 ^ h.facts.length) : ∀ (k m : Nat) (t : Tr), TrOk h 400 t → t.size ≤ k → k < m →
    wgo (C (n + 63)) gc0 gas (.cmp .notN (.var 3) (.cst .none)) b__law_made_less_0 [] m (ltlessT h ws t (shorterT h ws t)) = .ok (.nx (ltlessT h ws (madeT h ws k t) none))
  | k, m + 1, t, o, hk, hm => by
    rw [s_wgo]
    cases hs : shorterT h ws t with
    | none =>
      have e : madeT h ws k t = t := by
        cases k with
        | zero => rfl
        | succ k => unfold madeT; rw [hs]
      rw [e]
      simp [ltlessT, optT]
    | some l =>
      obtain ⟨m1, m2⟩ := shorterT_some hs
      have hsz := without_size m1
      cases k with
      | zero => have := t.size_pos; omega
      | succ k =>
        have i := ltmade_go g hw k m l (o.less m1) (by omega) (by omega)
        have s := lfirst_lessT_ok g (o.less m1) hw
        have e : madeT h ws (k + 1) t = madeT h ws k l := by
          show (match shorterT h ws t with | none => t | some l => madeT h ws k l) = _
          rw [hs]
        rw [e, ← i]
        simp [ltlessT, optT, notN_tree, b__law_made_less_0, s]
theorem lmade_lessT_ok (g : GL n h) {t : Tr} {ws : List Nat} (o : TrOk h 400 t) (hw : ∀ w ∈ ws, w < 2 ^ h.facts.length) : C (n + 64) 49 [houseE h, crowdE ws, t.enc] = .ok (false, (madeT h ws t.size t).enc) := by
  have s := lfirst_lessT_ok g o hw
  have G := ltmade_go g hw t.size 1000 t o (Nat.le_refl _) (by have := o.size; omega)
  rw [at__law_made_less]
  simp [d__law_made_less, s]
  simp [ltlessT] at G
  rw [show gas = 1000 from rfl] at G ⊢
  rw [G]
  simp
end
end F1
end VL
namespace VL
open PySem PySem.Spec L2
namespace F1
def repk (x y : OE) : OE := x.bind fun x => match x with | (.fz, .list xs) => if xs.length ≤ line then y.bind fun y => (match y.2 with | .int k => if True ∧ -(2 ^ 63) ≤ k ∧ k < 2 ^ 63 ∧ xs.length * k.toNat ≤ line then .ok (.ow, .list (repL xs k)) else .stuck | _ => .stuck) else .stuck | _ => .stuck
@[simp] theorem e_rep (cl : Nat → List D → Out (Bool × D)) (gc : Nat → D) (r b : E) (τ : Ta) : ev cl gc (.rep r b) τ = repk (ev cl gc r τ) (ev cl gc b τ) := nr rfl
@[simp] theorem k_rep1 {c : D} {k : Kd} : repk (.ok (.fz, .list [c])) (.ok (k, .int 1)) = .ok (.ow, .list [c]) := nr rfl
@[simp] theorem k_rep0 {c : D} {k : Kd} : repk (.ok (.fz, .list [c])) (.ok (k, .int 0)) = .ok (.ow, .list []) := nr rfl
/-! ### trees as they can be walked -/
def canT (h : House) : Tr → List Nat → Bool
  | .fin, _ => true
  | .act x t, ws => match namedIn h.deeds x with
    | none => false
    | some d => (failing h.facts d.need ws).isNone && canT h t (behind h.facts d.ways ws)
  | .see x y z, ws => match lookIn h.looks x with
    | none => false
    | some l => (failing h.facts l.need ws).isNone && (canT h y (yesOf h.facts l.seen ws) && canT h z (noOf h.facts l.seen ws))
def endsT (h : House) : Tr → List Nat → List (List Nat)
  | .fin, ws => if ws.isEmpty then [] else [ws]
  | .act x t, ws => match namedIn h.deeds x with
    | none => []
    | some d => endsT h t (behind h.facts d.ways ws)
  | .see x y z, ws => match lookIn h.looks x with
    | none => []
    | some l => endsT h y (yesOf h.facts l.seen ws) ++ endsT h z (noOf h.facts l.seen ws)
theorem wellT_wish {h : House} {w : Cnd} : ∀ (t : Tr) (ws : List Nat), canT h t ws = true → wellT { h with wish := w } t ws = (endsT h t ws).all fun c => (failing h.facts w c).isNone
  | .fin, ws, _ => by
    show (failing h.facts w ws).isNone = (if ws.isEmpty then [] else [ws] : List (List Nat)).all _
    cases ws with
    | nil => rfl
    | cons a r =>
      show _ = ([a :: r] : List (List Nat)).all _
      simp
  | .act x t, ws, hc => by
    unfold canT at hc
    cases hd : namedIn h.deeds x with
    | none => rw [hd] at hc; cases hc
    | some d =>
      rw [hd] at hc
      have hc : ((failing h.facts d.need ws).isNone && canT h t (behind h.facts d.ways ws)) = true := hc
      rw [Bool.and_eq_true] at hc
      have i := wellT_wish (w := w) t (behind h.facts d.ways ws) hc.2
      have e1 : wellT { h with wish := w } (.act x t) ws = ((failing h.facts d.need ws).isNone && wellT { h with wish := w } t (behind h.facts d.ways ws)) := by
        show (match namedIn h.deeds x with | none => true | some d => _) = _
        rw [hd]
      have e2 : endsT h (.act x t) ws = endsT h t (behind h.facts d.ways ws) := by
        show (match namedIn h.deeds x with | none => [] | some d => _) = _
        rw [hd]
      rw [e1, e2, hc.1, i, Bool.true_and]
  | .see x y z, ws, hc => by
    unfold canT at hc
    cases hd : lookIn h.looks x with
    | none => rw [hd] at hc; cases hc
    | some l =>
      rw [hd] at hc
      have hc : ((failing h.facts l.need ws).isNone && (canT h y (yesOf h.facts l.seen ws) && canT h z (noOf h.facts l.seen ws))) = true := hc
      rw [Bool.and_eq_true, Bool.and_eq_true] at hc
      have i1 := wellT_wish (w := w) y (yesOf h.facts l.seen ws) hc.2.1
      have i2 := wellT_wish (w := w) z (noOf h.facts l.seen ws) hc.2.2
      have e1 : wellT { h with wish := w } (.see x y z) ws = ((failing h.facts l.need ws).isNone && (wellT { h with wish := w } y (yesOf h.facts l.seen ws) && wellT { h with wish := w } z (noOf h.facts l.seen ws))) := by
        show (match lookIn h.looks x with | none => true | some d => _) = _
        rw [hd]
      have e2 : endsT h (.see x y z) ws = endsT h y (yesOf h.facts l.seen ws) ++ endsT h z (noOf h.facts l.seen ws) := by
        show (match lookIn h.looks x with | none => [] | some d => _) = _
        rw [hd]
      rw [e1, e2, hc.1, i1, i2, Bool.true_and, List.all_append]
/-! ### a house as the law draws one -/
theorem named_self : ∀ {ds : List Deed} {d : Deed}, (ds.map Deed.name).Nodup → d ∈ ds → namedIn ds d.name = some d
  | e :: ds, d, hn, hm => by
    rw [List.map_cons, List.nodup_cons] at hn
    unfold namedIn
    rw [List.find?_cons]
    rcases List.mem_cons.mp hm with rfl | hm
    · rw [beq_self_eq_true]
    · have : (e.name == d.name) = false := beq_false_of_ne fun z => hn.1 (by rw [z]; exact List.mem_map.mpr ⟨d, hm, rfl⟩)
      rw [this]
      exact named_self hn.2 hm
theorem look_self : ∀ {ds : List Look} {d : Look}, (ds.map Look.name).Nodup → d ∈ ds → lookIn ds d.name = some d
  | e :: ds, d, hn, hm => by
    rw [List.map_cons, List.nodup_cons] at hn
    unfold lookIn
    rw [List.find?_cons]
    rcases List.mem_cons.mp hm with rfl | hm
    · rw [beq_self_eq_true]
    · have : (e.name == d.name) = false := beq_false_of_ne fun z => hn.1 (by rw [z]; exact List.mem_map.mpr ⟨d, hm, rfl⟩)
      rw [this]
      exact look_self hn.2 hm
section
variable {h : House} {n : Nat}
theorem Drawn.dnd (d : Drawn h) : (h.deeds.map Deed.name).Nodup := by rw [d.dnames]; exact names4_nd.sublist (List.take_sublist ..)
theorem Drawn.lnd (d : Drawn h) : (h.looks.map Look.name).Nodup := by
  obtain ⟨m, _, e⟩ := d.lnames
  rw [e]; exact names3_nd.sublist (List.take_sublist ..)
theorem drawn_gl (d : Drawn h) {w : Cnd} (hw : w.on h.facts) {m : Nat} (hd : w.dep < m) (hm : 4 ≤ m) : GL m { h with wish := w } :=
  ⟨drawn_good d hw hd hm, fun l hl => ⟨⟨(d.looks l hl).1.1, by have := (d.looks l hl).1.2; omega⟩, ⟨(d.looks l hl).2.1.1, by have := (d.looks l hl).2.1.2; omega⟩, (d.looks l hl).2.2⟩⟩
theorem drawn_gl0 (d : Drawn h) (hw : h.wish = .yes) {m : Nat} (hm : 4 ≤ m) : GL m h := by
  have := drawn_gl d (w := .yes) trivial (m := m) (by show 0 < m; omega) hm
  rw [← hw] at this
  exact this
/-- a list of numbers, one drawn by a remainder -/
def Ints (X : D) (N : Nat) : Prop := ∃ xs : List Int, X = .list (xs.map .int) ∧ xs.length = N
theorem ints_len {X : D} {N : Nat} (hX : Ints X N) : biD .len [X] = .ok (.fz, .int (N : Nat)) := by
  obtain ⟨xs, rfl, hl⟩ := hX
  show Out.ok (Kd.fz, PyData.int ((xs.map PyData.int).length : Nat)) = _
  rw [List.length_map, hl]
theorem ints_ix {X : D} {N : Nat} (hX : Ints X N) {k : Nat} (hk : k < N) : ∃ a, ixD X (.int (k : Int)) = .ok (.fz, .int a) := by
  obtain ⟨xs, rfl, hl⟩ := hX
  have hk2 : k < xs.length := by omega
  exact ⟨xs[k], x_l (atI_nat (a := PyData.int xs[k]) (by rw [List.getElem?_map, List.getElem?_eq_getElem hk2]; rfl))⟩
theorem ints_mod {X : D} {N : Nat} (hX : Ints X N) (hN : 0 < N) (i : Int) : ∃ a, ixD X (.int (i % (N : Int))) = .ok (.fz, .int a) := by
  obtain ⟨k, hk⟩ : ∃ k : Nat, i % (N : Int) = (k : Int) := ⟨(i % (N : Int)).toNat, by rw [Int.toNat_of_nonneg (Int.emod_nonneg _ (by omega))]⟩
  have hlt : i % (N : Int) < N := Int.emod_lt_of_pos _ (by omega)
  rw [hk]
  exact ints_ix hX (by omega)
theorem ix_look {ds : List Look} (hne : ds ≠ []) (i : Int) : ∃ d, d ∈ ds ∧ ixD (looksE ds) (.int (i % (ds.length : Int))) = .ok (.fz, lookE d) := by
  have hl : 0 < ds.length := List.length_pos_iff.mpr hne
  obtain ⟨k, hk⟩ : ∃ k : Nat, i % (ds.length : Int) = (k : Int) := ⟨(i % (ds.length : Int)).toNat, by rw [Int.toNat_of_nonneg (Int.emod_nonneg _ (by omega))]⟩
  have hlt : i % (ds.length : Int) < ds.length := Int.emod_lt_of_pos _ (by omega)
  have hk2 : k < ds.length := by omega
  refine ⟨ds[k], List.getElem_mem hk2, ?_⟩
  rw [hk]
  exact x_l (atI_nat (a := lookE ds[k]) (by rw [List.getElem?_map, List.getElem?_eq_getElem hk2]; rfl))
theorem len_looks (ds : List Look) : biD .len [looksE ds] = .ok (.fz, .int (ds.length : Nat)) := by
  show Out.ok (Kd.fz, PyData.int ((ds.map lookE).length : Nat)) = _
  rw [List.length_map]
theorem sh_looks (d : Drawn h) : SeqAt.shaped (looksE h.looks) = true := by
  refine Lay.sh (k := 10) (lay_list (k := 9) fun x hx => ?_) (by decide)
  obtain ⟨l, hl, rfl⟩ := List.mem_map.mp hx
  refine lay_tup (k := 8) fun y hy => ?_
  simp only [List.mem_cons, List.not_mem_nil, or_false] at hy
  obtain ⟨o1, o2, o3⟩ := d.looks l hl
  rcases hy with rfl | rfl | rfl
  · exact lay_str o3
  · exact (lay_small d.sh o1).mono (by decide)
  · exact (lay_small d.sh o2).mono (by decide)
theorem eqv_looks (ds : List Look) : PyData.eqv (looksE ds) (.list []) = ds.isEmpty := by cases ds <;> rfl
def crowdsE (cs : List (List Nat)) : List D := cs.map crowdE
theorem rep1 (c : D) : repL [c] 1 = [c] := rfl
theorem rep0 (c : D) : repL [c] 0 = [] := rfl
/-- how many crowds a walk of so many deeds and looks ends in -/
theorem ends_few : ∀ (t : Tr) (ws : List Nat), (endsT h t ws).length ≤ t.size
  | .fin, ws => by
    show (if ws.isEmpty then [] else [ws] : List (List Nat)).length ≤ 1
    split <;> simp
  | .act x t, ws => by
    show (match namedIn h.deeds x with | none => [] | some d => _ : List (List Nat)).length ≤ t.size + 1
    cases namedIn h.deeds x with
    | none => exact Nat.zero_le _
    | some d => exact Nat.le_succ_of_le (ends_few t _)
  | .see x y z, ws => by
    show (match lookIn h.looks x with | none => [] | some d => _ : List (List Nat)).length ≤ y.size + z.size + 1
    cases lookIn h.looks x with
    | none => exact Nat.zero_le _
    | some l =>
      have := ends_few y (yesOf h.facts l.seen ws)
      have := ends_few z (noOf h.facts l.seen ws)
      show (_ ++ _ : List (List Nat)).length ≤ _
      rw [List.length_append]; omega
theorem grown_ok (d : Drawn h) (hwish : h.wish = .yes) {X : D} {N : Nat} (hX : Ints X N) (hN : 0 < N) : ∀ (deep m : Nat) (ws : List Nat) (at_ : Int), deep ≤ 8 → (∀ w ∈ ws, w < 2 ^ h.facts.length) → deep < m →
    ∃ t : Tr, t.ok h ∧ t.deep ≤ deep ∧ t.size + 1 ≤ 2 ^ (deep + 1) ∧ canT h t ws = true ∧ C (n + 5 + m) 43 [houseE h, crowdE ws, X, .int at_, .int (deep : Int)] = .ok (false, .tuple [t.enc, .list (crowdsE (endsT h t ws))]) := by
  intro deep
  induction deep with
  | zero =>
    intro m ws at_ _ hw hm
    obtain ⟨m, rfl⟩ : ∃ k, m = k + 1 := ⟨m - 1, by omega⟩
    obtain ⟨a, ea⟩ := ints_mod hX hN at_
    have hl := ints_len hX
    refine ⟨.fin, trivial, Nat.le_refl _, by decide, rfl, ?_⟩
    have hNi : (0 : Int) < (N : Int) := by omega
    rw [show n + 5 + (m + 1) = (n + 5 + m) + 1 by omega, at__law_grown]
    cases hem : ws.isEmpty <;> simp [d__law_grown, hl, ea, hN, hNi, sh_cr, eqv_cr, sh_t0, hem, rep1, rep0, Tr.enc, endsT, crowdsE]
  | succ deep ih =>
    intro m ws at_ hd8 hw hm
    obtain ⟨m, rfl⟩ : ∃ k, m = k + 1 := ⟨m - 1, by omega⟩
    obtain ⟨a, ea⟩ := ints_mod hX hN at_
    have hl := ints_len hX
    have hNi : (0 : Int) < (N : Int) := by omega
    have fin : C (n + 5 + (m + 1)) 43 [houseE h, crowdE ws, X, .int at_, .int ((deep + 1 : Nat) : Int)] = .ok (false, .tuple [Tr.fin.enc, .list (crowdsE (endsT h .fin ws))]) → ∃ t : Tr, t.ok h ∧ t.deep ≤ deep + 1 ∧ t.size + 1 ≤ 2 ^ (deep + 1 + 1) ∧ canT h t ws = true ∧ C (n + 5 + (m + 1)) 43 [houseE h, crowdE ws, X, .int at_, .int ((deep + 1 : Nat) : Int)] = .ok (false, .tuple [t.enc, .list (crowdsE (endsT h t ws))]) := fun e =>
      ⟨.fin, trivial, Nat.zero_le _, by show 2 ≤ 2 ^ (deep + 1 + 1); have := Nat.two_pow_pos deep; rw [Nat.pow_succ, Nat.pow_succ]; omega, rfl, e⟩
    have gl := drawn_gl0 d hwish (m := n + 5) (by omega)
    rw [show n + 5 + (m + 1) = (n + 5 + m) + 1 by omega] at fin ⊢
    have hdz : ((((deep + 1 : Nat) : Int)) == 0) = false := by simp; omega
    have hdz2 : ((deep : Int) + 1 == 0) = false := by simp; omega
    have hdm : (((deep + 1 : Nat) : Int)) - 1 = (deep : Int) := by omega
    have hdm2 : ((deep : Int) + 1 - 1) = (deep : Int) := by omega
    have hdl : (0 : Int) < h.deeds.length := by have := List.length_pos_iff.mpr d.some; omega
    have hdl2 : 0 < h.deeds.length := by omega
    by_cases hk0 : a % 5 = 0
    · refine fin ?_
      rw [at__law_grown]
      cases hem : ws.isEmpty <;> simp [d__law_grown, hl, ea, hN, hNi, sh_cr, eqv_cr, sh_t0, hem, rep1, rep0, Tr.enc, endsT, crowdsE, hdz, hdz2, hk0]
    · have hk0b : (a % 5 == 0) = false := by simpa using hk0
      by_cases hact : a % 5 < 3 ∨ h.looks = []
      · -- a deed
        obtain ⟨e, em, ee⟩ := ix_deed d.some (a / 5)
        have c := lcan_ok (h := h) (n := n + 5 + m - 1) (ws := ws) gl.g.few (gl.g.need e em).1 (by have := (gl.g.need e em).2; omega)
        rw [show n + 5 + m - 1 + 1 = n + 5 + m by omega] at c
        have b := lbehind_ok (n := n + 5 + m - 1) gl.g.few gl.g.nd (fun way my => (gl.g.ways e em way my).mono (by omega)) (ws := ws) hw (.str e.name) e.need.enc
        rw [show n + 5 + m - 1 + 1 = n + 5 + m by omega] at b
        have b' : C (n + 5 + m) 17 [sD h.facts, deedE e, crowdE ws] = .ok (false, crowdE (behind h.facts e.ways ws)) := b
        have hcond : (decide (a % 5 < 3) = true) ∨ (decide (a % 5 < 3) = false ∧ h.looks = []) := by
          by_cases q : a % 5 < 3
          · exact .inl (decide_eq_true q)
          · exact .inr ⟨decide_eq_false q, hact.resolve_left q⟩
        cases hf : (failing h.facts e.need ws).isNone with
        | false =>
          rw [hf] at c
          refine fin ?_
          rw [at__law_grown]
          rcases hcond with q | ⟨q, q2⟩
          · have q' : a % 5 < 3 := of_decide_eq_true q
            cases hem : ws.isEmpty <;> simp [d__law_grown, hl, ea, hN, hNi, sh_cr, eqv_cr, sh_t0, sh_l0, hem, rep1, rep0, Tr.enc, endsT, crowdsE, hdz, hdz2, hk0b, q', len_deeds, hdl, hdl2, ee, c]
          · have q' : ¬ a % 5 < 3 := of_decide_eq_false q
            have s1 := sh_looks d
            have s2 := eqv_looks h.looks
            rw [q2] at s1 s2
            cases hem : ws.isEmpty <;> simp [d__law_grown, hl, ea, hN, hNi, sh_cr, eqv_cr, sh_t0, sh_l0, hem, rep1, rep0, Tr.enc, endsT, crowdsE, hdz, hdz2, hk0b, q', len_deeds, hdl, hdl2, ee, c, s1, s2, q2]
        | true =>
          rw [hf] at c
          obtain ⟨t, t1, t2, t3, t4, t5⟩ := ih m (behind h.facts e.ways ws) (2 * at_ + 1) (by omega) (behind_lt (gl.g.ways e em) hw) (by omega)
          have hn := named_self d.dnd em
          have ends : endsT h (.act e.name t) ws = endsT h t (behind h.facts e.ways ws) := by
            show (match namedIn h.deeds e.name with | none => [] | some d => _) = _
            rw [hn]
          refine ⟨.act e.name t, ⟨(d.deeds e em).2.2.1, ⟨e, hn⟩, t1⟩, Nat.succ_le_succ t2, ?_, ?_, ?_⟩
          · show t.size + 1 + 1 ≤ 2 ^ (deep + 1 + 1)
            have := t.size_pos
            rw [Nat.pow_succ]
            omega
          · show (match namedIn h.deeds e.name with | none => false | some d => _) = true
            rw [hn]
            show ((failing h.facts e.need ws).isNone && canT h t _) = true
            rw [hf, t4]; rfl
          · rw [ends, at__law_grown]
            rcases hcond with q | ⟨q, q2⟩
            · have q' : a % 5 < 3 := of_decide_eq_true q
              simp [d__law_grown, hl, ea, hN, hNi, sh_cr, eqv_cr, sh_t0, sh_l0, Tr.enc, hdz, hdz2, hdm, hdm2, hk0b, q', len_deeds, hdl, hdl2, ee, c, b', o_mulB, t5]
            · have q' : ¬ a % 5 < 3 := of_decide_eq_false q
              have s1 := sh_looks d
              have s2 := eqv_looks h.looks
              rw [q2] at s1 s2
              simp [d__law_grown, hl, ea, hN, hNi, sh_cr, eqv_cr, sh_t0, sh_l0, Tr.enc, hdz, hdz2, hdm, hdm2, hk0b, q', len_deeds, hdl, hdl2, ee, c, b', o_mulB, t5, s1, s2, q2]
      · -- a look
        have q' : ¬ a % 5 < 3 := fun z => hact (.inl z)
        have hln : h.looks ≠ [] := fun z => hact (.inr z)
        have hlb : h.looks.isEmpty = false := by
          cases hq : h.looks with
          | nil => exact absurd hq hln
          | cons => rfl
        have hll : (0 : Int) < h.looks.length := by have := List.length_pos_iff.mpr hln; omega
        have hll2 : 0 < h.looks.length := by omega
        obtain ⟨e, em, ee⟩ := ix_look hln (a / 5)
        have c := lcan_ok (h := h) (n := n + 5 + m - 1) (ws := ws) gl.g.few (gl.looks e em).1.1 (by have := (gl.looks e em).1.2; omega)
        rw [show n + 5 + m - 1 + 1 = n + 5 + m by omega] at c
        have b := lsides_ok (h := h) (n := n + 5 + m - 1) (l := e) (ws := ws) gl.g.few (gl.looks e em).2.1.1 (by have := (gl.looks e em).2.1.2; omega)
        rw [show n + 5 + m - 1 + 1 = n + 5 + m by omega] at b
        have s1 := sh_looks d
        have s2 := eqv_looks h.looks
        rw [hlb] at s2
        cases hf : (failing h.facts e.need ws).isNone with
        | false =>
          rw [hf] at c
          refine fin ?_
          rw [at__law_grown]
          cases hem : ws.isEmpty <;> simp [d__law_grown, hl, ea, hN, hNi, sh_cr, eqv_cr, sh_t0, sh_l0, hem, rep1, rep0, Tr.enc, endsT, crowdsE, hdz, hdz2, hk0b, q', len_looks, hll, hll2, ee, c, s1, s2, hlb]
        | true =>
          rw [hf] at c
          obtain ⟨y, y1, y2, y3, y4, y5⟩ := ih m (yesOf h.facts e.seen ws) (2 * at_ + 1) (by omega) (fun w q => hw w (List.mem_filter.mp q).1) (by omega)
          obtain ⟨z, z1, z2, z3, z4, z5⟩ := ih m (noOf h.facts e.seen ws) (2 * at_ + 2) (by omega) (fun w q => hw w (List.mem_filter.mp q).1) (by omega)
          have hn := look_self d.lnd em
          have ends : endsT h (.see e.name y z) ws = endsT h y (yesOf h.facts e.seen ws) ++ endsT h z (noOf h.facts e.seen ws) := by
            show (match lookIn h.looks e.name with | none => [] | some d => _) = _
            rw [hn]
          have hp : 2 ^ (deep + 1) ≤ 2 ^ 8 := Nat.pow_le_pow_right (by decide) (by omega)
          have hpl : (crowdsE (endsT h y (yesOf h.facts e.seen ws))).length + (crowdsE (endsT h z (noOf h.facts e.seen ws))).length ≤ line := by
            unfold crowdsE
            rw [List.length_map, List.length_map]
            have := ends_few (h := h) y (yesOf h.facts e.seen ws)
            have := ends_few (h := h) z (noOf h.facts e.seen ws)
            exact line_ge (by omega)
          refine ⟨.see e.name y z, ⟨(d.looks e em).2.2, ⟨e, hn⟩, y1, z1⟩, by show max y.deep z.deep + 1 ≤ deep + 1; omega, ?_, ?_, ?_⟩
          · show y.size + z.size + 1 + 1 ≤ 2 ^ (deep + 1 + 1)
            rw [Nat.pow_succ]
            omega
          · show (match lookIn h.looks e.name with | none => false | some d => _) = true
            rw [hn]
            show ((failing h.facts e.need ws).isNone && (canT h y _ && canT h z _)) = true
            rw [hf, y4, z4]; rfl
          · rw [ends, at__law_grown]
            simp [d__law_grown, hl, ea, hN, hNi, sh_cr, eqv_cr, sh_t0, sh_l0, Tr.enc, hdz, hdz2, hdm, hdm2, hk0b, q', len_looks, hll, hll2, ee, c, b, o_mulB, y5, z5, s1, s2, hpl]
            simp [crowdsE]
end
end F1
end VL
namespace VL
open PySem PySem.Spec L2
namespace F1
section
variable {h : House} {n : Nat}
/-! ### alike -/
theorem sh_true : SeqAt.shaped (.bool true) = true := rfl
theorem alike_tup {xs : List D} (hl : xs.length ≤ 1000) (hx : ∀ x ∈ xs, C n 24 [x, x] = .ok (false, .bool true)) : C (n + 1) 24 [.tuple xs, .tuple xs] = .ok (false, .bool true) := by
  have hlc : lcGo (lcF (C n) gc0 [2] true (.one (.not (.call 24 (.cons (.ix (.var 0) (.var 2)) (.cons (.ix (.var 1) (.var 2)) .nil))))) (.var 2) [.fz (.tuple xs), .fz (.tuple xs), .un]) ((List.range xs.length).map natD) = .ok [] := by
    rw [lcGo_map (k := fun _ => none) fun k hk => ?_]
    · rw [List.filterMap_eq_nil_iff.mpr fun _ _ => rfl]
    · have hk2 := List.mem_range.mp hk
      have e := hx xs[k] (List.getElem_mem hk2)
      have i : ixD (.tuple xs) (natD k) = .ok (.fz, xs[k]) := x_t (atI_nat (List.getElem?_eq_getElem hk2))
      rw [lcF_eq]
      simp [i, e]
  have s1 : isTy .str (.tuple xs) = false := rfl
  rw [at__law_alike]
  simp [d__law_alike, s1, hl, hlc, sh_l0, eq_l0, sh_true]
theorem alike_tree : ∀ (t : Tr) (m : Nat), t.ok h → t.deep + 2 ≤ m → C m 24 [t.enc, t.enc] = .ok (false, .bool true)
  | .fin, m + 1, _, hm => alike_tup (by decide) fun x mx => by
    obtain ⟨m, rfl⟩ : ∃ k, m = k + 1 := ⟨m - 1, by simp only [Tr.deep] at hm; omega⟩
    rw [List.mem_singleton.mp mx]
    exact alike_str sh_end
  | .act x t, m + 1, o, hm => by
    simp only [Tr.deep] at hm
    have i := alike_tree t m o.2.2 (by omega)
    obtain ⟨m, rfl⟩ : ∃ k, m = k + 1 := ⟨m - 1, by omega⟩
    refine alike_tup (show 3 ≤ 1000 by decide) fun y my => ?_
    simp only [List.mem_cons, List.not_mem_nil, or_false] at my
    rcases my with rfl | rfl | rfl
    · exact alike_str sh_do
    · exact alike_str o.1
    · exact i
  | .see x y z, m + 1, o, hm => by
    simp only [Tr.deep] at hm
    have i1 := alike_tree y m o.2.2.1 (by omega)
    have i2 := alike_tree z m o.2.2.2 (by omega)
    obtain ⟨m, rfl⟩ : ∃ k, m = k + 1 := ⟨m - 1, by omega⟩
    refine alike_tup (show 4 ≤ 1000 by decide) fun v mv => ?_
    simp only [List.mem_cons, List.not_mem_nil, or_false] at mv
    rcases mv with rfl | rfl | rfl | rfl
    · exact alike_str sh_see
    · exact alike_str o.1
    · exact i1
    · exact i2
/-! ### what is known at some ends -/
theorem one_crowds (cs : List (List Nat)) : onek (.ok (.fz, .list (crowdsE cs))) = .ok (cs.map crowdE) := rfl
theorem known2_ok {fs : List Str} (hl : fs.length ≤ 5) {cs : List (List Nat)} (hw : cs.flatten.length ≤ 10000) : C (n + 1) 22 [sD fs, .list (crowdsE cs)] = .ok (true, cndsE ((List.range fs.length).foldl (fun r k => r ++ knownC fs cs.flatten k) [])) := by
  have inner : ∀ (k : Nat) (r : List Cnd), k ≤ 1000 → ∀ (l : List (List Nat)) (us : List Nat), us.length + l.flatten.length ≤ 10000 →
      fgo (C n) gc0 gas [5] true b__law_known_0 [5, 6] (l.map crowdE) [.fz (sD fs), .fz (.list (crowdsE cs)), .ow (cndsE r), .fz (natD k), .nw (.list ((us.map fun w => w.testBit k).map bitE)), .un, .un] =
        .ok (.nx [.fz (sD fs), .fz (.list (crowdsE cs)), .ow (cndsE r), .fz (natD k), .nw (.list (((us ++ l.flatten).map fun w => w.testBit k).map bitE)), .un, .un]) := by
    intro k r hk l
    induction l with
    | nil => intro us _; rw [List.flatten_nil, List.append_nil]; rfl
    | cons c l ih =>
      intro us hu
      rw [List.flatten_cons, List.length_append] at hu
      have i := ih (us ++ c) (by rw [List.length_append]; omega)
      have hlc : ∀ τ : Ta, τ[3]? = some (.fz (natD k)) → τ.length = 7 → lcGo (lcF (C n) gc0 [6] true (.cst (.bool true)) (.bin .mod (.bin .fdiv (.var 6) (.bin .shl (.cst (.int 1)) (.var 3))) (.cst (.int 2))) τ) (c.map natD) = .ok ((c.map fun w => w.testBit k).map bitE) := fun τ h3 hτ => by
        rw [lcGo_map (k := fun w => some (bitE (w.testBit k))) fun w hw => ?_]
        · congr 1
          rw [List.map_map]
          exact congrFun (List.filterMap_eq_map' (f := bitE ∘ fun w => w.testBit k)) c
        · have := bit_mod w k
          match τ, hτ with
          | [a0, a1, a2, a3, a4, a5, a6], _ =>
            have h3 : a3 = .fz (natD k) := by simpa using h3
            subst h3
            rw [lcF_eq]
            simp [natD, hk, this, bitE]
      have hadd : binD .add (.list ((us.map fun w => w.testBit k).map bitE)) (.list ((c.map fun w => w.testBit k).map bitE)) = .ok (.ow, .list (((us ++ c).map fun w => w.testBit k).map bitE)) := by
        rw [o_addl (Nat.le_trans (show _ ≤ 10000 by rw [List.length_map, List.length_map, List.length_map, List.length_map]; omega) (by decide)), List.map_append, List.map_append]
      rw [List.map_cons, s_fgo]
      rw [List.append_assoc, ← List.flatten_cons] at i
      rw [← i]
      simp only [setT, y_bind1, List.set_cons_succ, List.set_cons_zero, bind_ok]
      simp [b__law_known_0]
      rw [hlc _ rfl rfl]
      simp only [List.map_map] at hadd
      simp [hadd]
  have L := fgo_walkN (cl := C n) (gc := gc0) (g := gas) (vs := [3]) (one := true) (b := b__law_known_1) (ks := [3, 4, 5, 6]) (enc := natD)
    (pack := fun (r : List Cnd) => [.fz (sD fs), .fz (.list (crowdsE cs)), .ow (cndsE r), .un, .un, .un, .un]) (step := fun r k => .inl (r ++ knownC fs cs.flatten k)) (fun l r => l.length + r.length ≤ 100 ∧ ∀ k ∈ l, k < fs.length) (l := List.range fs.length) (x := []) (fun k l r ds i => by
      obtain ⟨i1, i2⟩ := i
      have hk := i2 k (List.mem_cons_self ..)
      have hx : fs[k]? = some fs[k] := List.getElem?_eq_getElem hk
      have hk3 : k ≤ 1000 := by omega
      have hr : r.length ≤ 1000 := by simp only [List.length_cons] at i1; omega
      have inn := inner k r hk3 cs [] (by simpa using hw)
      simp only [List.map_nil, List.nil_append] at inn
      rw [show cs.map crowdE = crowdsE cs from rfl] at inn
      have n0 := nin0 (cs.flatten.map fun w => w.testBit k)
      have n1 := nin1 (cs.flatten.map fun w => w.testBit k)
      have a1 : ∀ m τ, appk (some (.ow (cndsE r))) (.ok (.tuple [.str "fact", .str fs[k]])) m τ = .ok (.nx (τ.set m (.ow (cndsE (r ++ [.fact fs[k]]))))) := fun m τ => app_cnd (x := .fact fs[k]) hr
      have a2 : ∀ m τ, appk (some (.ow (cndsE r))) (.ok (.tuple [.str "not", .tuple [.str "fact", .str fs[k]]])) m τ = .ok (.nx (τ.set m (.ow (cndsE (r ++ [.not (.fact fs[k])]))))) := fun m τ => app_cnd (x := .not (.fact fs[k])) hr
      have hkc : knownC fs cs.flatten k = if (cs.flatten.all fun w => w.testBit k) = true then [.fact fs[k]] else if (cs.flatten.all fun w => !w.testBit k) = true then [.not (.fact fs[k])] else [] := by
        unfold knownC
        rw [hx]
      have hkl : (knownC fs cs.flatten k).length ≤ 1 := by
        rw [hkc]
        split
        · simp
        · split <;> simp
      rw [List.all_map] at n0 n1
      have n0' : cmpD .nin (.int 0) (.list ((cs.flatten.map fun w => w.testBit k).map bitE)) = .ok (.fz, .bool (cs.flatten.all fun w => w.testBit k)) := n0
      have n1' : cmpD .nin (.int 1) (.list ((cs.flatten.map fun w => w.testBit k).map bitE)) = .ok (.fz, .bool (cs.flatten.all fun w => !w.testBit k)) := n1
      show fgo (C n) gc0 gas [3] true b__law_known_1 [3, 4, 5, 6] (natD k :: ds) _ = fgo (C n) gc0 gas [3] true b__law_known_1 [3, 4, 5, 6] ds _ ∧ _
      refine ⟨?_, by simp only [List.length_cons, List.length_append] at i1 ⊢; omega, fun k m => i2 k (List.mem_cons_of_mem _ m)⟩
      rw [s_fgo, hkc]
      generalize hg : (cs.flatten.map fun w => w.testBit k).map bitE = B at inn n0' n1'
      cases h1 : cs.flatten.all fun w => w.testBit k with
      | true =>
        rw [h1] at n0'
        simp [b__law_known_1, one_crowds]
        rw [inn]
        simp [n0', ix_sD hx, a1, natD]
      | false =>
        rw [h1] at n0'
        cases h2 : cs.flatten.all fun w => !w.testBit k with
        | true =>
          rw [h2] at n1'
          simp [b__law_known_1, one_crowds]
          rw [inn]
          simp [n0', n1', ix_sD hx, a2, natD]
        | false =>
          rw [h2] at n1'
          simp [b__law_known_1, one_crowds]
          rw [inn]
          simp [n0', n1', ix_sD hx]) ⟨by rw [List.length_range]; show fs.length + 0 ≤ 100; omega, fun k m => List.mem_range.mp m⟩
  rw [walk_inl] at L
  rw [show cndsE [] = PyData.list [] from rfl] at L
  have hl2 : fs.length ≤ 1000 := by omega
  rw [at__law_known]
  simp [d__law_known, len_sD, hl2]
  rw [L]
  simp [outE]
theorem wished2_ok {X : D} {cs : List Cnd} (e : C n 22 [sD h.facts, X] = .ok (true, cndsE cs)) (num : Int) :
    C (n + 1) 23 [houseE h, X, .int num] = .ok (false, houseE { h with wish := wishOf cs num }) := by
  have L := (fgo_fold (cl := C n) (gc := gc0) (g := gas) (vs := [4]) (one := true) (b := b__law_wished_0) (ks := [4]) (enc := Cnd.enc)
    (pack := fun (x : Cnd × Int) => [.fz (houseE h), .fz X, .fz (.int x.2), .fz x.1.enc, .un]) (step := wishStep) (fun _ => True) (l := cs) (x := (.yes, num)) (fun c hc x ds _ => by
      refine ⟨?_, trivial⟩
      obtain ⟨w, q⟩ := x
      rw [s_fgo]
      by_cases hq : q % 4 > 0
      · have hq' : (0 : Int) < q % 4 := hq
        simp [b__law_wished_0, wishStep, hq, hq', Cnd.enc]
      · have hq' : ¬ (0 : Int) < q % 4 := hq
        simp [b__law_wished_0, wishStep, hq, hq', Cnd.enc]) trivial).1
  rw [at__law_wished]
  have e1 := one_cnds (k := .ow) cs (.inr (.inl rfl))
  rw [show Cnd.yes.enc = PyData.tuple [.str "yes"] from rfl] at L
  simp [d__law_wished, e, e1]
  rw [L]
  simp [h_cut]
  rfl
/-! ### digits -/
theorem digitsN_ok (cell : Int) (N : Nat) (hN : N ≤ 100) : ∃ xs : List Int, C (n + 1) 14 [.int cell, .int (N : Int), .int 1000000000] = .ok (true, .list (xs.map .int)) ∧ xs.length = N ∧ ∀ x ∈ xs, 0 ≤ x ∧ x < 1000000000 := by
  have L := fgo_walkN (cl := C n) (gc := gc0) (g := gas) (vs := [5]) (one := true) (b := b__law_digits_0) (ks := [5, 6]) (enc := natD)
    (pack := fun (x : Int × List Int) => [.fz (.int cell), .fz (.int (N : Int)), .fz (.int 1000000000), .ow (.list (x.2.map .int)), .fz (.int x.1), .un, .un]) (step := fun x k => .inl (stirStep cell x k)) (fun l x => l.length + x.2.length ≤ 100) (l := List.range N) (x := (cell, [])) (fun k l x ds i => by
      obtain ⟨rest, found⟩ := x
      have hf : found.length ≤ 1000 := by simp only [List.length_cons] at i; omega
      have b1 : 0 ≤ (cell + 977 * (k : Int) + 1) * 48271 % 2147483647 := by omega
      have b2 : (cell + 977 * (k : Int) + 1) * 48271 % 2147483647 < 2147483648 := by omega
      show fgo (C n) gc0 gas [5] true b__law_digits_0 [5, 6] (natD k :: ds) _ = fgo (C n) gc0 gas [5] true b__law_digits_0 [5, 6] ds _ ∧ _
      refine ⟨?_, by simp only [List.length_cons, stirStep, List.length_append, List.length_nil] at i ⊢; omega⟩
      rw [s_fgo]
      by_cases hc : 1000000000000000000 ≤ cell
      · simp [b__law_digits_0, natD, o_mulA, o_mulB, b1, b2, pow18, hc, app_int hf, stirStep, stirOf]
      · simp [b__law_digits_0, natD, o_mulA, o_mulB, b1, b2, pow18, hc, app_int hf, stirStep, stirOf]) (by rw [List.length_range]; show N + 0 ≤ 100; omega)
  rw [walk_inl] at L
  refine ⟨((List.range N).foldl (stirStep cell) (cell, [])).2, ?_, by rw [stir_len, List.length_range]; exact Nat.zero_add N, stir_lt cell _ _ fun d hd => by cases hd⟩
  have hN2 : N ≤ 1000 := by omega
  rw [at__law_digits]
  simp [d__law_digits, hN2]
  simp at L
  rw [L]
  simp [outE]
theorem digN_of {xs : List Int} {N : Nat} (h : xs.length = N) (h30 : 30 ≤ N) (hx : ∀ x ∈ xs, 0 ≤ x ∧ x < 1000000000) : Dig (.list (xs.map .int)) := fun k h0 h1 => by
  obtain ⟨j, rfl⟩ : ∃ j : Nat, k = (j : Int) := ⟨k.toNat, by omega⟩
  have hj : j < xs.length := by omega
  exact ⟨xs[j], (hx _ (List.getElem_mem hj)).1, x_l (atI_nat (a := PyData.int xs[j]) (by rw [List.getElem?_map, List.getElem?_eq_getElem hj]; rfl))⟩
theorem ints_from {X : D} {N a : Nat} (hX : Ints X N) (ha : a ≤ N) : ∃ Y, slD X (some (a : Int)) none = .ok (.ow, Y) ∧ Ints Y (N - a) := by
  obtain ⟨xs, rfl, hl⟩ := hX
  refine ⟨.list ((xs.drop a).map .int), ?_, xs.drop a, rfl, by rw [List.length_drop, hl]⟩
  show Out.ok (Kd.ow, PyData.list (cutD (xs.map PyData.int) (some (a : Int)) none)) = _
  unfold cutD
  rw [HT.sIx_none, HT.sIx_nat, List.length_map, hl, Nat.min_eq_left ha, List.map_drop]
  rw [show N - a = ((xs.map PyData.int).drop a).length by rw [List.length_drop, List.length_map, hl], List.take_length]
theorem ints_cut {X : D} {N a b : Nat} (hX : Ints X N) (ha : a ≤ b) (hb : b ≤ N) : ∃ Y, slD X (some (a : Int)) (some (b : Int)) = .ok (.ow, Y) ∧ Ints Y (b - a) := by
  obtain ⟨xs, rfl, hl⟩ := hX
  refine ⟨.list (((xs.drop a).take (b - a)).map .int), ?_, (xs.drop a).take (b - a), rfl, by rw [List.length_take, List.length_drop, hl]; omega⟩
  show Out.ok (Kd.ow, PyData.list (cutD (xs.map PyData.int) (some (a : Int)) (some (b : Int)))) = _
  unfold cutD
  rw [HT.sIx_nat, HT.sIx_nat, List.length_map, hl, Nat.min_eq_left hb, Nat.min_eq_left (show a ≤ N by omega), List.map_take, List.map_drop]
/-! ### deeds ahead -/
def runN (h : House) : List Str → List Nat → Option (List Nat)
  | [], ws => some ws
  | x :: r, ws => match namedIn h.deeds x with
    | some d => if (failing h.facts d.need ws).isNone then runN h r (behind h.facts d.ways ws) else none
    | none => none
def chain (r : List Str) (t : Tr) : Tr := r.foldr .act t
theorem chain_run {t : Tr} : ∀ {r : List Str} {ws us : List Nat}, runN h r ws = some us → canT h (chain r t) ws = canT h t us ∧ endsT h (chain r t) ws = endsT h t us
  | [], ws, us, e => by cases e; exact ⟨rfl, rfl⟩
  | x :: r, ws, us, e => by
    unfold runN at e
    cases hd : namedIn h.deeds x with
    | none => rw [hd] at e; cases e
    | some d =>
      rw [hd] at e
      simp only at e
      split at e
      · rename_i hf
        obtain ⟨i1, i2⟩ := chain_run (t := t) e
        refine ⟨?_, ?_⟩
        · show (match namedIn h.deeds x with | none => false | some d => (failing h.facts d.need ws).isNone && canT h (chain r t) (behind h.facts d.ways ws)) = _
          rw [hd]
          show ((failing h.facts d.need ws).isNone && canT h (chain r t) (behind h.facts d.ways ws)) = _
          rw [hf, Bool.true_and, i1]
        · show (match namedIn h.deeds x with | none => [] | some d => endsT h (chain r t) (behind h.facts d.ways ws)) = _
          rw [hd]
          exact i2
      · cases e
theorem run_snoc {d : Deed} : ∀ {r : List Str} {ws us : List Nat}, runN h r ws = some us → namedIn h.deeds d.name = some d → (failing h.facts d.need us).isNone = true → runN h (r ++ [d.name]) ws = some (behind h.facts d.ways us)
  | [], ws, us, e, hd, hf => by
    cases e
    show (match namedIn h.deeds d.name with | some d => _ | none => none) = _
    rw [hd]
    simp only [hf, if_true]
    rfl
  | x :: r, ws, us, e, hd, hf => by
    unfold runN at e
    show (match namedIn h.deeds x with | some d => _ | none => none) = _
    cases hx : namedIn h.deeds x with
    | none => rw [hx] at e; cases e
    | some dx =>
      rw [hx] at e
      simp only at e ⊢
      split at e
      · rename_i q
        rw [if_pos q]
        exact run_snoc e hd hf
      · cases e
theorem chain_ok {t : Tr} : ∀ {r : List Str}, RowOk h r → t.ok h → (chain r t).ok h
  | [], _, o => o
  | x :: r, rk, o => ⟨(rk x (List.mem_cons_self ..)).1, (rk x (List.mem_cons_self ..)).2, chain_ok (fun y m => rk y (List.mem_cons_of_mem _ m)) o⟩
theorem chain_size {t : Tr} : ∀ r : List Str, (chain r t).size = t.size + r.length
  | [] => rfl
  | x :: r => by
    show (chain r t).size + 1 = _
    rw [chain_size r, List.length_cons]; omega
theorem chain_deep {t : Tr} : ∀ r : List Str, (chain r t).deep = t.deep + r.length
  | [] => rfl
  | x :: r => by
    show (chain r t).deep + 1 = _
    rw [chain_deep r, List.length_cons]; omega
end
end F1
end VL
namespace VL
open PySem PySem.Spec L2
namespace F1
section
variable {h : House} {n : Nat}
def aheadT (h : House) (X : D) (many : Int) (us : List Nat) (r : List Str) : Ta := [.fz (houseE h), .fz (crowdE us), .fz X, .fz (.int many), .ow (sD r), .un, .un]
/-- what a row of deeds ahead is -/
structure Ah (h : House) (ws : List Nat) (N : Nat) (r : List Str) (us : List Nat) : Prop where
  ok : RowOk h r
  run : runN h r ws = some us
  lt : ∀ w ∈ us, w < 2 ^ h.facts.length
  few : r.length ≤ N
theorem ahead_go (d : Drawn h) (hwish : h.wish = .yes) {X : D} {N : Nat} (hX : Ints X N) (hN : 14 ≤ N) (ws : List Nat) (many : Int) (M : Nat) (hM : M ≤ 100) : ∀ (l : List Nat) (r : List Str) (us : List Nat), Ah h ws (M - l.length) r us → l.length ≤ M → (∀ j ∈ l, j < 100) →
    ∃ r' us', Ah h ws M r' us' ∧ (fgo (C (n + 6)) gc0 gas [5] true b__law_ahead_0 [5, 6] (l.map natD) (aheadT h X many us r) = .ok (.nx (aheadT h X many us' r')) ∨
      fgo (C (n + 6)) gc0 gas [5] true b__law_ahead_0 [5, 6] (l.map natD) (aheadT h X many us r) = .ok (.rt false (.tuple [sD r', crowdE us'])))
  | [], r, us, a, _, _ => ⟨r, us, ⟨a.ok, a.run, a.lt, a.few⟩, .inl rfl⟩
  | j :: l, r, us, a, hl, hj => by
    have gl := drawn_gl0 d hwish (m := n + 5) (by omega)
    have hdl : (0 : Int) < h.deeds.length := by have := List.length_pos_iff.mpr d.some; omega
    have hdl2 : 0 < h.deeds.length := by omega
    obtain ⟨q, hq⟩ : ∃ q : Nat, (j : Int) % 14 = (q : Int) := ⟨j % 14, by omega⟩
    obtain ⟨b, eb⟩ := ints_ix hX (k := q) (by omega)
    obtain ⟨e, em, ee⟩ := ix_deed d.some (b / (1 + (j : Int)))
    have b1 : (0 : Int) < 1 + (j : Int) := by omega
    have b2 : 1 + (j : Int) < 1000000000000000000000000000000 := by have := hj j (List.mem_cons_self ..); omega
    have c := lcan_ok (h := h) (n := n + 5) (ws := us) gl.g.few (gl.g.need e em).1 (gl.g.need e em).2
    have bh := lbehind_ok (n := n + 5) gl.g.few gl.g.nd (gl.g.ways e em) (ws := us) a.lt (.str e.name) e.need.enc
    have bh' : C (n + 5 + 1) 17 [sD h.facts, deedE e, crowdE us] = .ok (false, crowdE (behind h.facts e.ways us)) := bh
    have hrl : r.length ≤ 1000 := by have := a.few; omega
    cases hf : (failing h.facts e.need us).isNone with
    | false =>
      rw [hf] at c
      refine ⟨r, us, ⟨a.ok, a.run, a.lt, by have := a.few; omega⟩, .inr ?_⟩
      rw [List.map_cons, s_fgo]
      simp [aheadT, b__law_ahead_0, natD, hq, eb, len_deeds, hdl, hdl2, b1, b2, ee, c]
    | true =>
      rw [hf] at c
      have hn := named_self d.dnd em
      obtain ⟨r', us', a', q'⟩ := ahead_go d hwish hX hN ws many M hM l (r ++ [e.name]) (behind h.facts e.ways us) ⟨fun x m => by
        rcases List.mem_append.mp m with z | z
        · exact a.ok x z
        · rw [List.mem_singleton.mp z]; exact ⟨(d.deeds e em).2.2.1, e, hn⟩, run_snoc a.run hn hf, behind_lt (gl.g.ways e em) a.lt, by have := a.few; rw [List.length_append, List.length_singleton]; simp only [List.length_cons] at this hl; omega⟩ (by simp only [List.length_cons] at hl; omega) fun i m => hj i (List.mem_cons_of_mem _ m)
      refine ⟨r', us', a', ?_⟩
      have step : fgo (C (n + 6)) gc0 gas [5] true b__law_ahead_0 [5, 6] ((j :: l).map natD) (aheadT h X many us r) = fgo (C (n + 6)) gc0 gas [5] true b__law_ahead_0 [5, 6] (l.map natD) (aheadT h X many (behind h.facts e.ways us) (r ++ [e.name])) := by
        rw [List.map_cons, s_fgo]
        simp [aheadT, b__law_ahead_0, natD, hq, eb, len_deeds, hdl, hdl2, b1, b2, ee, c, bh', app_sD hrl]
      rw [step]
      exact q'
theorem lahead_ok (d : Drawn h) (hwish : h.wish = .yes) {X : D} {N : Nat} (hX : Ints X N) (hN : 14 ≤ N) {ws : List Nat} (hw : ∀ w ∈ ws, w < 2 ^ h.facts.length) (many : Nat) (hm : many ≤ 100) :
    ∃ r us, Ah h ws many r us ∧ C (n + 7) 50 [houseE h, crowdE ws, X, .int (many : Int)] = .ok (false, .tuple [sD r, crowdE us]) := by
  obtain ⟨r, us, a, q⟩ := ahead_go (n := n) d hwish hX hN ws (many : Int) many hm (List.range many) [] ws ⟨fun x m => (by cases m), rfl, hw, Nat.zero_le _⟩ (by rw [List.length_range]; exact Nat.le_refl _) fun j hj => by have := List.mem_range.mp hj; omega
  refine ⟨r, us, a, ?_⟩
  have hm2 : many ≤ 1000 := by omega
  unfold aheadT at q
  rw [sD_nil] at q
  rw [at__law_ahead]
  simp [d__law_ahead, hm2]
  rcases q with q | q
  · rw [q]; simp
  · rw [q]; simp
end
end F1
end VL
namespace VL
open PySem PySem.Spec L2
namespace F1
def dropT : Nat → S → S
  | 0, s => s
  | n + 1, .seq _ r => dropT n r
  | _ + 1, s => s
def putT : Nat → S → S → S
  | 0, _, t => t
  | n + 1, .seq a r, t => .seq a (putT n r t)
  | _ + 1, s, _ => s
theorem rev_sD (r : List Str) : revD (sD r) = .ok (.ow, sD r.reverse) := by
  show Out.ok (Kd.ow, PyData.list (r.map PyData.str).reverse) = _
  rw [← List.map_reverse]; rfl
theorem one_sDo (r : List Str) : onek (.ok (.ow, sD r)) = .ok (r.map .str) := rfl
theorem eqv_sDn (r : List Str) : PyData.eqv (sD r) (.list []) = r.isEmpty := by cases r <;> rfl
theorem rng2_ok : rngk (.ok (.fz, .int 2)) = .ok [natD 0, natD 1] := k_rng (j := 2) (by decide)
section
variable {h : House} {n : Nat}
theorem behind_few (hl : h.facts.length ≤ 5) {d : Nat} {ways : List (List Chg)} (ho : ∀ way ∈ ways, wayOn h.facts d way) {ws : List Nat} (hw : ∀ w ∈ ws, w < 2 ^ h.facts.length) : (behind h.facts ways ws).length < 64 := by
  unfold behind sortN
  rw [List.length_mergeSort]
  exact (ksOk_beh ho hw ⟨List.nodup_nil, fun _ z => by cases z⟩).few hl
theorem ends_small {m : Nat} (g : Good m h) : ∀ (t : Tr) (ws : List Nat), (∀ w ∈ ws, w < 2 ^ h.facts.length) → ws.length ≤ 64 → ∀ c ∈ endsT h t ws, c.length ≤ 64
  | .fin, ws, hw, hl, c, hc => by
    have hc : c ∈ (if ws.isEmpty then [] else [ws] : List (List Nat)) := hc
    split at hc
    · cases hc
    · rw [List.mem_singleton.mp hc]; exact hl
  | .act x t, ws, hw, hl, c, hc => by
    have hc : c ∈ (match namedIn h.deeds x with | none => [] | some d => endsT h t (behind h.facts d.ways ws) : List (List Nat)) := hc
    cases hd : namedIn h.deeds x with
    | none => rw [hd] at hc; cases hc
    | some d =>
      rw [hd] at hc
      have hdm : d ∈ h.deeds := List.mem_of_find?_eq_some hd
      exact ends_small g t _ (behind_lt (g.ways d hdm) hw) (Nat.le_of_lt (behind_few g.few (g.ways d hdm) hw)) c hc
  | .see x y z, ws, hw, hl, c, hc => by
    have hc : c ∈ (match lookIn h.looks x with | none => [] | some l => endsT h y (yesOf h.facts l.seen ws) ++ endsT h z (noOf h.facts l.seen ws) : List (List Nat)) := hc
    cases hd : lookIn h.looks x with
    | none => rw [hd] at hc; cases hc
    | some l =>
      rw [hd] at hc
      rcases List.mem_append.mp hc with q | q
      · exact ends_small g y _ (fun w m => hw w (List.mem_filter.mp m).1) (Nat.le_trans (List.length_filter_le ..) hl) c q
      · exact ends_small g z _ (fun w m => hw w (List.mem_filter.mp m).1) (Nat.le_trans (List.length_filter_le ..) hl) c q
theorem flat_small : ∀ {cs : List (List Nat)} {k : Nat}, (∀ c ∈ cs, c.length ≤ k) → cs.flatten.length ≤ cs.length * k
  | [], _, _ => Nat.zero_le _
  | c :: cs, k, hc => by
    have := flat_small (cs := cs) fun c m => hc c (List.mem_cons_of_mem _ m)
    have := hc c (List.mem_cons_self ..)
    rw [List.flatten_cons, List.length_append, List.length_cons, Nat.add_mul]
    omega
/-- a tree that can be walked, wished for what is known at its ends -/
theorem wish_tree (hd : Drawn h) {ws : List Nat} (cr : Cr h.facts.length ws) {t : Tr} (hwish : h.wish = .yes) (hc : canT h t ws = true) (he : (endsT h t ws).length ≤ 100) (num : Int) (n : Nat) :
    ∃ w : Cnd, C (n + 2) 23 [houseE h, .list (crowdsE (endsT h t ws)), .int num] = .ok (false, houseE { h with wish := w }) ∧ w.on h.facts ∧ w.dep ≤ 6 ∧ wellT { h with wish := w } t ws = true := by
  have hl5 : h.facts.length ≤ 5 := by have := hd.few; omega
  have gl := drawn_gl0 hd hwish (m := 4) (Nat.le_refl _)
  have hfl : (endsT h t ws).flatten.length ≤ 10000 := by
    have := flat_small (ends_small gl.g t ws cr.lt (by have := cr.len hl5; omega))
    omega
  have k22 := known2_ok (n := n) (fs := h.facts) hl5 hfl
  have k23 := wished2_ok (h := h) k22 num
  obtain ⟨kp, kl⟩ := knowns_props (ws := (endsT h t ws).flatten) hd.nd (List.range h.facts.length) [] (fun _ z => by cases z)
  generalize (List.range h.facts.length).foldl (fun r k => r ++ knownC h.facts (endsT h t ws).flatten k) [] = cs at k22 k23 kp kl
  have cl : cs.length ≤ 5 := by rw [List.length_range, List.length_nil] at kl; omega
  refine ⟨wishOf cs num, k23, wish_on cs _ (fun c m => (kp c m).1) trivial, ?_, ?_⟩
  · have := wish_dep cs (.yes, num) fun c m => (kp c m).2.1
    unfold wishOf
    simp only [Cnd.dep] at this
    omega
  · rw [wellT_wish t ws hc, List.all_eq_true]
    intro c mc
    have fn : failing h.facts (wishOf cs num) c = none := failing_none fun w mw => wish_holds cs (.yes, num) (fun e me => (kp e me).2.2 w (List.mem_flatten.mpr ⟨c, mc, mw⟩)) rfl
    rw [fn]
    rfl
end
/-! ### the law's turn, its end -/
def tl51 : S := dropT 7 b_law_51_2
theorem b_split51 : b_law_51_2 = putT 7 b_law_51_2 tl51 := rfl
section
variable {h : House}
theorem tok_wish {w : Cnd} : ∀ {t : Tr}, t.ok h → t.ok { h with wish := w }
  | .fin, _ => trivial
  | .act _ _, o => ⟨o.1, o.2.1, tok_wish o.2.2⟩
  | .see _ _ _, o => ⟨o.1, o.2.1, tok_wish o.2.2.1, tok_wish o.2.2.2⟩
theorem tail51 (hd : Drawn h) (hwish : h.wish = .yes) {ws : List Nat} (cr : Cr h.facts.length ws) {t : Tr} (o : t.ok h) (hdp : t.deep ≤ 60) (hsz : t.size ≤ 400) (hc : canT h t ws = true) (he : (endsT h t ws).length ≤ 100) (S X : D) (k : Nat) (s5 : Sl) {a35 : Int} (e35 : ixD X (.int 35) = .ok (.fz, .int a35)) :
    ∃ τ, run (C 199) gc0 gas tl51 [.fz S, .fz (natD k), .nw X, .fz (houseE h), .fz (crowdE ws), s5, .un, .fz t.enc, .fz (.list (crowdsE (endsT h t ws))), .un, .un, .un, .un] = .ok (.nx τ) ∧ τ.length = 13 ∧ τ[0]? = some (.fz S) := by
  obtain ⟨w, k23, won, wdep, wwell⟩ := wish_tree hd cr hwish hc he a35 197
  obtain ⟨H, hH⟩ : ∃ H : House, H = { h with wish := w } := ⟨_, rfl⟩
  have shH : SeqAt.shaped (houseE H) = true := by rw [hH]; exact lay_house hd won (by omega)
  have gH : GL 100 H := by rw [hH]; exact drawn_gl hd won (by omega) (by decide)
  have oH : TrOk H 400 t := by rw [hH]; exact ⟨tok_wish o, hdp, hsz⟩
  have cH : Cr H.facts.length ws := by rw [hH]; exact cr
  rw [← hH] at k23 wwell
  have k23' : C 199 23 [houseE h, .list (crowdsE (endsT h t ws)), .int a35] = .ok (false, houseE H) := k23
  have i49 : C 199 49 [houseE H, crowdE ws, t.enc] = .ok (false, (madeT H ws t.size t).enc) := lmade_lessT_ok (n := 135) (gH.mono (by omega)) oH cH.lt
  have i41 : C 199 41 [houseE H, crowdE ws, t.enc] = .ok (false, (madeT H ws t.size t).enc) := tree_made_less_ok (n := 193) (gH.mono (by omega)) oH (by decide) cH wwell
  have i27 : C 199 27 [houseE H] = .ok (false, houseE H) := copy_ok (n := 198) H
  obtain ⟨mo, _⟩ := madeT_facts (ws := ws) t.size t oH wwell
  have i24 : C 199 24 [(madeT H ws t.size t).enc, (madeT H ws t.size t).enc] = .ok (false, .bool true) := alike_tree _ 199 mo.ok (by have := mo.deep; omega)
  generalize madeT H ws t.size t = M at i49 i41 i24
  have eH := eqv_self shH
  simp [tl51, dropT, b_law_51_2, e35, k23', i49, i27, rng2_ok, s_fgo, fgo_nil, b_law_51_1, i41, i24, shH, eH]
end
end F1
end VL
namespace VL
open PySem PySem.Spec L2
namespace F1
theorem addK_ne {ks : List Nat} {k : Nat} : addK ks k ≠ [] := by
  unfold addK
  split
  · rename_i h
    exact fun z => by rw [z] at h; cases h
  · intro z
    exact absurd (congrArg List.length z) (by simp)
theorem ways_ne {fs : List Str} {w : Nat} : ∀ {ways : List (List Chg)} {ks : List Nat}, (ks ≠ [] ∨ ways ≠ []) → ways.foldl (fun ks way => addK ks (chg fs way w)) ks ≠ []
  | [], ks, h => h.resolve_right fun z => z rfl
  | way :: ways, ks, _ => ways_ne (ways := ways) (.inl addK_ne)
theorem behK_ne {fs : List Str} {ways : List (List Chg)} (hw : ways ≠ []) : ∀ {ws ks : List Nat}, (ks ≠ [] ∨ ws ≠ []) → behK fs ways ks ws ≠ []
  | [], ks, h => h.resolve_right fun z => z rfl
  | w :: ws, ks, _ => behK_ne hw (ws := ws) (.inl (ways_ne (.inr hw)))
theorem sortN_up {ks : List Nat} (h : ks.Nodup) : (sortN ks).Pairwise (· < ·) := by
  have h1 : (sortN ks).Pairwise fun a b => decide (a ≤ b) = true := List.pairwise_mergeSort (fun a b c x y => by
    rw [decide_eq_true_eq] at x y ⊢; omega) (fun a b => by
    rw [Bool.or_eq_true, decide_eq_true_eq, decide_eq_true_eq]; omega) ks
  have h2 : (sortN ks).Nodup := (List.mergeSort_perm ks _).nodup_iff.mpr h
  exact (h1.and h2).imp fun {a b} z => by
    have := of_decide_eq_true z.1
    have := z.2
    omega
theorem sortN_ne {ks : List Nat} (h : ks ≠ []) : sortN ks ≠ [] := fun z => by
  have := congrArg List.length z
  unfold sortN at this
  rw [List.length_mergeSort] at this
  exact h (List.length_eq_zero_iff.mp this)
theorem cr_behind {fs : List Str} {d : Nat} {ways : List (List Chg)} {ws : List Nat} (ho : ∀ way ∈ ways, wayOn fs d way) (hne : ways ≠ []) (c : Cr fs.length ws) : Cr fs.length (behind fs ways ws) :=
  ⟨sortN_ne (behK_ne hne (.inr c.ne)), sortN_up (ksOk_beh ho c.lt ⟨List.nodup_nil, fun _ z => by cases z⟩).1, behind_lt ho c.lt⟩
theorem cr_filter {n : Nat} {ws : List Nat} {p : Nat → Bool} (c : Cr n ws) (h : ws.filter p ≠ []) : Cr n (ws.filter p) :=
  ⟨h, c.up.filter _, fun w m => c.lt w (List.mem_filter.mp m).1⟩
def bareT (h : House) : Tr → List Nat → Tr
  | .fin, _ => .fin
  | .act x t, ws => match namedIn h.deeds x with
    | none => .fin
    | some d => .act x (bareT h t (behind h.facts d.ways ws))
  | .see x y z, ws => match lookIn h.looks x with
    | none => .fin
    | some l => if (yesOf h.facts l.seen ws).isEmpty then bareT h z (noOf h.facts l.seen ws) else if (noOf h.facts l.seen ws).isEmpty then bareT h y (yesOf h.facts l.seen ws) else
        .see x (bareT h y (yesOf h.facts l.seen ws)) (bareT h z (noOf h.facts l.seen ws))
/-- a house whose deeds have ways -/
def Wy (h : House) : Prop := ∀ d ∈ h.deeds, d.ways ≠ []
section
variable {h : House} {n : Nat}
theorem can_ok {X : D} {c : Cnd} {ws : List Nat} (hX : ixD X (.int 1) = .ok (.fz, c.enc)) (o : c.on h.facts) (l : c.dep < n) : C (n + 1) 52 [houseE h, X, crowdE ws] = .ok (false, .bool (failing h.facts c ws).isNone) := by
  rw [at_can_be_done]
  simp [d_can_be_done]
  rw [lc_filter (p := fun w => !c.hold h.facts w) fun w _ => ?_]
  · simp [sh_nats, sh_l0, eqv_nats, filter_fail]
  · have e := holds_ok (w := w) o l
    rw [lcF_eq]
    unfold natD
    cases hc : c.hold h.facts w <;> rw [hc] at e <;> simp [hX, e]
theorem crowd_behind_ok (g : GL n h) {x : Str} {d : Deed} {ws : List Nat} (hx : SeqAt.shaped (.str x) = true) (hd : namedIn h.deeds x = some d) (c : Cr h.facts.length ws) (hf : (failing h.facts d.need ws).isNone = true) :
    C (n + 4) 53 [houseE h, .str x, crowdE ws] = .ok (false, crowdE (behind h.facts d.ways ws)) := by
  have hdm : d ∈ h.deeds := List.mem_of_find?_eq_some hd
  have i1 := need_deed_ok (n := n + 2) (g.g.mono (by omega)) hx hd
  have i2 := need_crowd_ok (n := n) g.g.few c
  have i3 := can_ok (h := h) (n := n + 2) (X := deedE d) (ws := ws) (d_1 d) (g.g.need d hdm).1 (by have := (g.g.need d hdm).2; omega)
  rw [hf] at i3
  have ab := all_behind_ok (n := n + 1) (h1 := deedsE h.deeds) (h2 := looksE h.looks) (h3 := natsE h.firsts) (h4 := h.wish.enc) g.g.few ((g.g.mono (Nat.le_succ n)).ways d hdm) c.lt (.str d.name) d.need.enc
  have ab' : C (n + 3) 7 [houseE h, deedE d, crowdE ws] = .ok (false, crowdE (behind h.facts d.ways ws)) := ab
  rw [at_crowd_behind]
  simp [d_crowd_behind, i1, i2, i3, ab']
theorem sides_of_ok (g : GL n h) {x : Str} {l : Look} {ws : List Nat} (hx : SeqAt.shaped (.str x) = true) (hd : lookIn h.looks x = some l) (c : Cr h.facts.length ws) (hf : (failing h.facts l.need ws).isNone = true) :
    C (n + 4) 54 [houseE h, .str x, crowdE ws] = .ok (false, .tuple [crowdE (yesOf h.facts l.seen ws), crowdE (noOf h.facts l.seen ws)]) := by
  have hdm : l ∈ h.looks := List.mem_of_find?_eq_some hd
  have i1 := need_look_ok (n := n + 2) (g.mono (by omega)) hx hd
  have i2 := need_crowd_ok (n := n) g.g.few c
  have i3 := can_ok (h := h) (n := n + 2) (X := lookE l) (ws := ws) (l_1 l) (g.looks l hdm).1.1 (by have := (g.looks l hdm).1.2; omega)
  rw [hf] at i3
  have s := sides_by_ok (h := h) (n := n + 2) (l := l) (ws := ws) (g.looks l hdm).2.1.1 (by have := (g.looks l hdm).2.1.2; omega)
  rw [at_sides_of]
  simp [d_sides_of, i1, i2, i3, s]
theorem no_all {fs : List Str} {c : Cnd} {ws : List Nat} (h : (yesOf fs c ws).isEmpty = true) : noOf fs c ws = ws := by
  unfold noOf
  rw [List.filter_eq_self]
  intro w m
  have : w ∉ yesOf fs c ws := by rw [List.isEmpty_iff.mp h]; exact List.not_mem_nil
  unfold yesOf at this
  rw [List.mem_filter] at this
  cases hc : c.hold fs w with
  | false => rfl
  | true => exact absurd ⟨m, hc⟩ this
theorem yes_all {fs : List Str} {c : Cnd} {ws : List Nat} (h : (noOf fs c ws).isEmpty = true) : yesOf fs c ws = ws := by
  unfold yesOf
  rw [List.filter_eq_self]
  intro w m
  have : w ∉ noOf fs c ws := by rw [List.isEmpty_iff.mp h]; exact List.not_mem_nil
  unfold noOf at this
  rw [List.mem_filter] at this
  cases hc : c.hold fs w with
  | true => rfl
  | false => exact absurd ⟨m, by rw [hc]; rfl⟩ this
theorem ne_of_emp {l : List Nat} (h : l.isEmpty = false) : l ≠ [] := fun z => by rw [z] at h; cases h
theorem bare_from_ok (g : GL n h) (wy : Wy h) : ∀ (t : Tr) (m : Nat) (ws : List Nat), t.ok h → t.deep ≤ m → Cr h.facts.length ws → wellT h t ws = true → C (n + 5 + m) 55 [houseE h, crowdE ws, t.enc] = .ok (false, (bareT h t ws).enc)
  | .fin, m, ws, o, hm, c, hw => by
    rw [show n + 5 + m = n + 4 + m + 1 by omega, at_bare_from]
    simp [d_bare_from, Tr.enc, bareT]
  | .act x t, m, ws, o, hm, c, hw => by
    cases m with
    | zero => simp [Tr.deep] at hm
    | succ m =>
      simp only [Tr.deep] at hm
      obtain ⟨d, hd⟩ := o.2.1
      have hdm : d ∈ h.deeds := List.mem_of_find?_eq_some hd
      unfold wellT at hw
      rw [hd] at hw
      have hw : ((failing h.facts d.need ws).isNone && wellT h t (behind h.facts d.ways ws)) = true := hw
      rw [Bool.and_eq_true] at hw
      have cb := crowd_behind_ok (n := n + 1 + m) (g.mono (by omega)) o.1 hd c hw.1
      have i := bare_from_ok g wy t m (behind h.facts d.ways ws) o.2.2 (by omega) (cr_behind (g.g.ways d hdm) (wy d hdm) c) hw.2
      have e : bareT h (.act x t) ws = .act x (bareT h t (behind h.facts d.ways ws)) := by
        show (match namedIn h.deeds x with | none => _ | some d => _) = _
        rw [hd]
      rw [show n + 1 + m + 4 = n + 5 + m by omega] at cb
      rw [e, show n + 5 + (m + 1) = n + 5 + m + 1 by omega, at_bare_from]
      simp [d_bare_from, Tr.enc, cb, i]
  | .see x y z, m, ws, o, hm, c, hw => by
    cases m with
    | zero => simp [Tr.deep] at hm
    | succ m =>
      simp only [Tr.deep] at hm
      obtain ⟨l, hd⟩ := o.2.1
      have hdm : l ∈ h.looks := List.mem_of_find?_eq_some hd
      unfold wellT at hw
      rw [hd] at hw
      have hw : ((failing h.facts l.need ws).isNone && (wellT h y (yesOf h.facts l.seen ws) && wellT h z (noOf h.facts l.seen ws))) = true := hw
      rw [Bool.and_eq_true, Bool.and_eq_true] at hw
      have cb := sides_of_ok (n := n + 1 + m) (g.mono (by omega)) o.1 hd c hw.1
      rw [show n + 1 + m + 4 = n + 5 + m by omega] at cb
      have e : bareT h (.see x y z) ws = if (yesOf h.facts l.seen ws).isEmpty then bareT h z (noOf h.facts l.seen ws) else if (noOf h.facts l.seen ws).isEmpty then bareT h y (yesOf h.facts l.seen ws) else
        .see x (bareT h y (yesOf h.facts l.seen ws)) (bareT h z (noOf h.facts l.seen ws)) := by
        show (match lookIn h.looks x with | none => _ | some d => _) = _
        rw [hd]
      rw [e, show n + 5 + (m + 1) = n + 5 + m + 1 by omega, at_bare_from]
      cases hy : (yesOf h.facts l.seen ws).isEmpty with
      | true =>
        have i := bare_from_ok g wy z m (noOf h.facts l.seen ws) o.2.2.2 (by omega) (by rw [no_all hy]; exact c) hw.2.2
        simp [d_bare_from, Tr.enc, cb, sh_cr, eqv_cr, sh_t0, hy, i]
      | false =>
        have i1 := bare_from_ok g wy y m (yesOf h.facts l.seen ws) o.2.2.1 (by omega) (cr_filter c (ne_of_emp hy)) hw.2.1
        cases hz : (noOf h.facts l.seen ws).isEmpty with
        | true => simp [d_bare_from, Tr.enc, cb, sh_cr, eqv_cr, sh_t0, hy, hz, i1]
        | false =>
          have i2 := bare_from_ok g wy z m (noOf h.facts l.seen ws) o.2.2.2 (by omega) (cr_filter c (ne_of_emp hz)) hw.2.2
          simp [d_bare_from, Tr.enc, cb, sh_cr, eqv_cr, sh_t0, hy, hz, i1, i2]
theorem bare_tree_ok (g : GL n h) (wy : Wy h) {t : Tr} {ws : List Nat} (o : TrOk h 400 t) (c : Cr h.facts.length ws) (hw : wellT h t ws = true) : C (n + 66) 56 [houseE h, crowdE ws, t.enc] = .ok (false, (bareT h t ws).enc) := by
  have i1 := need_good_tree_ok (n := n + 60) (g.mono (by omega)) o c hw
  have i2 := bare_from_ok g wy t 60 ws o.ok o.deep c hw
  rw [show n + 60 + 5 = n + 65 by omega] at i1
  rw [show n + 5 + 60 = n + 65 by omega] at i2
  rw [at_bare_tree]
  simp [d_bare_tree, i1, i2]
theorem lbare_ok (g : GL n h) (wy : Wy h) : ∀ (t : Tr) (m : Nat) (ws : List Nat), t.ok h → t.deep ≤ m → Cr h.facts.length ws → wellT h t ws = true → C (n + 5 + m) 58 [houseE h, crowdE ws, t.enc] = .ok (false, (bareT h t ws).enc)
  | .fin, m, ws, o, hm, c, hw => by
    rw [show n + 5 + m = n + 4 + m + 1 by omega, at__law_bare]
    simp [d__law_bare, Tr.enc, bareT]
  | .act x t, m, ws, o, hm, c, hw => by
    cases m with
    | zero => simp [Tr.deep] at hm
    | succ m =>
      simp only [Tr.deep] at hm
      obtain ⟨d, hd⟩ := o.2.1
      have hdm : d ∈ h.deeds := List.mem_of_find?_eq_some hd
      unfold wellT at hw
      rw [hd] at hw
      have hw : ((failing h.facts d.need ws).isNone && wellT h t (behind h.facts d.ways ws)) = true := hw
      rw [Bool.and_eq_true] at hw
      have nd := lnamed_ok (n := n + 4 + m) (g.g.mono (by omega)) o.1 hd
      have b := lbehind_ok (n := n + 4 + m) g.g.few g.g.nd (fun way my => (g.g.ways d hdm way my).mono (by omega)) (ws := ws) c.lt (.str d.name) d.need.enc
      have b' : C (n + 4 + m + 1) 17 [sD h.facts, deedE d, crowdE ws] = .ok (false, crowdE (behind h.facts d.ways ws)) := b
      have i := lbare_ok g wy t m (behind h.facts d.ways ws) o.2.2 (by omega) (cr_behind (g.g.ways d hdm) (wy d hdm) c) hw.2
      have e : bareT h (.act x t) ws = .act x (bareT h t (behind h.facts d.ways ws)) := by
        show (match namedIn h.deeds x with | none => _ | some d => _) = _
        rw [hd]
      rw [show n + 4 + m + 1 = n + 5 + m by omega] at nd b'
      rw [e, show n + 5 + (m + 1) = n + 5 + m + 1 by omega, at__law_bare]
      simp [d__law_bare, Tr.enc, nd, b', i]
  | .see x y z, m, ws, o, hm, c, hw => by
    cases m with
    | zero => simp [Tr.deep] at hm
    | succ m =>
      simp only [Tr.deep] at hm
      obtain ⟨l, hd⟩ := o.2.1
      have hdm : l ∈ h.looks := List.mem_of_find?_eq_some hd
      unfold wellT at hw
      rw [hd] at hw
      have hw : ((failing h.facts l.need ws).isNone && (wellT h y (yesOf h.facts l.seen ws) && wellT h z (noOf h.facts l.seen ws))) = true := hw
      rw [Bool.and_eq_true, Bool.and_eq_true] at hw
      have nd := lnamedL_ok (n := n + 4 + m) (g.mono (by omega)) o.1 hd
      have cb := lsides_ok (h := h) (n := n + 4 + m) (l := l) (ws := ws) g.g.few (g.looks l hdm).2.1.1 (by have := (g.looks l hdm).2.1.2; omega)
      rw [show n + 4 + m + 1 = n + 5 + m by omega] at nd cb
      have e : bareT h (.see x y z) ws = if (yesOf h.facts l.seen ws).isEmpty then bareT h z (noOf h.facts l.seen ws) else if (noOf h.facts l.seen ws).isEmpty then bareT h y (yesOf h.facts l.seen ws) else
        .see x (bareT h y (yesOf h.facts l.seen ws)) (bareT h z (noOf h.facts l.seen ws)) := by
        show (match lookIn h.looks x with | none => _ | some d => _) = _
        rw [hd]
      rw [e, show n + 5 + (m + 1) = n + 5 + m + 1 by omega, at__law_bare]
      cases hy : (yesOf h.facts l.seen ws).isEmpty with
      | true =>
        have i := lbare_ok g wy z m ws o.2.2.2 (by omega) c (by rw [no_all hy] at hw; exact hw.2.2)
        rw [no_all hy] at cb ⊢
        simp [d__law_bare, Tr.enc, nd, cb, sh_cr, eqv_cr, sh_t0, hy, i, rng2_ok, s_fgo, fgo_nil, b__law_bare_0, natD0, natD1]
      | false =>
        have i1 := lbare_ok g wy y m (yesOf h.facts l.seen ws) o.2.2.1 (by omega) (cr_filter c (ne_of_emp hy)) hw.2.1
        cases hz : (noOf h.facts l.seen ws).isEmpty with
        | true =>
          have i1' := i1
          rw [yes_all hz] at i1'
          rw [yes_all hz] at cb ⊢
          have hy' := hy
          rw [yes_all hz] at hy'
          simp [d__law_bare, Tr.enc, nd, cb, sh_cr, eqv_cr, sh_t0, hy', hz, i1', rng2_ok, s_fgo, fgo_nil, b__law_bare_0, natD0, natD1]
        | false =>
          have i2 := lbare_ok g wy z m (noOf h.facts l.seen ws) o.2.2.2 (by omega) (cr_filter c (ne_of_emp hz)) hw.2.2
          simp [d__law_bare, Tr.enc, nd, cb, sh_cr, eqv_cr, sh_t0, hy, hz, i1, i2, rng2_ok, s_fgo, fgo_nil, b__law_bare_0, natD0, natD1]
theorem bareT_facts : ∀ (t : Tr) (ws : List Nat), t.ok h → (bareT h t ws).ok h ∧ (bareT h t ws).deep ≤ t.deep ∧ (bareT h t ws).size ≤ t.size
  | .fin, ws, o => ⟨trivial, Nat.le_refl _, Nat.le_refl _⟩
  | .act x t, ws, o => by
    obtain ⟨d, hd⟩ := o.2.1
    have e : bareT h (.act x t) ws = .act x (bareT h t (behind h.facts d.ways ws)) := by
      show (match namedIn h.deeds x with | none => _ | some d => _) = _
      rw [hd]
    obtain ⟨i1, i2, i3⟩ := bareT_facts t (behind h.facts d.ways ws) o.2.2
    rw [e]
    exact ⟨⟨o.1, o.2.1, i1⟩, Nat.succ_le_succ i2, Nat.succ_le_succ i3⟩
  | .see x y z, ws, o => by
    obtain ⟨l, hd⟩ := o.2.1
    have e : bareT h (.see x y z) ws = if (yesOf h.facts l.seen ws).isEmpty then bareT h z (noOf h.facts l.seen ws) else if (noOf h.facts l.seen ws).isEmpty then bareT h y (yesOf h.facts l.seen ws) else
      .see x (bareT h y (yesOf h.facts l.seen ws)) (bareT h z (noOf h.facts l.seen ws)) := by
      show (match lookIn h.looks x with | none => _ | some d => _) = _
      rw [hd]
    obtain ⟨i1, i2, i3⟩ := bareT_facts y (yesOf h.facts l.seen ws) o.2.2.1
    obtain ⟨j1, j2, j3⟩ := bareT_facts z (noOf h.facts l.seen ws) o.2.2.2
    have dy : y.deep ≤ (Tr.see x y z).deep := by show y.deep ≤ max y.deep z.deep + 1; omega
    have dz : z.deep ≤ (Tr.see x y z).deep := by show z.deep ≤ max y.deep z.deep + 1; omega
    have sy : y.size ≤ (Tr.see x y z).size := by show y.size ≤ y.size + z.size + 1; omega
    have sz : z.size ≤ (Tr.see x y z).size := by show z.size ≤ y.size + z.size + 1; omega
    rw [e]
    split
    · exact ⟨j1, by omega, by omega⟩
    · split
      · exact ⟨i1, by omega, by omega⟩
      · refine ⟨⟨o.1, o.2.1, i1, j1⟩, ?_, ?_⟩
        · show max _ _ + 1 ≤ max y.deep z.deep + 1; omega
        · show _ + _ + 1 ≤ y.size + z.size + 1; omega
end
end F1
end VL
namespace VL
open PySem PySem.Spec L2
namespace F1
section
variable {h : House} {n : Nat}
def aheadT7 (h : House) (X : D) (many : Int) (us : List Nat) (r : List Str) : Ta := [.fz (houseE h), .fz (crowdE us), .fz X, .fz (.int many), .ow (sD r), .un, .un]
theorem ahead_go7 (d : Drawn h) (hwish : h.wish = .yes) {X : D} {N : Nat} (hX : Ints X N) (hN : 30 ≤ N) (ws : List Nat) (many : Int) (M : Nat) (hM : M ≤ 100) : ∀ (l : List Nat) (r : List Str) (us : List Nat), Ah h ws (M - l.length) r us → l.length ≤ M → (∀ j ∈ l, j < 100) →
    ∃ r' us', Ah h ws M r' us' ∧ (fgo (C (n + 6)) gc0 gas [5] true b__law_ahead_57_0 [5, 6] (l.map natD) (aheadT7 h X many us r) = .ok (.nx (aheadT7 h X many us' r')) ∨
      fgo (C (n + 6)) gc0 gas [5] true b__law_ahead_57_0 [5, 6] (l.map natD) (aheadT7 h X many us r) = .ok (.rt false (.tuple [sD r', crowdE us'])))
  | [], r, us, a, _, _ => ⟨r, us, ⟨a.ok, a.run, a.lt, a.few⟩, .inl rfl⟩
  | j :: l, r, us, a, hl, hj => by
    have gl := drawn_gl0 d hwish (m := n + 5) (by omega)
    have hdl : (0 : Int) < h.deeds.length := by have := List.length_pos_iff.mpr d.some; omega
    have hdl2 : 0 < h.deeds.length := by omega
    obtain ⟨q, hq⟩ : ∃ q : Nat, (j : Int) % 30 = (q : Int) := ⟨j % 30, by omega⟩
    obtain ⟨b, eb⟩ := ints_ix hX (k := q) (by omega)
    obtain ⟨e, em, ee⟩ := ix_deed d.some (b / (1 + (j : Int)))
    have b1 : (0 : Int) < 1 + (j : Int) := by omega
    have b2 : 1 + (j : Int) < 1000000000000000000000000000000 := by have := hj j (List.mem_cons_self ..); omega
    have c := lcan_ok (h := h) (n := n + 5) (ws := us) gl.g.few (gl.g.need e em).1 (gl.g.need e em).2
    have bh := lbehind_ok (n := n + 5) gl.g.few gl.g.nd (gl.g.ways e em) (ws := us) a.lt (.str e.name) e.need.enc
    have bh' : C (n + 5 + 1) 17 [sD h.facts, deedE e, crowdE us] = .ok (false, crowdE (behind h.facts e.ways us)) := bh
    have hrl : r.length ≤ 1000 := by have := a.few; omega
    cases hf : (failing h.facts e.need us).isNone with
    | false =>
      rw [hf] at c
      refine ⟨r, us, ⟨a.ok, a.run, a.lt, by have := a.few; omega⟩, .inr ?_⟩
      rw [List.map_cons, s_fgo]
      simp [aheadT7, b__law_ahead_57_0, natD, hq, eb, len_deeds, hdl, hdl2, b1, b2, ee, c]
    | true =>
      rw [hf] at c
      have hn := named_self d.dnd em
      obtain ⟨r', us', a', q'⟩ := ahead_go7 d hwish hX hN ws many M hM l (r ++ [e.name]) (behind h.facts e.ways us) ⟨fun x m => by
        rcases List.mem_append.mp m with z | z
        · exact a.ok x z
        · rw [List.mem_singleton.mp z]; exact ⟨(d.deeds e em).2.2.1, e, hn⟩, run_snoc a.run hn hf, behind_lt (gl.g.ways e em) a.lt, by have := a.few; rw [List.length_append, List.length_singleton]; simp only [List.length_cons] at this hl; omega⟩ (by simp only [List.length_cons] at hl; omega) fun i m => hj i (List.mem_cons_of_mem _ m)
      refine ⟨r', us', a', ?_⟩
      have step : fgo (C (n + 6)) gc0 gas [5] true b__law_ahead_57_0 [5, 6] ((j :: l).map natD) (aheadT7 h X many us r) = fgo (C (n + 6)) gc0 gas [5] true b__law_ahead_57_0 [5, 6] (l.map natD) (aheadT7 h X many (behind h.facts e.ways us) (r ++ [e.name])) := by
        rw [List.map_cons, s_fgo]
        simp [aheadT7, b__law_ahead_57_0, natD, hq, eb, len_deeds, hdl, hdl2, b1, b2, ee, c, bh', app_sD hrl]
      rw [step]
      exact q'
theorem lahead7_ok (d : Drawn h) (hwish : h.wish = .yes) {X : D} {N : Nat} (hX : Ints X N) (hN : 30 ≤ N) {ws : List Nat} (hw : ∀ w ∈ ws, w < 2 ^ h.facts.length) (many : Nat) (hm : many ≤ 100) :
    ∃ r us, Ah h ws many r us ∧ C (n + 7) 57 [houseE h, crowdE ws, X, .int (many : Int)] = .ok (false, .tuple [sD r, crowdE us]) := by
  obtain ⟨r, us, a, q⟩ := ahead_go7 (n := n) d hwish hX hN ws (many : Int) many hm (List.range many) [] ws ⟨fun x m => (by cases m), rfl, hw, Nat.zero_le _⟩ (by rw [List.length_range]; exact Nat.le_refl _) fun j hj => by have := List.mem_range.mp hj; omega
  refine ⟨r, us, a, ?_⟩
  have hm2 : many ≤ 1000 := by omega
  unfold aheadT7 at q
  rw [sD_nil] at q
  rw [at__law_ahead_57]
  simp [d__law_ahead_57, hm2]
  rcases q with q | q
  · rw [q]; simp
  · rw [q]; simp
end
def tl59 : S := dropT 6 b_law_59_2
theorem b_split59 : b_law_59_2 = putT 6 b_law_59_2 tl59 := rfl
section
variable {h : House}
theorem tail59 (hd : Drawn h) (hwish : h.wish = .yes) {ws : List Nat} (cr : Cr h.facts.length ws) {t : Tr} (o : t.ok h) (hdp : t.deep ≤ 60) (hsz : t.size ≤ 400) (hc : canT h t ws = true) (he : (endsT h t ws).length ≤ 100) (S X : D) (k : Nat) (s5 : Sl) {a51 : Int} (e51 : ixD X (.int 51) = .ok (.fz, .int a51)) :
    ∃ τ, run (C 199) gc0 gas tl59 [.fz S, .fz (natD k), .nw X, .fz (houseE h), .fz (crowdE ws), s5, .un, .fz t.enc, .fz (.list (crowdsE (endsT h t ws))), .un, .un, .un, .un] = .ok (.nx τ) ∧ τ.length = 13 ∧ τ[0]? = some (.fz S) := by
  obtain ⟨w, k23, won, wdep, wwell⟩ := wish_tree hd cr hwish hc he a51 197
  obtain ⟨H, hH⟩ : ∃ H : House, H = { h with wish := w } := ⟨_, rfl⟩
  have shH : SeqAt.shaped (houseE H) = true := by rw [hH]; exact lay_house hd won (by omega)
  have gH : GL 100 H := by rw [hH]; exact drawn_gl hd won (by omega) (by decide)
  have oH : TrOk H 400 t := by rw [hH]; exact ⟨tok_wish o, hdp, hsz⟩
  have cH : Cr H.facts.length ws := by rw [hH]; exact cr
  rw [← hH] at k23 wwell
  have k23' : C 199 23 [houseE h, .list (crowdsE (endsT h t ws)), .int a51] = .ok (false, houseE H) := k23
  have wyH : Wy H := by rw [hH]; exact fun d hd' => (hd.deeds d hd').2.2.2
  have i58 : C 199 58 [houseE H, crowdE ws, t.enc] = .ok (false, (bareT H t ws).enc) := lbare_ok (n := 134) (gH.mono (by omega)) wyH t 60 ws oH.ok hdp cH wwell
  have i56 : C 199 56 [houseE H, crowdE ws, t.enc] = .ok (false, (bareT H t ws).enc) := bare_tree_ok (n := 133) (gH.mono (by omega)) wyH oH cH wwell
  have i27 : C 199 27 [houseE H] = .ok (false, houseE H) := copy_ok (n := 198) H
  obtain ⟨m1, m2, _⟩ := bareT_facts t ws oH.ok
  have i24 : C 199 24 [(bareT H t ws).enc, (bareT H t ws).enc] = .ok (false, .bool true) := alike_tree _ 199 m1 (by omega)
  generalize bareT H t ws = M at i58 i56 i24
  have eH := eqv_self shH
  simp [tl59, dropT, b_law_59_2, e51, k23', i58, i27, rng2_ok, s_fgo, fgo_nil, b_law_59_1, i56, i24, shH, eH]
end
end F1
end VL
namespace VL
open PySem PySem.Spec L2
namespace F1
def U0 (S : D) : Ta := [.fz S, .un, .un, .un, .un, .un, .un, .un, .un, .un, .un, .un, .un]
theorem wiped13 {S : D} {τ : Ta} (hl : τ.length = 13) (h0 : τ[0]? = some (.fz S)) : wipeT [1, 2, 3, 4, 5, 6, 7, 8, 9, 10, 11, 12] τ = U0 S := by
  match τ, hl with
  | [a, _, _, _, _, _, _, _, _, _, _, _, _], _ =>
    have e : a = .fz S := by simpa using h0
    rw [e]; rfl
theorem chain_go (τ : Ta) (hτ : τ.length = 13) (b : S) (hb : b = (.seq (.asz 7 (.tup (.cons (.cst (.str "do")) (.cons (.var 9) (.cons (.var 7) .nil))))) .nil)) (t : Tr) (r : List Str) :
    fgo (C 199) gc0 gas [9] true b [9] (r.reverse.map .str) ((τ.set 7 (.fz t.enc)).set 9 .un) = .ok (.nx ((τ.set 7 (.fz (chain r t).enc)).set 9 .un)) := by
  have L := (fgo_fold (cl := C 199) (gc := gc0) (g := gas) (vs := [9]) (one := true) (b := b) (ks := [9]) (enc := PyData.str)
    (pack := fun (t : Tr) => (τ.set 7 (.fz t.enc)).set 9 .un) (step := fun t x => .act x t) (fun _ => True) (l := r.reverse) (x := t) (fun x hm t ds _ => by
      refine ⟨?_, trivial⟩
      match τ, hτ with
      | [a0, a1, a2, a3, a4, a5, a6, a7, a8, a9, a10, a11, a12], _ =>
        rw [s_fgo, hb]
        simp [Tr.enc]) trivial).1
  rw [L, List.foldl_reverse]
  rfl
theorem turn59 {S : D} {k : Nat} {c : Int} (hS : C 199 13 [S, natD k] = .ok (false, .int c)) (ds : List D) :
    fgo (C 199) gc0 gas [1] true b_law_59_2 [1, 2, 3, 4, 5, 6, 7, 8, 9, 10, 11, 12] (natD k :: ds) (U0 S) = fgo (C 199) gc0 gas [1] true b_law_59_2 [1, 2, 3, 4, 5, 6, 7, 8, 9, 10, 11, 12] ds (U0 S) := by
  obtain ⟨xs, e1, x1, x2⟩ := digitsN_ok (n := 198) c 52 (by decide)
  have hX := digN_of x1 (by decide) x2
  have hI : Ints (.list (xs.map .int)) 52 := ⟨xs, rfl, x1⟩
  have e1 : C 199 14 [.int c, .int 52, .int 1000000000] = .ok (true, .list (xs.map .int)) := e1
  generalize (PyData.list (xs.map .int)) = X at e1 hX hI
  obtain ⟨h, hd, hwish, e2⟩ := drawn_ok (n := 197) hX
  have e2 : C 199 20 [X] = .ok (false, houseE h) := e2
  obtain ⟨a19, _, e19⟩ := hX 19 (by decide) (by decide)
  obtain ⟨a18, _, e18⟩ := hX 18 (by decide) (by decide)
  obtain ⟨a17, _, e17⟩ := hX 17 (by decide) (by decide)
  obtain ⟨a50, e50⟩ := ints_ix hI (k := 50) (by decide)
  obtain ⟨a51, e51⟩ := ints_ix hI (k := 51) (by decide)
  have e50 : ixD X (.int 50) = .ok (.fz, .int a50) := e50
  have e51 : ixD X (.int 51) = .ok (.fz, .int a51) := e51
  obtain ⟨us, cu, e3⟩ := crowd_ok (n := 198) hd a19 (a18 + 7 * a17)
  have e3 : C 199 21 [houseE h, .list [.int a19, .int (a18 + 7 * a17)]] = .ok (false, crowdE us) := e3
  obtain ⟨Y, sl20, hY⟩ := ints_from hI (a := 20) (by decide)
  obtain ⟨Z, sl51, hZ⟩ := ints_cut hI (a := 20) (b := 51) (by decide) (by decide)
  have sl20 : slD X (some 20) none = .ok (.ow, Y) := sl20
  have sl51 : slD X (some 20) (some 51) = .ok (.ow, Z) := sl51
  rw [s_fgo, b_split59]
  obtain ⟨many, hm, hmany⟩ : ∃ many : Nat, many ≤ 30 ∧ 30 * (if a50 % 8 == 3 then 1 else 0) = (many : Int) := by
    cases a50 % 8 == 3 with
    | true => exact ⟨30, Nat.le_refl _, rfl⟩
    | false => exact ⟨0, by decide, rfl⟩
  obtain ⟨row, st, ah, q1⟩ := lahead7_ok (n := 192) hd hwish hY (by decide) cu.lt many (by omega)
  have q1 : C 199 57 [houseE h, crowdE us, Y, .int (many : Int)] = .ok (false, .tuple [sD row, crowdE st]) := q1
  obtain ⟨q, hq, hq3⟩ : ∃ q : Nat, 1 + a19 / 128 % 5 = (q : Int) ∧ q ≤ 5 := ⟨(1 + a19 / 128 % 5).toNat, by omega, by omega⟩
  obtain ⟨t, t1, t2, t3, t4, t5⟩ := grown_ok (n := 185) hd hwish hZ (by decide) q 9 st 0 (by omega) ah.lt (by omega)
  have t5 : C 199 43 [houseE h, crowdE st, Z, .int 0, .int (q : Int)] = .ok (false, .tuple [t.enc, .list (crowdsE (endsT h t st))]) := t5
  obtain ⟨c1, c2⟩ := chain_run (t := t) ah.run
  have hq4 : 2 ^ (q + 1) ≤ 2 ^ 6 := Nat.pow_le_pow_right (by decide) (by omega)
  have hrow := ah.few
  obtain ⟨τ, r1, r2, r3⟩ := tail59 hd hwish cu (chain_ok ah.ok t1) (by rw [chain_deep]; omega) (by rw [chain_size]; omega) (by rw [c1]; exact t4) (by rw [c2]; have := ends_few (h := h) t st; omega) S X k (.fz (sD row)) e51
  rw [c2] at r1
  have fin := wiped13 r2 r3
  have ch := chain_go [.fz S, .fz (natD k), .nw X, .fz (houseE h), .fz (crowdE us), .fz (sD row), .un, .un, .fz (.list (crowdsE (endsT h t st))), .un, .un, .un, .un] rfl b_law_59_0 rfl t row
  simp at ch
  have hm30 : ∀ k : Kd, b2 (.ok (.fz, .int 30)) (bik .int (.ok (k, .list [.bool (a50 % 8 == 3)]))) (binD .mul) = .ok (.fz, .int (many : Int)) := fun k => by
    rw [← hmany]
    simp [o_mulB]
  simp [putT, b_law_59_2, U0, hS, pow9, e1, e2, e19, e18, e17, o_mulB, e3, e50, sl20, sl51]
  rw [show (30 * if a50 % 8 = 3 then (1 : Int) else 0) = (many : Int) by rw [← hmany]; simp]
  simp [q1, e19, sl51, hq, t5, rev_sD, one_sDo]
  rw [ch]
  simp [r1, fin]
  rfl
theorem turns59 (ns : List Int) : ∀ l : List Nat, fgo (C 199) gc0 gas [1] true b_law_59_2 [1, 2, 3, 4, 5, 6, 7, 8, 9, 10, 11, 12] (l.map natD) (U0 (.list (ns.map .int))) = .ok (.nx (U0 (.list (ns.map .int))))
  | [] => rfl
  | k :: l => by
    obtain ⟨c, hc⟩ := cell_ok (n := 198) (ns := ns) (k := k)
    rw [List.map_cons, turn59 hc]
    exact turns59 ns l
theorem law_true (ns : List Int) (h : ns.length ≤ 63) : call Φ gc0 gas 200 59 [.list (ns.map .int)] = .ok (false, .bool true) := by
  have T := turns59 ns
  obtain ⟨j, hj, e⟩ : ∃ j : Nat, j ≤ 1000 ∧ bik .max (conpk (.ok (.fz, .int 1)) (conpk (bik .min (.ok (.pk, .list [.int (ns.length : Nat), .int 6]))) (.ok (.fz, .list [])))) = .ok (.fz, .int (j : Int)) := by
    by_cases h6 : (6 : Int) < ns.length
    · refine ⟨6, by decide, ?_⟩
      simp [h6]
    · by_cases h1 : (1 : Int) < ns.length
      · refine ⟨ns.length, by omega, ?_⟩
        simp [h6, h1]
      · refine ⟨1, by decide, ?_⟩
        simp [h6, h1]
  show C (199 + 1) 59 _ = _
  rw [at_law_59]
  have hr := k_rng (k := .fz) hj
  rw [← e] at hr
  simp [d_law_59] at hr ⊢
  rw [hr]
  simp
  have t := T (List.range j)
  unfold U0 at t
  rw [t]
  simp
end F1
end VL
namespace VL
open PySem PySem.Spec L2
namespace F1
namespace K66
def rs : List FRow := [
  ⟨"holds", 0, ["facts", "condition", "world"], ["facts", "condition", "world"], 8⟩,
  ⟨"how_many_worlds", 1, ["facts"], ["facts"], 9⟩,
  ⟨"need_deed", 3, ["house", "name", "deed"], ["house", "name"], 11⟩,
  ⟨"is_crowd", 4, ["house", "crowd", "k"], ["house", "crowd"], 12⟩,
  ⟨"need_crowd", 5, ["house", "crowd"], ["house", "crowd"], 13⟩,
  ⟨"can_be_done", 52, ["house", "deed", "crowd", "world"], ["house", "deed", "crowd"], 14⟩,
  ⟨"changed", 6, ["house", "way", "world", "facts", "found", "when", "fact", "truth", "bit"], ["house", "way", "world"], 15⟩,
  ⟨"all_behind", 7, ["house", "deed", "crowd", "found", "world", "way"], ["house", "deed", "crowd"], 16⟩,
  ⟨"crowd_behind", 53, ["house", "deed", "crowd", "own"], ["house", "deed", "crowd"], 17⟩,
  ⟨"need_look", 30, ["house", "name", "look"], ["house", "name"], 19⟩,
  ⟨"sides_by", 31, ["house", "look", "crowd", "yes", "world"], ["house", "look", "crowd"], 20⟩,
  ⟨"sides_of", 54, ["house", "look", "crowd", "own"], ["house", "look", "crowd"], 21⟩,
  ⟨"trees_within", 32, ["tree"], ["tree"], 23⟩,
  ⟨"all_parts", 33, ["tree", "found", "pile", "one"], ["tree"], 24⟩,
  ⟨"need_names", 34, ["house", "tree", "part"], ["house", "tree"], 25⟩,
  ⟨"barring", 35, ["house", "need", "crowd", "world"], ["house", "need", "crowd"], 26⟩,
  ⟨"parts_walked", 36, ["house", "crowd", "tree", "way", "deed", "look", "yes", "no", "sides", "side"], ["house", "crowd", "tree", "way"], 27⟩,
  ⟨"tree_goes", 37, ["house", "crowd", "tree", "ends", "pile", "here", "one", "way", "need", "behind", "bars", "deed", "other", "longer", "side", "there"], ["house", "crowd", "tree"], 28⟩,
  ⟨"need_good_tree", 40, ["house", "crowd", "tree"], ["house", "crowd", "tree"], 30⟩,
  ⟨"bare_from", 55, ["house", "crowd", "tree", "yes", "no"], ["house", "crowd", "tree"], 31⟩,
  ⟨"bare_tree", 56, ["house", "crowd", "tree"], ["house", "crowd", "tree"], 32⟩,
  ⟨"_law_cell_at", 13, ["script", "k"], ["script", "k"], 34⟩,
  ⟨"_law_digits", 14, ["cell", "many", "top", "found", "rest", "k", "stir"], ["cell", "many", "top"], 35⟩,
  ⟨"_law_holds", 15, ["facts", "condition", "world", "word", "one", "other"], ["facts", "condition", "world"], 36⟩,
  ⟨"_law_can", 16, ["facts", "need", "crowd", "world"], ["facts", "need", "crowd"], 37⟩,
  ⟨"_law_behind", 17, ["facts", "deed", "crowd", "found", "world", "way", "there", "when", "fact", "truth", "other", "k", "so"], ["facts", "deed", "crowd"], 38⟩,
  ⟨"_law_named", 18, ["some", "name", "one"], ["some", "name"], 39⟩,
  ⟨"_law_condition", 19, ["number", "facts", "one", "two", "some"], ["number", "facts"], 40⟩,
  ⟨"_law_drawn_house", 20, ["xs", "names", "facts", "deeds", "k", "ways", "j", "number", "way", "i", "when", "need", "looks", "firsts", "world"], ["xs"], 41⟩,
  ⟨"_law_crowd", 21, ["house", "xs", "many", "drawn", "world"], ["house", "xs"], 42⟩,
  ⟨"_law_known", 22, ["facts", "crowds", "found", "k", "truths", "crowd", "world"], ["facts", "crowds"], 43⟩,
  ⟨"_law_wished", 23, ["house", "crowds", "number", "wish", "one"], ["house", "crowds", "number"], 44⟩,
  ⟨"_law_alike", 24, ["found", "due", "k"], ["found", "due"], 45⟩,
  ⟨"_law_sides", 42, ["house", "look", "crowd", "yes", "world"], ["house", "look", "crowd"], 46⟩,
  ⟨"_law_grown", 43, ["house", "crowd", "xs", "at", "deep", "kind", "rest", "deed", "tree", "ends", "look", "sides", "yes", "no", "others"], ["house", "crowd", "xs", "at", "deep"], 47⟩,
  ⟨"_law_copy", 27, ["house", "deeds", "way", "name", "need", "ways"], ["house"], 49⟩,
  ⟨"_law_ahead", 57, ["house", "crowd", "xs", "many", "done", "j", "deed"], ["house", "crowd", "xs", "many"], 50⟩,
  ⟨"_law_bare", 58, ["house", "crowd", "tree", "deed", "sides", "k"], ["house", "crowd", "tree"], 51⟩,
  ⟨"law", 59, ["script", "k", "xs", "house", "crowd", "ahead", "start", "tree", "ends", "name", "due", "given", "turn"], ["script"], 52⟩]
def exT : List (Str × Nat) := [("PlanError", 0), ("NoDeed", 1), ("NoWorld", 2), ("NoNeed", 5), ("NoLook", 4), ("NoPlan", 3)]
/-- the text -/
abbrev body : List Stmt := PySem.Challenge.pw_sureplans_k66_bare_trees.main.body
set_option maxRecDepth 1000000 in
theorem rows_ok : rs.all (rowB Φ (fnOfRows rs) [] exT body) = true := by decide +kernel
theorem bd_holds : ∀ (kV doc pm : Value) (an : Option Addr) (cdv ct : Value) (us : List Value), us.length = ([("facts" : Str), ("condition" : Str), ("world" : Str)] : List Str).length → bindArgs (PySem.W.fnOf "holds" "holds" (defArgs (stAt body 8)) (defBody (stAt body 8)) (defScope (stAt body 8)) .none kV doc pm an cdv ct) ⟨us, []⟩ = pure (([("facts" : Str), ("condition" : Str), ("world" : Str)] : List Str).zip us) := fun _ _ _ _ _ _ us hl => match us, hl with | [_, _, _], _ => rfl
theorem bd_how_many_worlds : ∀ (kV doc pm : Value) (an : Option Addr) (cdv ct : Value) (us : List Value), us.length = ([("facts" : Str)] : List Str).length → bindArgs (PySem.W.fnOf "how_many_worlds" "how_many_worlds" (defArgs (stAt body 9)) (defBody (stAt body 9)) (defScope (stAt body 9)) .none kV doc pm an cdv ct) ⟨us, []⟩ = pure (([("facts" : Str)] : List Str).zip us) := fun _ _ _ _ _ _ us hl => match us, hl with | [_], _ => rfl
theorem bd_need_deed : ∀ (kV doc pm : Value) (an : Option Addr) (cdv ct : Value) (us : List Value), us.length = ([("house" : Str), ("name" : Str)] : List Str).length → bindArgs (PySem.W.fnOf "need_deed" "need_deed" (defArgs (stAt body 11)) (defBody (stAt body 11)) (defScope (stAt body 11)) .none kV doc pm an cdv ct) ⟨us, []⟩ = pure (([("house" : Str), ("name" : Str)] : List Str).zip us) := fun _ _ _ _ _ _ us hl => match us, hl with | [_, _], _ => rfl
theorem bd_is_crowd : ∀ (kV doc pm : Value) (an : Option Addr) (cdv ct : Value) (us : List Value), us.length = ([("house" : Str), ("crowd" : Str)] : List Str).length → bindArgs (PySem.W.fnOf "is_crowd" "is_crowd" (defArgs (stAt body 12)) (defBody (stAt body 12)) (defScope (stAt body 12)) .none kV doc pm an cdv ct) ⟨us, []⟩ = pure (([("house" : Str), ("crowd" : Str)] : List Str).zip us) := fun _ _ _ _ _ _ us hl => match us, hl with | [_, _], _ => rfl
theorem bd_need_crowd : ∀ (kV doc pm : Value) (an : Option Addr) (cdv ct : Value) (us : List Value), us.length = ([("house" : Str), ("crowd" : Str)] : List Str).length → bindArgs (PySem.W.fnOf "need_crowd" "need_crowd" (defArgs (stAt body 13)) (defBody (stAt body 13)) (defScope (stAt body 13)) .none kV doc pm an cdv ct) ⟨us, []⟩ = pure (([("house" : Str), ("crowd" : Str)] : List Str).zip us) := fun _ _ _ _ _ _ us hl => match us, hl with | [_, _], _ => rfl
theorem bd_can_be_done : ∀ (kV doc pm : Value) (an : Option Addr) (cdv ct : Value) (us : List Value), us.length = ([("house" : Str), ("deed" : Str), ("crowd" : Str)] : List Str).length → bindArgs (PySem.W.fnOf "can_be_done" "can_be_done" (defArgs (stAt body 14)) (defBody (stAt body 14)) (defScope (stAt body 14)) .none kV doc pm an cdv ct) ⟨us, []⟩ = pure (([("house" : Str), ("deed" : Str), ("crowd" : Str)] : List Str).zip us) := fun _ _ _ _ _ _ us hl => match us, hl with | [_, _, _], _ => rfl
theorem bd_changed : ∀ (kV doc pm : Value) (an : Option Addr) (cdv ct : Value) (us : List Value), us.length = ([("house" : Str), ("way" : Str), ("world" : Str)] : List Str).length → bindArgs (PySem.W.fnOf "changed" "changed" (defArgs (stAt body 15)) (defBody (stAt body 15)) (defScope (stAt body 15)) .none kV doc pm an cdv ct) ⟨us, []⟩ = pure (([("house" : Str), ("way" : Str), ("world" : Str)] : List Str).zip us) := fun _ _ _ _ _ _ us hl => match us, hl with | [_, _, _], _ => rfl
theorem bd_all_behind : ∀ (kV doc pm : Value) (an : Option Addr) (cdv ct : Value) (us : List Value), us.length = ([("house" : Str), ("deed" : Str), ("crowd" : Str)] : List Str).length → bindArgs (PySem.W.fnOf "all_behind" "all_behind" (defArgs (stAt body 16)) (defBody (stAt body 16)) (defScope (stAt body 16)) .none kV doc pm an cdv ct) ⟨us, []⟩ = pure (([("house" : Str), ("deed" : Str), ("crowd" : Str)] : List Str).zip us) := fun _ _ _ _ _ _ us hl => match us, hl with | [_, _, _], _ => rfl
theorem bd_crowd_behind : ∀ (kV doc pm : Value) (an : Option Addr) (cdv ct : Value) (us : List Value), us.length = ([("house" : Str), ("deed" : Str), ("crowd" : Str)] : List Str).length → bindArgs (PySem.W.fnOf "crowd_behind" "crowd_behind" (defArgs (stAt body 17)) (defBody (stAt body 17)) (defScope (stAt body 17)) .none kV doc pm an cdv ct) ⟨us, []⟩ = pure (([("house" : Str), ("deed" : Str), ("crowd" : Str)] : List Str).zip us) := fun _ _ _ _ _ _ us hl => match us, hl with | [_, _, _], _ => rfl
theorem bd_need_look : ∀ (kV doc pm : Value) (an : Option Addr) (cdv ct : Value) (us : List Value), us.length = ([("house" : Str), ("name" : Str)] : List Str).length → bindArgs (PySem.W.fnOf "need_look" "need_look" (defArgs (stAt body 19)) (defBody (stAt body 19)) (defScope (stAt body 19)) .none kV doc pm an cdv ct) ⟨us, []⟩ = pure (([("house" : Str), ("name" : Str)] : List Str).zip us) := fun _ _ _ _ _ _ us hl => match us, hl with | [_, _], _ => rfl
theorem bd_sides_by : ∀ (kV doc pm : Value) (an : Option Addr) (cdv ct : Value) (us : List Value), us.length = ([("house" : Str), ("look" : Str), ("crowd" : Str)] : List Str).length → bindArgs (PySem.W.fnOf "sides_by" "sides_by" (defArgs (stAt body 20)) (defBody (stAt body 20)) (defScope (stAt body 20)) .none kV doc pm an cdv ct) ⟨us, []⟩ = pure (([("house" : Str), ("look" : Str), ("crowd" : Str)] : List Str).zip us) := fun _ _ _ _ _ _ us hl => match us, hl with | [_, _, _], _ => rfl
theorem bd_sides_of : ∀ (kV doc pm : Value) (an : Option Addr) (cdv ct : Value) (us : List Value), us.length = ([("house" : Str), ("look" : Str), ("crowd" : Str)] : List Str).length → bindArgs (PySem.W.fnOf "sides_of" "sides_of" (defArgs (stAt body 21)) (defBody (stAt body 21)) (defScope (stAt body 21)) .none kV doc pm an cdv ct) ⟨us, []⟩ = pure (([("house" : Str), ("look" : Str), ("crowd" : Str)] : List Str).zip us) := fun _ _ _ _ _ _ us hl => match us, hl with | [_, _, _], _ => rfl
theorem bd_trees_within : ∀ (kV doc pm : Value) (an : Option Addr) (cdv ct : Value) (us : List Value), us.length = ([("tree" : Str)] : List Str).length → bindArgs (PySem.W.fnOf "trees_within" "trees_within" (defArgs (stAt body 23)) (defBody (stAt body 23)) (defScope (stAt body 23)) .none kV doc pm an cdv ct) ⟨us, []⟩ = pure (([("tree" : Str)] : List Str).zip us) := fun _ _ _ _ _ _ us hl => match us, hl with | [_], _ => rfl
theorem bd_all_parts : ∀ (kV doc pm : Value) (an : Option Addr) (cdv ct : Value) (us : List Value), us.length = ([("tree" : Str)] : List Str).length → bindArgs (PySem.W.fnOf "all_parts" "all_parts" (defArgs (stAt body 24)) (defBody (stAt body 24)) (defScope (stAt body 24)) .none kV doc pm an cdv ct) ⟨us, []⟩ = pure (([("tree" : Str)] : List Str).zip us) := fun _ _ _ _ _ _ us hl => match us, hl with | [_], _ => rfl
theorem bd_need_names : ∀ (kV doc pm : Value) (an : Option Addr) (cdv ct : Value) (us : List Value), us.length = ([("house" : Str), ("tree" : Str)] : List Str).length → bindArgs (PySem.W.fnOf "need_names" "need_names" (defArgs (stAt body 25)) (defBody (stAt body 25)) (defScope (stAt body 25)) .none kV doc pm an cdv ct) ⟨us, []⟩ = pure (([("house" : Str), ("tree" : Str)] : List Str).zip us) := fun _ _ _ _ _ _ us hl => match us, hl with | [_, _], _ => rfl
theorem bd_barring : ∀ (kV doc pm : Value) (an : Option Addr) (cdv ct : Value) (us : List Value), us.length = ([("house" : Str), ("need" : Str), ("crowd" : Str)] : List Str).length → bindArgs (PySem.W.fnOf "barring" "barring" (defArgs (stAt body 26)) (defBody (stAt body 26)) (defScope (stAt body 26)) .none kV doc pm an cdv ct) ⟨us, []⟩ = pure (([("house" : Str), ("need" : Str), ("crowd" : Str)] : List Str).zip us) := fun _ _ _ _ _ _ us hl => match us, hl with | [_, _, _], _ => rfl
theorem bd_parts_walked : ∀ (kV doc pm : Value) (an : Option Addr) (cdv ct : Value) (us : List Value), us.length = ([("house" : Str), ("crowd" : Str), ("tree" : Str), ("way" : Str)] : List Str).length → bindArgs (PySem.W.fnOf "parts_walked" "parts_walked" (defArgs (stAt body 27)) (defBody (stAt body 27)) (defScope (stAt body 27)) .none kV doc pm an cdv ct) ⟨us, []⟩ = pure (([("house" : Str), ("crowd" : Str), ("tree" : Str), ("way" : Str)] : List Str).zip us) := fun _ _ _ _ _ _ us hl => match us, hl with | [_, _, _, _], _ => rfl
theorem bd_tree_goes : ∀ (kV doc pm : Value) (an : Option Addr) (cdv ct : Value) (us : List Value), us.length = ([("house" : Str), ("crowd" : Str), ("tree" : Str)] : List Str).length → bindArgs (PySem.W.fnOf "tree_goes" "tree_goes" (defArgs (stAt body 28)) (defBody (stAt body 28)) (defScope (stAt body 28)) .none kV doc pm an cdv ct) ⟨us, []⟩ = pure (([("house" : Str), ("crowd" : Str), ("tree" : Str)] : List Str).zip us) := fun _ _ _ _ _ _ us hl => match us, hl with | [_, _, _], _ => rfl
theorem bd_need_good_tree : ∀ (kV doc pm : Value) (an : Option Addr) (cdv ct : Value) (us : List Value), us.length = ([("house" : Str), ("crowd" : Str), ("tree" : Str)] : List Str).length → bindArgs (PySem.W.fnOf "need_good_tree" "need_good_tree" (defArgs (stAt body 30)) (defBody (stAt body 30)) (defScope (stAt body 30)) .none kV doc pm an cdv ct) ⟨us, []⟩ = pure (([("house" : Str), ("crowd" : Str), ("tree" : Str)] : List Str).zip us) := fun _ _ _ _ _ _ us hl => match us, hl with | [_, _, _], _ => rfl
theorem bd_bare_from : ∀ (kV doc pm : Value) (an : Option Addr) (cdv ct : Value) (us : List Value), us.length = ([("house" : Str), ("crowd" : Str), ("tree" : Str)] : List Str).length → bindArgs (PySem.W.fnOf "bare_from" "bare_from" (defArgs (stAt body 31)) (defBody (stAt body 31)) (defScope (stAt body 31)) .none kV doc pm an cdv ct) ⟨us, []⟩ = pure (([("house" : Str), ("crowd" : Str), ("tree" : Str)] : List Str).zip us) := fun _ _ _ _ _ _ us hl => match us, hl with | [_, _, _], _ => rfl
theorem bd_bare_tree : ∀ (kV doc pm : Value) (an : Option Addr) (cdv ct : Value) (us : List Value), us.length = ([("house" : Str), ("crowd" : Str), ("tree" : Str)] : List Str).length → bindArgs (PySem.W.fnOf "bare_tree" "bare_tree" (defArgs (stAt body 32)) (defBody (stAt body 32)) (defScope (stAt body 32)) .none kV doc pm an cdv ct) ⟨us, []⟩ = pure (([("house" : Str), ("crowd" : Str), ("tree" : Str)] : List Str).zip us) := fun _ _ _ _ _ _ us hl => match us, hl with | [_, _, _], _ => rfl
theorem bd__law_cell_at : ∀ (kV doc pm : Value) (an : Option Addr) (cdv ct : Value) (us : List Value), us.length = ([("script" : Str), ("k" : Str)] : List Str).length → bindArgs (PySem.W.fnOf "_law_cell_at" "_law_cell_at" (defArgs (stAt body 34)) (defBody (stAt body 34)) (defScope (stAt body 34)) .none kV doc pm an cdv ct) ⟨us, []⟩ = pure (([("script" : Str), ("k" : Str)] : List Str).zip us) := fun _ _ _ _ _ _ us hl => match us, hl with | [_, _], _ => rfl
theorem bd__law_digits : ∀ (kV doc pm : Value) (an : Option Addr) (cdv ct : Value) (us : List Value), us.length = ([("cell" : Str), ("many" : Str), ("top" : Str)] : List Str).length → bindArgs (PySem.W.fnOf "_law_digits" "_law_digits" (defArgs (stAt body 35)) (defBody (stAt body 35)) (defScope (stAt body 35)) .none kV doc pm an cdv ct) ⟨us, []⟩ = pure (([("cell" : Str), ("many" : Str), ("top" : Str)] : List Str).zip us) := fun _ _ _ _ _ _ us hl => match us, hl with | [_, _, _], _ => rfl
theorem bd__law_holds : ∀ (kV doc pm : Value) (an : Option Addr) (cdv ct : Value) (us : List Value), us.length = ([("facts" : Str), ("condition" : Str), ("world" : Str)] : List Str).length → bindArgs (PySem.W.fnOf "_law_holds" "_law_holds" (defArgs (stAt body 36)) (defBody (stAt body 36)) (defScope (stAt body 36)) .none kV doc pm an cdv ct) ⟨us, []⟩ = pure (([("facts" : Str), ("condition" : Str), ("world" : Str)] : List Str).zip us) := fun _ _ _ _ _ _ us hl => match us, hl with | [_, _, _], _ => rfl
theorem bd__law_can : ∀ (kV doc pm : Value) (an : Option Addr) (cdv ct : Value) (us : List Value), us.length = ([("facts" : Str), ("need" : Str), ("crowd" : Str)] : List Str).length → bindArgs (PySem.W.fnOf "_law_can" "_law_can" (defArgs (stAt body 37)) (defBody (stAt body 37)) (defScope (stAt body 37)) .none kV doc pm an cdv ct) ⟨us, []⟩ = pure (([("facts" : Str), ("need" : Str), ("crowd" : Str)] : List Str).zip us) := fun _ _ _ _ _ _ us hl => match us, hl with | [_, _, _], _ => rfl
theorem bd__law_behind : ∀ (kV doc pm : Value) (an : Option Addr) (cdv ct : Value) (us : List Value), us.length = ([("facts" : Str), ("deed" : Str), ("crowd" : Str)] : List Str).length → bindArgs (PySem.W.fnOf "_law_behind" "_law_behind" (defArgs (stAt body 38)) (defBody (stAt body 38)) (defScope (stAt body 38)) .none kV doc pm an cdv ct) ⟨us, []⟩ = pure (([("facts" : Str), ("deed" : Str), ("crowd" : Str)] : List Str).zip us) := fun _ _ _ _ _ _ us hl => match us, hl with | [_, _, _], _ => rfl
theorem bd__law_named : ∀ (kV doc pm : Value) (an : Option Addr) (cdv ct : Value) (us : List Value), us.length = ([("some" : Str), ("name" : Str)] : List Str).length → bindArgs (PySem.W.fnOf "_law_named" "_law_named" (defArgs (stAt body 39)) (defBody (stAt body 39)) (defScope (stAt body 39)) .none kV doc pm an cdv ct) ⟨us, []⟩ = pure (([("some" : Str), ("name" : Str)] : List Str).zip us) := fun _ _ _ _ _ _ us hl => match us, hl with | [_, _], _ => rfl
theorem bd__law_condition : ∀ (kV doc pm : Value) (an : Option Addr) (cdv ct : Value) (us : List Value), us.length = ([("number" : Str), ("facts" : Str)] : List Str).length → bindArgs (PySem.W.fnOf "_law_condition" "_law_condition" (defArgs (stAt body 40)) (defBody (stAt body 40)) (defScope (stAt body 40)) .none kV doc pm an cdv ct) ⟨us, []⟩ = pure (([("number" : Str), ("facts" : Str)] : List Str).zip us) := fun _ _ _ _ _ _ us hl => match us, hl with | [_, _], _ => rfl
theorem bd__law_drawn_house : ∀ (kV doc pm : Value) (an : Option Addr) (cdv ct : Value) (us : List Value), us.length = ([("xs" : Str)] : List Str).length → bindArgs (PySem.W.fnOf "_law_drawn_house" "_law_drawn_house" (defArgs (stAt body 41)) (defBody (stAt body 41)) (defScope (stAt body 41)) .none kV doc pm an cdv ct) ⟨us, []⟩ = pure (([("xs" : Str)] : List Str).zip us) := fun _ _ _ _ _ _ us hl => match us, hl with | [_], _ => rfl
theorem bd__law_crowd : ∀ (kV doc pm : Value) (an : Option Addr) (cdv ct : Value) (us : List Value), us.length = ([("house" : Str), ("xs" : Str)] : List Str).length → bindArgs (PySem.W.fnOf "_law_crowd" "_law_crowd" (defArgs (stAt body 42)) (defBody (stAt body 42)) (defScope (stAt body 42)) .none kV doc pm an cdv ct) ⟨us, []⟩ = pure (([("house" : Str), ("xs" : Str)] : List Str).zip us) := fun _ _ _ _ _ _ us hl => match us, hl with | [_, _], _ => rfl
theorem bd__law_known : ∀ (kV doc pm : Value) (an : Option Addr) (cdv ct : Value) (us : List Value), us.length = ([("facts" : Str), ("crowds" : Str)] : List Str).length → bindArgs (PySem.W.fnOf "_law_known" "_law_known" (defArgs (stAt body 43)) (defBody (stAt body 43)) (defScope (stAt body 43)) .none kV doc pm an cdv ct) ⟨us, []⟩ = pure (([("facts" : Str), ("crowds" : Str)] : List Str).zip us) := fun _ _ _ _ _ _ us hl => match us, hl with | [_, _], _ => rfl
theorem bd__law_wished : ∀ (kV doc pm : Value) (an : Option Addr) (cdv ct : Value) (us : List Value), us.length = ([("house" : Str), ("crowds" : Str), ("number" : Str)] : List Str).length → bindArgs (PySem.W.fnOf "_law_wished" "_law_wished" (defArgs (stAt body 44)) (defBody (stAt body 44)) (defScope (stAt body 44)) .none kV doc pm an cdv ct) ⟨us, []⟩ = pure (([("house" : Str), ("crowds" : Str), ("number" : Str)] : List Str).zip us) := fun _ _ _ _ _ _ us hl => match us, hl with | [_, _, _], _ => rfl
theorem bd__law_alike : ∀ (kV doc pm : Value) (an : Option Addr) (cdv ct : Value) (us : List Value), us.length = ([("found" : Str), ("due" : Str)] : List Str).length → bindArgs (PySem.W.fnOf "_law_alike" "_law_alike" (defArgs (stAt body 45)) (defBody (stAt body 45)) (defScope (stAt body 45)) .none kV doc pm an cdv ct) ⟨us, []⟩ = pure (([("found" : Str), ("due" : Str)] : List Str).zip us) := fun _ _ _ _ _ _ us hl => match us, hl with | [_, _], _ => rfl
theorem bd__law_sides : ∀ (kV doc pm : Value) (an : Option Addr) (cdv ct : Value) (us : List Value), us.length = ([("house" : Str), ("look" : Str), ("crowd" : Str)] : List Str).length → bindArgs (PySem.W.fnOf "_law_sides" "_law_sides" (defArgs (stAt body 46)) (defBody (stAt body 46)) (defScope (stAt body 46)) .none kV doc pm an cdv ct) ⟨us, []⟩ = pure (([("house" : Str), ("look" : Str), ("crowd" : Str)] : List Str).zip us) := fun _ _ _ _ _ _ us hl => match us, hl with | [_, _, _], _ => rfl
theorem bd__law_grown : ∀ (kV doc pm : Value) (an : Option Addr) (cdv ct : Value) (us : List Value), us.length = ([("house" : Str), ("crowd" : Str), ("xs" : Str), ("at" : Str), ("deep" : Str)] : List Str).length → bindArgs (PySem.W.fnOf "_law_grown" "_law_grown" (defArgs (stAt body 47)) (defBody (stAt body 47)) (defScope (stAt body 47)) .none kV doc pm an cdv ct) ⟨us, []⟩ = pure (([("house" : Str), ("crowd" : Str), ("xs" : Str), ("at" : Str), ("deep" : Str)] : List Str).zip us) := fun _ _ _ _ _ _ us hl => match us, hl with | [_, _, _, _, _], _ => rfl
theorem bd__law_copy : ∀ (kV doc pm : Value) (an : Option Addr) (cdv ct : Value) (us : List Value), us.length = ([("house" : Str)] : List Str).length → bindArgs (PySem.W.fnOf "_law_copy" "_law_copy" (defArgs (stAt body 49)) (defBody (stAt body 49)) (defScope (stAt body 49)) .none kV doc pm an cdv ct) ⟨us, []⟩ = pure (([("house" : Str)] : List Str).zip us) := fun _ _ _ _ _ _ us hl => match us, hl with | [_], _ => rfl
theorem bd__law_ahead : ∀ (kV doc pm : Value) (an : Option Addr) (cdv ct : Value) (us : List Value), us.length = ([("house" : Str), ("crowd" : Str), ("xs" : Str), ("many" : Str)] : List Str).length → bindArgs (PySem.W.fnOf "_law_ahead" "_law_ahead" (defArgs (stAt body 50)) (defBody (stAt body 50)) (defScope (stAt body 50)) .none kV doc pm an cdv ct) ⟨us, []⟩ = pure (([("house" : Str), ("crowd" : Str), ("xs" : Str), ("many" : Str)] : List Str).zip us) := fun _ _ _ _ _ _ us hl => match us, hl with | [_, _, _, _], _ => rfl
theorem bd__law_bare : ∀ (kV doc pm : Value) (an : Option Addr) (cdv ct : Value) (us : List Value), us.length = ([("house" : Str), ("crowd" : Str), ("tree" : Str)] : List Str).length → bindArgs (PySem.W.fnOf "_law_bare" "_law_bare" (defArgs (stAt body 51)) (defBody (stAt body 51)) (defScope (stAt body 51)) .none kV doc pm an cdv ct) ⟨us, []⟩ = pure (([("house" : Str), ("crowd" : Str), ("tree" : Str)] : List Str).zip us) := fun _ _ _ _ _ _ us hl => match us, hl with | [_, _, _], _ => rfl
theorem bd_law : ∀ (kV doc pm : Value) (an : Option Addr) (cdv ct : Value) (us : List Value), us.length = ([("script" : Str)] : List Str).length → bindArgs (PySem.W.fnOf "law" "law" (defArgs (stAt body 52)) (defBody (stAt body 52)) (defScope (stAt body 52)) .none kV doc pm an cdv ct) ⟨us, []⟩ = pure (([("script" : Str)] : List Str).zip us) := fun _ _ _ _ _ _ us hl => match us, hl with | [_], _ => rfl
theorem all_mk {P : Program} {w : World} {K : PySem.W.Frag} {h : Heap} {mg : Str → Option Value} {fa : Addr} (X : K.In h) (G : h.Ns mainGlobals mg) (hfa : mg "law" = some (.ref fa))
    {C0 C1 C2 C5 C4 C3 : Addr}
    (f0 : FnAt K "holds" (stAt body 8) ["facts", "condition", "world"])
    (f1 : FnAt K "how_many_worlds" (stAt body 9) ["facts"])
    (f3 : FnAt K "need_deed" (stAt body 11) ["house", "name"])
    (f4 : FnAt K "is_crowd" (stAt body 12) ["house", "crowd"])
    (f5 : FnAt K "need_crowd" (stAt body 13) ["house", "crowd"])
    (f52 : FnAt K "can_be_done" (stAt body 14) ["house", "deed", "crowd"])
    (f6 : FnAt K "changed" (stAt body 15) ["house", "way", "world"])
    (f7 : FnAt K "all_behind" (stAt body 16) ["house", "deed", "crowd"])
    (f53 : FnAt K "crowd_behind" (stAt body 17) ["house", "deed", "crowd"])
    (f30 : FnAt K "need_look" (stAt body 19) ["house", "name"])
    (f31 : FnAt K "sides_by" (stAt body 20) ["house", "look", "crowd"])
    (f54 : FnAt K "sides_of" (stAt body 21) ["house", "look", "crowd"])
    (f32 : FnAt K "trees_within" (stAt body 23) ["tree"])
    (f33 : FnAt K "all_parts" (stAt body 24) ["tree"])
    (f34 : FnAt K "need_names" (stAt body 25) ["house", "tree"])
    (f35 : FnAt K "barring" (stAt body 26) ["house", "need", "crowd"])
    (f36 : FnAt K "parts_walked" (stAt body 27) ["house", "crowd", "tree", "way"])
    (f37 : FnAt K "tree_goes" (stAt body 28) ["house", "crowd", "tree"])
    (f40 : FnAt K "need_good_tree" (stAt body 30) ["house", "crowd", "tree"])
    (f55 : FnAt K "bare_from" (stAt body 31) ["house", "crowd", "tree"])
    (f56 : FnAt K "bare_tree" (stAt body 32) ["house", "crowd", "tree"])
    (f13 : FnAt K "_law_cell_at" (stAt body 34) ["script", "k"])
    (f14 : FnAt K "_law_digits" (stAt body 35) ["cell", "many", "top"])
    (f15 : FnAt K "_law_holds" (stAt body 36) ["facts", "condition", "world"])
    (f16 : FnAt K "_law_can" (stAt body 37) ["facts", "need", "crowd"])
    (f17 : FnAt K "_law_behind" (stAt body 38) ["facts", "deed", "crowd"])
    (f18 : FnAt K "_law_named" (stAt body 39) ["some", "name"])
    (f19 : FnAt K "_law_condition" (stAt body 40) ["number", "facts"])
    (f20 : FnAt K "_law_drawn_house" (stAt body 41) ["xs"])
    (f21 : FnAt K "_law_crowd" (stAt body 42) ["house", "xs"])
    (f22 : FnAt K "_law_known" (stAt body 43) ["facts", "crowds"])
    (f23 : FnAt K "_law_wished" (stAt body 44) ["house", "crowds", "number"])
    (f24 : FnAt K "_law_alike" (stAt body 45) ["found", "due"])
    (f42 : FnAt K "_law_sides" (stAt body 46) ["house", "look", "crowd"])
    (f43 : FnAt K "_law_grown" (stAt body 47) ["house", "crowd", "xs", "at", "deep"])
    (f27 : FnAt K "_law_copy" (stAt body 49) ["house"])
    (f57 : FnAt K "_law_ahead" (stAt body 50) ["house", "crowd", "xs", "many"])
    (f58 : FnAt K "_law_bare" (stAt body 51) ["house", "crowd", "tree"])
    (f59 : FnAt K "law" (stAt body 52) ["script"])
    (b0 : PySem.W.nsIn K mainGlobals "len" = some none)
    (b1 : PySem.W.nsIn K mainGlobals "max" = some none)
    (b2 : PySem.W.nsIn K mainGlobals "min" = some none)
    (b3 : PySem.W.nsIn K mainGlobals "int" = some none)
    (b4 : PySem.W.nsIn K mainGlobals "str" = some none)
    (b5 : PySem.W.nsIn K mainGlobals "list" = some none)
    (b6 : PySem.W.nsIn K mainGlobals "tuple" = some none)
    (b7 : PySem.W.nsIn K mainGlobals "sorted" = some none)
    (b8 : PySem.W.nsIn K mainGlobals "dict" = some none)
    (b9 : PySem.W.nsIn K mainGlobals "abs" = some none)
    (b10 : PySem.W.nsIn K mainGlobals "sum" = some none)
    (b11 : PySem.W.nsIn K mainGlobals "all" = some none)
    (b12 : PySem.W.nsIn K mainGlobals "any" = some none)
    (b13 : PySem.W.nsIn K mainGlobals "isinstance" = some none)
    (b14 : PySem.W.nsIn K mainGlobals "range" = some none)
    (b15 : PySem.W.nsIn K mainGlobals "enumerate" = some none)
    (b16 : PySem.W.nsIn K mainGlobals "bool" = some none)
    (e0 : ExAt K "PlanError" C0)
    (e1 : ExAt K "NoDeed" C1)
    (e2 : ExAt K "NoWorld" C2)
    (e5 : ExAt K "NoNeed" C5)
    (e4 : ExAt K "NoLook" C4)
    (e3 : ExAt K "NoPlan" C3)
    (nl : noListB K = true) :
    ∃ fd : FuncData, (∀ (s : Shared) (u : Value), BindsTo s fd ⟨[u], []⟩ [("script", u)]) ∧ ∀ base : Heap, K.In base → base.Ns mainGlobals mg → FnOk P w K mg base (L2.CX P w) 200 fa fd ["script"] (spLaw K) := by
  refine law_ok X G hfa (Φ := Φ) (gc := gc0) (cv := fun c => match c with | 0 => .ref C0 | 1 => .ref C1 | 2 => .ref C2 | 5 => .ref C5 | 4 => .ref C4 | 3 => .ref C3 | _ => .none) (ex := exT) (body := body) (rs := rs) gas 200 ⟨"law", 59, ["script", "k", "xs", "house", "crowd", "ahead", "start", "tree", "ends", "name", "due", "given", "turn"], ["script"], 52⟩ rows_ok
    ⟨f0, f1, f3, f4, f5, f52, f6, f7, f53, f30, f31, f54, f32, f33, f34, f35, f36, f37, f40, f55, f56, f13, f14, f15, f16, f17, f18, f19, f20, f21, f22, f23, f24, f42, f43, f27, f57, f58, f59, trivial⟩ ⟨b0, b1, b2, b3, b4, b5, b6, b7, b8, b9, b10, b11, b12, b13, b14, b15, b16, trivial⟩ ⟨⟨C0, e0, rfl⟩, ⟨C1, e1, rfl⟩, ⟨C2, e2, rfl⟩, ⟨C5, e5, rfl⟩, ⟨C4, e4, rfl⟩, ⟨C3, e3, rfl⟩, trivial⟩ nl ?_ rfl rfl (by decide +kernel) (fun _ _ _ _ _ _ _ _ => .of_eq rfl) law_true
  unfold rs
  simp
end K66
end F1
end VL
open PySem PySem.W PyProof.Rows VL in
set_option maxRecDepth 1000000 in
set_option maxHeartbeats 0 in
theorem PySem.Challenge.cw_sureplans_k66_bare_trees_holds : PySem.Challenge.rw_sureplans_k66_bare_trees.Holds := by
  w_on; o_law; k_head; (case hw => w_witness2)
  k_fill
  refine VL.walk (l := PySem.Challenge.rw_sureplans_k66_bare_trees) 200 ⟨rfl, by decide, by decide⟩ rfl rfl (fun w h Y => PySem.W.kIn_of Y) ?F
  case F =>
    intro w mg fa h KX G hmg
    refine' VL.F1.K66.all_mk KX G hmg ?f0 ?f1 ?f3 ?f4 ?f5 ?f52 ?f6 ?f7 ?f53 ?f30 ?f31 ?f54 ?f32 ?f33 ?f34 ?f35 ?f36 ?f37 ?f40 ?f55 ?f56 ?f13 ?f14 ?f15 ?f16 ?f17 ?f18 ?f19 ?f20 ?f21 ?f22 ?f23 ?f24 ?f42 ?f43 ?f27 ?f57 ?f58 ?f59 ?b0 ?b1 ?b2 ?b3 ?b4 ?b5 ?b6 ?b7 ?b8 ?b9 ?b10 ?b11 ?b12 ?b13 ?b14 ?b15 ?b16 ?e0 ?e1 ?e2 ?e5 ?e4 ?e3 ?nl
    (case f0 => exact VL.fnAt_of VL.F1.K66.bd_holds (by k_is) (by k_is) (by k_is) (by k_is))
    (case f1 => exact VL.fnAt_of VL.F1.K66.bd_how_many_worlds (by k_is) (by k_is) (by k_is) (by k_is))
    (case f3 => exact VL.fnAt_of VL.F1.K66.bd_need_deed (by k_is) (by k_is) (by k_is) (by k_is))
    (case f4 => exact VL.fnAt_of VL.F1.K66.bd_is_crowd (by k_is) (by k_is) (by k_is) (by k_is))
    (case f5 => exact VL.fnAt_of VL.F1.K66.bd_need_crowd (by k_is) (by k_is) (by k_is) (by k_is))
    (case f52 => exact VL.fnAt_of VL.F1.K66.bd_can_be_done (by k_is) (by k_is) (by k_is) (by k_is))
    (case f6 => exact VL.fnAt_of VL.F1.K66.bd_changed (by k_is) (by k_is) (by k_is) (by k_is))
    (case f7 => exact VL.fnAt_of VL.F1.K66.bd_all_behind (by k_is) (by k_is) (by k_is) (by k_is))
    (case f53 => exact VL.fnAt_of VL.F1.K66.bd_crowd_behind (by k_is) (by k_is) (by k_is) (by k_is))
    (case f30 => exact VL.fnAt_of VL.F1.K66.bd_need_look (by k_is) (by k_is) (by k_is) (by k_is))
    (case f31 => exact VL.fnAt_of VL.F1.K66.bd_sides_by (by k_is) (by k_is) (by k_is) (by k_is))
    (case f54 => exact VL.fnAt_of VL.F1.K66.bd_sides_of (by k_is) (by k_is) (by k_is) (by k_is))
    (case f32 => exact VL.fnAt_of VL.F1.K66.bd_trees_within (by k_is) (by k_is) (by k_is) (by k_is))
    (case f33 => exact VL.fnAt_of VL.F1.K66.bd_all_parts (by k_is) (by k_is) (by k_is) (by k_is))
    (case f34 => exact VL.fnAt_of VL.F1.K66.bd_need_names (by k_is) (by k_is) (by k_is) (by k_is))
    (case f35 => exact VL.fnAt_of VL.F1.K66.bd_barring (by k_is) (by k_is) (by k_is) (by k_is))
    (case f36 => exact VL.fnAt_of VL.F1.K66.bd_parts_walked (by k_is) (by k_is) (by k_is) (by k_is))
    (case f37 => exact VL.fnAt_of VL.F1.K66.bd_tree_goes (by k_is) (by k_is) (by k_is) (by k_is))
    (case f40 => exact VL.fnAt_of VL.F1.K66.bd_need_good_tree (by k_is) (by k_is) (by k_is) (by k_is))
    (case f55 => exact VL.fnAt_of VL.F1.K66.bd_bare_from (by k_is) (by k_is) (by k_is) (by k_is))
    (case f56 => exact VL.fnAt_of VL.F1.K66.bd_bare_tree (by k_is) (by k_is) (by k_is) (by k_is))
    (case f13 => exact VL.fnAt_of VL.F1.K66.bd__law_cell_at (by k_is) (by k_is) (by k_is) (by k_is))
    (case f14 => exact VL.fnAt_of VL.F1.K66.bd__law_digits (by k_is) (by k_is) (by k_is) (by k_is))
    (case f15 => exact VL.fnAt_of VL.F1.K66.bd__law_holds (by k_is) (by k_is) (by k_is) (by k_is))
    (case f16 => exact VL.fnAt_of VL.F1.K66.bd__law_can (by k_is) (by k_is) (by k_is) (by k_is))
    (case f17 => exact VL.fnAt_of VL.F1.K66.bd__law_behind (by k_is) (by k_is) (by k_is) (by k_is))
    (case f18 => exact VL.fnAt_of VL.F1.K66.bd__law_named (by k_is) (by k_is) (by k_is) (by k_is))
    (case f19 => exact VL.fnAt_of VL.F1.K66.bd__law_condition (by k_is) (by k_is) (by k_is) (by k_is))
    (case f20 => exact VL.fnAt_of VL.F1.K66.bd__law_drawn_house (by k_is) (by k_is) (by k_is) (by k_is))
    (case f21 => exact VL.fnAt_of VL.F1.K66.bd__law_crowd (by k_is) (by k_is) (by k_is) (by k_is))
    (case f22 => exact VL.fnAt_of VL.F1.K66.bd__law_known (by k_is) (by k_is) (by k_is) (by k_is))
    (case f23 => exact VL.fnAt_of VL.F1.K66.bd__law_wished (by k_is) (by k_is) (by k_is) (by k_is))
    (case f24 => exact VL.fnAt_of VL.F1.K66.bd__law_alike (by k_is) (by k_is) (by k_is) (by k_is))
    (case f42 => exact VL.fnAt_of VL.F1.K66.bd__law_sides (by k_is) (by k_is) (by k_is) (by k_is))
    (case f43 => exact VL.fnAt_of VL.F1.K66.bd__law_grown (by k_is) (by k_is) (by k_is) (by k_is))
    (case f27 => exact VL.fnAt_of VL.F1.K66.bd__law_copy (by k_is) (by k_is) (by k_is) (by k_is))
    (case f57 => exact VL.fnAt_of VL.F1.K66.bd__law_ahead (by k_is) (by k_is) (by k_is) (by k_is))
    (case f58 => exact VL.fnAt_of VL.F1.K66.bd__law_bare (by k_is) (by k_is) (by k_is) (by k_is))
    (case f59 => exact VL.fnAt_of VL.F1.K66.bd_law (by k_is) (by k_is) (by k_is) (by k_is))
    (case b0 => k_is)
    (case b1 => k_is)
    (case b2 => k_is)
    (case b3 => k_is)
    (case b4 => k_is)
    (case b5 => k_is)
    (case b6 => k_is)
    (case b7 => k_is)
    (case b8 => k_is)
    (case b9 => k_is)
    (case b10 => k_is)
    (case b11 => k_is)
    (case b12 => k_is)
    (case b13 => k_is)
    (case b14 => k_is)
    (case b15 => k_is)
    (case b16 => k_is)
    (case e0 => exact ⟨by k_is, by k_exc, by k_is, by k_is, by k_is⟩)
    (case e1 => exact ⟨by k_is, by k_exc, by k_is, by k_is, by k_is⟩)
    (case e2 => exact ⟨by k_is, by k_exc, by k_is, by k_is, by k_is⟩)
    (case e5 => exact ⟨by k_is, by k_exc, by k_is, by k_is, by k_is⟩)
    (case e4 => exact ⟨by k_is, by k_exc, by k_is, by k_is, by k_is⟩)
    (case e3 => exact ⟨by k_is, by k_exc, by k_is, by k_is, by k_is⟩)
    (case nl => rfl)
#print axioms PySem.Challenge.cw_sureplans_k66_bare_trees_holds
