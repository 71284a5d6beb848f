import PyProof.Rows.All
import HandS.ForMost
import HandS.TupAny
import PyProof.ReprRoads
import KE.SortData
import HandS.Flow
import HandS.Deep
import HandS.Wide
import HandS.TupLe
import HandS.Dict
import HandS.SortInts
import HandS.Gcd
import HandS.IsInst
import HandS.More
import HandS.Iter
import HandS.List
import HandS.Small
import HandS.NoneIn
import HandS.Comp
import HandS.DictComp
import HandS.Conv
import HandS.Style
import HandS.Words
import HandS.Ends
import PyProof.Rows.ReprShort
import PySem.Challenge.RW_oddcrown_k02_targets_and_marks
set_option Elab.async false
set_option linter.all false
set_option maxRecDepth 100000
set_option maxHeartbeats 4000000
section
/-! Rf0: a small Python over plain data: texts (E, S), what they compute (ev, exec). No heap. -/
namespace Rf
open PySem

/-- data; scr: the script itself, a list that is only walked and measured -/
inductive D where
  | none | bool (b : Bool) | int (i : Int) | str (s : Str) | list (xs : List D) | tuple (xs : List D) | dict (kvs : List (D × D)) | scr (ns : List Int)
inductive Res (α : Type) where
  | ok (a : α) | exn (c : Nat) (as : List D) | stk
def Res.bind {α β : Type} : Res α → (α → Res β) → Res β
  | .ok a, f => f a
  | .exn c as, _ => .exn c as
  | .stk, _ => .stk
instance : Monad Res where
  pure := .ok
  bind := Res.bind
@[simp] theorem Res.bind_ok {α β : Type} (a : α) (f : α → Res β) : (Res.ok a >>= f) = f a := rfl
@[simp] theorem Res.bind_stk {α β : Type} (f : α → Res β) : ((Res.stk : Res α) >>= f) = .stk := rfl
@[simp] theorem Res.bind_exn {α β : Type} (c : Nat) (as : List D) (f : α → Res β) : ((Res.exn c as : Res α) >>= f) = .exn c as := rfl
@[simp] theorem Res.pure_eq {α : Type} (a : α) : (pure a : Res α) = .ok a := rfl

/-- an exception here is not told -/
def Res.noexn {α : Type} : Res α → Res α
  | .ok a => .ok a
  | _ => .stk
@[simp] theorem Res.noexn_ok {α : Type} (a : α) : (Res.ok a).noexn = .ok a := rfl

inductive BOp where | add | sub | mul | fdiv | mod | pow
inductive COp where | eq | ne | lt | le | gt | ge | isin | notin | is | isnot
/-- kd: a dict of the module, written there, asked for a key -/
inductive Bi where | kd (kvs : List (D × D)) | len | list | sorted | sum | max | min | all | any | int | abs | repr | str | gcd | range | enumerate | zip | items
inductive Mt where | append | pop | insert | extend | clear | remove | reverse | index | get | join | split
/-- the names of types that isinstance asks -/
inductive Ty where | int | bool | str | list | tuple | dict

/-- expressions; nil and cons: lists of them (arguments); targets are var, tup, sub -/
inductive E where
  | nil | cons (e es : E)
  | var (i : Nat) | lit (d : D)
  | tup (es : E) | lst (es : E) | dic (ks vs : E)
  | neg (a : E) | not (a : E)
  | bin (o : BOp) (a b : E)
  | cmp (o : COp) (a b : E)
  | cmp2 (o p : COp) (a b c : E)
  | and (a b : E) | or (a b : E)
  | ite (c a b : E)
  | sub (a i : E)
  | slc (a lo hi : E)
  | call (f : Nat) (es : E)
  | bi (b : Bi) (es : E)
  | isi (a : E) (ts : List Ty)
  | mt (m : Mt) (o es : E)
  | comp (own : List Nat) (tg it c elt : E)
  | dcomp (own : List Nat) (tg it k v : E)

abbrev Env := List (Option D)

def truth : D → Bool
  | .none => false
  | .bool b => b
  | .int i => i != 0
  | .str s => (s.length : Int) != 0
  | .list xs => !xs.isEmpty
  | .tuple xs => !xs.isEmpty
  | .dict kvs => !kvs.isEmpty
  | .scr ns => !ns.isEmpty

/-- the largest length of a list or text -/
abbrev line : Nat := 16777216
def mulOk (i j : Int) : Bool := decide (-(2 ^ 64) < i ∧ i < 2 ^ 64) || decide (-(2 ^ 64) < j ∧ j < 2 ^ 64) || decide (i.natAbs.log2 + j.natAbs.log2 < 1000000)
def divOk (j : Int) : Bool := decide (0 < j) && (decide (j < 1073741824) || decide (j.natAbs.log2 < 9000))

def binD : BOp → D → D → Res D
  | .add, .int a, .int b => .ok (.int (a + b))
  | .add, .str a, .str b => if a.length + b.length ≤ line then .ok (.str (a ++ b)) else .stk
  | .add, .list a, .list b => if a.length + b.length ≤ line then .ok (.list (a ++ b)) else .stk
  | .add, .tuple a, .tuple b => if a.length + b.length ≤ line then .ok (.tuple (a ++ b)) else .stk
  | .sub, .int a, .int b => .ok (.int (a - b))
  | .mul, .int a, .int b => if mulOk a b then .ok (.int (a * b)) else .stk
  | .fdiv, .int a, .int b => if divOk b then .ok (.int (a / b)) else .stk
  | .mod, .int a, .int b => if 0 < b then .ok (.int (a % b)) else .stk
  | .pow, .int a, .int b => if 0 ≤ b ∧ b ≤ 1000000 ∧ a.natAbs < 2 ^ 64 then .ok (.int (a ^ b.toNat)) else .stk
  | _, _, _ => .stk

/-- op= of ints -/
def augD : BOp → D → D → Res D
  | .add, .int a, .int b => .ok (.int (a + b))
  | .sub, .int a, .int b => .ok (.int (a - b))
  | _, _, _ => .stk

/-- nothing that is changed, no dict within; depth n at most -/
def shpB : Nat → D → Bool
  | _, .none => true
  | _, .bool _ => true
  | _, .int _ => true
  | _, .str x => PyData.strOk x
  | n + 1, .list ds => ds.all (shpB n)
  | n + 1, .tuple ds => ds.all (shpB n)
  | _, _ => false
abbrev shp (d : D) : Bool := shpB 9 d
mutual
def eqD : D → D → Bool
  | .none, .none => true
  | .bool a, .bool b => a == b
  | .bool a, .int j => (if a then 1 else 0) == j
  | .int i, .bool b => i == (if b then 1 else 0)
  | .int i, .int j => i == j
  | .str x, .str y => x == y
  | .list xs, .list ys => eqA xs ys
  | .tuple xs, .tuple ys => eqA xs ys
  | _, _ => false
def eqA : List D → List D → Bool
  | [], [] => true
  | x :: xs, y :: ys => eqD x y && eqA xs ys
  | _, _ => false
end
/-- a key of a dict: an int or a text -/
def isKey : D → Bool
  | .int _ => true
  | .str _ => true
  | _ => false
def keyEq : D → D → Bool
  | .int a, .int b => a == b
  | .str a, .str b => a == b
  | _, _ => false
def look (k : D) : List (D × D) → Option D
  | [] => none
  | (x, v) :: r => if keyEq x k then some v else look k r
def put (k v : D) (kvs : List (D × D)) : List (D × D) :=
  if (kvs.any fun p => keyEq p.1 k) = true then kvs.map (fun p => if keyEq p.1 k = true then (p.1, v) else p) else kvs ++ [(k, v)]

def flat : D → Bool
  | .none => true
  | .bool _ => true
  | .int _ => true
  | .str _ => true
  | _ => false
def inD (x : D) : D → Res Bool
  | .list ds => if shp x && shp (.list ds) then .ok (ds.any fun z => eqD z x) else .stk
  | .tuple ds => if flat x && ds.all flat then .ok (ds.any fun z => eqD z x) else .stk
  | .dict kvs => if isKey x then .ok (look x kvs).isSome else .stk
  | .str z => match x with
    | .str y => if y.length = 1 then .ok (decide (y.cps.getD 0 0 ∈ z.cps.toList)) else .stk
    | _ => .stk
  | _ => .stk

/-- what == compares: two texts, or data in order -/
def shq : D → D → Bool
  | .str _, .str _ => true
  | a, b => shp a && shp b
def cmpD : COp → D → D → Res Bool
  | .eq, a, b => if shq a b then .ok (eqD a b) else .stk
  | .ne, a, b => if shq a b then .ok (!eqD a b) else .stk
  | .lt, .int a, .int b => .ok (decide (a < b))
  | .le, .int a, .int b => .ok (decide (a ≤ b))
  | .gt, .int a, .int b => .ok (decide (b < a))
  | .ge, .int a, .int b => .ok (decide (b ≤ a))
  | .isin, a, b => inD a b
  | .notin, a, b => do let r ← inD a b; .ok (!r)
  | .is, a, .none => .ok (match a with | .none => true | _ => false)
  | .isnot, a, .none => .ok (match a with | .none => false | _ => true)
  | .is, .bool a, .bool b => .ok (decide (a = b))
  | .isnot, .bool a, .bool b => .ok (!decide (a = b))
  | _, _, _ => .stk

def atL (ds : List D) (i : Int) : Option D := L2.atI ds i
def subD : D → D → Res D
  | .list ds, .int i => match atL ds i with | some d => .ok d | none => .stk
  | .tuple ds, .int i => match atL ds i with | some d => .ok d | none => .stk
  | .str z, .int i => if 0 ≤ i ∧ i < z.length ∧ i < 2 ^ 63 then match z.cps[i.toNat]? with | some c => .ok (.str ⟨#[c]⟩) | none => .stk else .stk
  | .dict kvs, k => if isKey k then match look k kvs with | some v => .ok v | none => .stk else .stk
  | _, _ => .stk
/-- where a slice begins or ends -/
abbrev sIx := @HT.sIx
/-- an end of a slice; one that is not written is E.nil -/
def cutL {α : Type} (xs : List α) (lo hi : Option Int) : List α := (xs.drop (sIx xs.length 0 lo)).take (sIx xs.length xs.length hi - sIx xs.length 0 lo)
def endD : E → D → Res (Option Int)
  | .nil, .tuple [] => .ok none
  | .nil, _ => .stk
  | _, .int i => .ok (some i)
  | _, _ => .stk
def slcD : D → Option Int → Option Int → Res D
  | .list ds, lo, hi => .ok (.list (cutL ds lo hi))
  | .tuple ds, lo, hi => .ok (.tuple (cutL ds lo hi))
  | .str z, lo, hi => .ok (.str (L2.cutS z lo hi))
  | _, _, _ => .stk

def intsD : List D → Option (List Int)
  | [] => some []
  | .int i :: r => (intsD r).map (i :: ·)
  | _ => none
def boolsD : List D → Option (List Bool)
  | [] => some []
  | .bool b :: r => (boolsD r).map (b :: ·)
  | _ => none
def ins (a : Int) : List Int → List Int
  | [] => [a]
  | b :: r => if a ≤ b then a :: b :: r else b :: ins a r
def srt : List Int → List Int
  | [] => []
  | a :: r => ins a (srt r)
def mx (a : Int) : List Int → Int
  | [] => a
  | b :: r => mx (if a < b then b else a) r
def mn (a : Int) : List Int → Int
  | [] => a
  | b :: r => mn (if b < a then b else a) r
def rng (lo : Int) : Nat → List D
  | 0 => []
  | n + 1 => .int lo :: rng (lo + 1) n
def rngC (lo c : Int) : Nat → List D
  | 0 => []
  | n + 1 => .int lo :: rngC (lo + c) c n
def rOk (i : Int) : Bool := decide (-(2 ^ 62) ≤ i ∧ i < 2 ^ 62)
def enum (k : Nat) : List D → List D
  | [] => []
  | d :: r => .tuple [.int k, d] :: enum (k + 1) r
def zipD : List D → List D → List D
  | a :: r, b :: s => .tuple [a, b] :: zipD r s
  | _, _ => []
/-- a datum in the library's own type -/
def cast : D → PyData
  | .none => .none
  | .bool b => .bool b
  | .int i => .int i
  | .str x => .str x
  | .list xs => .list (castA xs)
  | .tuple xs => .tuple (castA xs)
  | .dict _ => .dict []
  | .scr _ => .dict []
where castA : List D → List PyData
  | [] => []
  | x :: xs => cast x :: castA xs
/-- repr of a list or a tuple -/
def reprOk (d : D) : Bool := shp d && PyData.showable (cast d) && decide ((PyData.shown (cast d)).length ≤ line)
def reprD : D → Res D
  | .list ds => if reprOk (.list ds) then .ok (.str (PyData.shown (cast (.list ds)))) else .stk
  | .tuple ds => if reprOk (.tuple ds) then .ok (.str (PyData.shown (cast (.tuple ds)))) else .stk
  | _ => .stk

/-- data that sorted can compare -/
def sdOk (ds : List D) : Bool :=
  ds.all (shpB 9) && ds.all (fun a => ds.all fun b => PySem.W.alike (cast a) (cast b)) &&
    (ds.all (fun a => match a with | .tuple (_ :: _) => true | _ => false) || ds.all (fun a => match a with | .tuple _ => false | .none => false | _ => true))
def sortD (ds : List D) : List D := ds.mergeSort (PySem.W.dataLe false cast)
def biD : Bi → List D → Res D
  | .kd kvs, [.str z] => match look (.str z) kvs with | some d => .ok d | none => .stk
  | .len, [.list ds] => .ok (.int ds.length)
  | .len, [.tuple ds] => .ok (.int ds.length)
  | .len, [.dict kvs] => .ok (.int kvs.length)
  | .len, [.scr ns] => .ok (.int ns.length)
  | .len, [.str z] => .ok (.int z.length)
  | .list, [.list ds] => .ok (.list ds)
  | .list, [.tuple ds] => .ok (.list ds)
  | .sorted, [.list ds] => match intsD ds with | some ns => .ok (.list ((srt ns).map .int)) | none => if sdOk ds then .ok (.list (sortD ds)) else .stk
  | .sum, [.list ds] => match intsD ds with | some ns => .ok (.int ns.sum) | none => .stk
  | .max, [.list ds] => match intsD ds with | some (a :: r) => .ok (.int (mx a r)) | _ => .stk
  | .min, [.list ds] => match intsD ds with | some (a :: r) => .ok (.int (mn a r)) | _ => .stk
  | .max, [.int a, .int b] => .ok (.int (if b > a then b else a))
  | .min, [.int a, .int b] => .ok (.int (if b < a then b else a))
  | .all, [.list ds] => match boolsD ds with | some bs => .ok (.bool (bs.all id)) | none => .stk
  | .any, [.list ds] => match boolsD ds with | some bs => .ok (.bool (bs.any id)) | none => .stk
  | .int, [.int i] => .ok (.int i)
  | .int, [.bool b] => .ok (.int (if b then 1 else 0))
  | .abs, [.int i] => .ok (.int (if i < 0 then -i else i))
  | .gcd, [.int a, .int b] => .ok (.int ((Nat.gcd a.natAbs b.natAbs : Nat) : Int))
  | .repr, [d] => reprD d
  | .range, [.int j] => if rOk j && decide (j ≤ line) then .ok (.list (rng 0 j.toNat)) else .stk
  | .range, [.int i, .int j] => if rOk i && rOk j && decide (j - i ≤ line) then .ok (.list (rng i (j - i).toNat)) else .stk
  | .range, [.int i, .int j, .int c] => if rOk i && rOk j && rOk c && decide (0 < c) && decide (j - i ≤ line) then .ok (.list (rngC i c (if i < j then ((j - i + c - 1) / c).toNat else 0))) else .stk
  | .enumerate, [.list ds] => .ok (.list (enum 0 ds))
  | .zip, [.list as, .list bs] => .ok (.list (zipD as bs))
  | _, _ => .stk

def tyD : D → Ty → Bool
  | .int _, .int => true
  | .bool _, .int => true
  | .bool _, .bool => true
  | .str _, .str => true
  | .list _, .list => true
  | .tuple _, .tuple => true
  | .dict _, .dict => true
  | _, _ => false

/-- isinstance (of the script it is not told) -/
def isiD (ts : List Ty) : D → Res Bool
  | .scr _ => .stk
  | x => .ok (ts.any (tyD x))
/-- what a loop or a comprehension walks -/
def itemsD : D → Res (List D)
  | .list ds => .ok ds
  | .tuple ds => .ok ds
  | .scr ns => .ok (ns.map .int)
  | _ => .stk

def getS (ρ : Env) (i : Nat) : Res D := match ρ[i]? with | some (some d) => .ok d | _ => .stk
def wipeD (ρ : Env) : List Nat → Env
  | [] => ρ
  | v :: vs => (wipeD ρ vs).set v none
/-- how many parts a written tuple has -/
def lenE : E → Nat
  | .cons _ r => lenE r + 1
  | _ => 0
/-- a target of names alone -/
def bindN : E → D → Env → Res Env
  | .var i, d, ρ => if i < ρ.length then .ok (ρ.set i (some d)) else .stk
  | .tup es, .tuple ds, ρ => if ds.length = lenE es then bindN es (.tuple ds) ρ else .stk
  | .tup es, .list ds, ρ => if ds.length = lenE es then bindN es (.tuple ds) ρ else .stk
  | .nil, .tuple [], ρ => .ok ρ
  | .cons t r, .tuple (d :: ds), ρ => do let ρ1 ← bindN t d ρ; bindN r (.tuple ds) ρ1
  | _, _, _ => .stk

def mapR {α β : Type} (f : α → Res β) : List α → Res (List β)
  | [] => .ok []
  | a :: r => do let b ← f a; let bs ← mapR f r; .ok (b :: bs)
/-- the items for which f gives something -/
def fmapR {α β : Type} (f : α → Res (Option β)) : List α → Res (List β)
  | [] => .ok []
  | a :: r => do
    let b ← f a
    let bs ← fmapR f r
    .ok (match b with | some b => b :: bs | none => bs)
def foldR {α β : Type} (f : β → α → Res β) : β → List α → Res β
  | b, [] => .ok b
  | b, a :: r => do let b1 ← f b a; foldR f b1 r

def tupOf : D → Res (List D)
  | .tuple ds => .ok ds
  | _ => .stk
def mkDic : List (D × D) → List D → List D → Res (List (D × D))
  | acc, [], [] => .ok acc
  | acc, k :: ks, v :: vs => if isKey k then mkDic (put k v acc) ks vs else .stk
  | _, _, _ => .stk

/-- the first place of a thing -/
def idxD (x : D) : List D → Nat → Option Nat
  | [], _ => none
  | y :: r, k => if eqD y x then some k else idxD x r (k + 1)
/-- methods that leave their object -/
def mtD : Mt → D → List D → Res D
  | .index, .list ds, [x] => if flat x && ds.all flat then match idxD x ds 0 with | some k => .ok (.int k) | none => .stk else .stk
  | .get, .dict kvs, [k] => if isKey k then .ok ((look k kvs).getD .none) else .stk
  | .get, .dict kvs, [k, x] => if isKey k then .ok ((look k kvs).getD x) else .stk
  | _, _, _ => .stk
/-- methods that change their object: the answer, the object behind -/
def mtM : Mt → D → List D → Res (D × D)
  | .append, .list ds, [x] => if ds.length < line then .ok (.none, .list (ds ++ [x])) else .stk
  | .pop, .list ds, [] => match ds[ds.length - 1]? with | some x => .ok (x, .list ds.dropLast) | none => .stk
  | .pop, .list (x :: ds), [.int i] => if i = 0 then .ok (x, .list ds) else .stk
  | .extend, .list ds, [.list es] => if ds.length + es.length ≤ line then .ok (.none, .list (ds ++ es)) else .stk
  | .insert, .list ds, [.int i, x] => if ds.length < line ∧ 0 ≤ i ∧ i < 2 ^ 63 then .ok (.none, .list (ds.take i.toNat ++ [x] ++ ds.drop i.toNat)) else .stk
  | .clear, .list _, [] => .ok (.none, .list [])
  | .reverse, .list ds, [] => .ok (.none, .list ds.reverse)
  | _, _, _ => .stk
def Mt.chg : Mt → Bool
  | .append | .pop | .insert | .extend | .clear | .remove | .reverse => true
  | _ => false
/-- whether a thing has the method -/
def mtOn : Mt → D → Bool
  | .get, .dict _ => true
  | .join, .str _ => true
  | .split, .str _ => true
  | .get, _ => false
  | .join, _ => false
  | .split, _ => false
  | _, .list _ => true
  | _, _ => false
def putD : D → D → D → Res D
  | .list ds, .int i, x => match L2.ixN ds.length i with | some j => .ok (.list (ds.set j x)) | none => .stk
  | .dict kvs, k, x => if isKey k && decide (kvs.length < line) then .ok (.dict (put k x kvs)) else .stk
  | _, _, _ => .stk

abbrev Calls := Nat → List D → Res D

/-- what an expression is worth; nil and cons give the tuple of their parts -/
def ev (Φ : Calls) : E → Env → Res (D × Env)
  | .nil, ρ => .ok (.tuple [], ρ)
  | .cons e es, ρ => do
    let (d, ρ) ← ev Φ e ρ
    let (r, ρ) ← ev Φ es ρ
    match r with
    | .tuple ds => .ok (.tuple (d :: ds), ρ)
    | _ => .stk
  | .var i, ρ => do let d ← getS ρ i; .ok (d, ρ)
  | .lit d, ρ => .ok (d, ρ)
  | .tup es, ρ => ev Φ es ρ
  | .lst es, ρ => do
    let (r, ρ) ← ev Φ es ρ
    match r with
    | .tuple ds => .ok (.list ds, ρ)
    | _ => .stk
  | .dic ks vs, ρ => do
    let (a, ρ) ← ev Φ ks ρ
    let (b, ρ) ← ev Φ vs ρ
    match a, b with
    | .tuple ks, .tuple vs => do let kvs ← mkDic [] ks vs; .ok (.dict kvs, ρ)
    | _, _ => .stk
  | .neg a, ρ => do
    let (d, ρ) ← ev Φ a ρ
    match d with
    | .int i => .ok (.int (-i), ρ)
    | _ => .stk
  | .not a, ρ => do let (d, ρ) ← ev Φ a ρ; .ok (.bool (!truth d), ρ)
  | .bin o a b, ρ => do
    let (x, ρ) ← ev Φ a ρ
    let (y, ρ) ← ev Φ b ρ
    let d ← binD o x y
    .ok (d, ρ)
  | .cmp o a b, ρ => do
    let (x, ρ) ← ev Φ a ρ
    let (y, ρ) ← ev Φ b ρ
    let t ← cmpD o x y
    .ok (.bool t, ρ)
  | .cmp2 o p a b c, ρ => do
    let (x, ρ) ← ev Φ a ρ
    let (y, ρ) ← ev Φ b ρ
    let t ← cmpD o x y
    if t then do
      let (z, ρ) ← ev Φ c ρ
      let u ← cmpD p y z
      .ok (.bool u, ρ)
    else .ok (.bool false, ρ)
  | .and a b, ρ => do
    let (x, ρ) ← ev Φ a ρ
    if truth x then ev Φ b ρ else .ok (x, ρ)
  | .or a b, ρ => do
    let (x, ρ) ← ev Φ a ρ
    if truth x then .ok (x, ρ) else ev Φ b ρ
  | .ite c a b, ρ => do
    let (x, ρ) ← ev Φ c ρ
    if truth x then ev Φ a ρ else ev Φ b ρ
  | .sub a i, ρ => do
    let (x, ρ) ← ev Φ a ρ
    let (y, ρ) ← ev Φ i ρ
    let d ← subD x y
    .ok (d, ρ)
  | .slc a lo hi, ρ => do
    let (x, ρ) ← ev Φ a ρ
    let (l, ρ) ← ev Φ lo ρ
    let l ← endD lo l
    let (h, ρ) ← ev Φ hi ρ
    let h ← endD hi h
    let d ← slcD x l h
    .ok (d, ρ)
  | .call f es, ρ => do
    let (r, ρ) ← ev Φ es ρ
    let ds ← tupOf r
    let d ← Φ f ds
    .ok (d, ρ)
  | .bi b es, ρ => do
    let (r, ρ) ← ev Φ es ρ
    let ds ← tupOf r
    let d ← biD b ds
    .ok (d, ρ)
  | .isi a ts, ρ => do
    let (x, ρ) ← ev Φ a ρ
    let b ← isiD ts x
    .ok (.bool b, ρ)
  | .mt m o es, ρ => do
    let (x, ρ) ← ev Φ o ρ
    if mtOn m x then do
    let (r, ρ) ← ev Φ es ρ
    let ds ← tupOf r
    if m.chg then do
      let (d, y) ← mtM m x ds
      match o with
      | .var i => .ok (d, ρ.set i (some y))
      | _ => .stk
    else do
      let d ← mtD m x ds
      .ok (d, ρ)
    else .stk
  | .comp own tg it c elt, ρ => do
    let (x, ρ) ← ev Φ it ρ
    let xs ← itemsD x
    if xs.length ≤ line then do
      let ds ← (fmapR (fun d => do
        let ρ1 ← bindN tg d (wipeD ρ own)
        let (t, ρ1) ← ev Φ c ρ1
        if truth t then do
          let (y, _) ← ev Φ elt ρ1
          .ok (some y)
        else .ok none) xs).noexn
      .ok (.list ds, ρ)
    else .stk
  | .dcomp own tg it k v, ρ => do
    let (x, ρ) ← ev Φ it ρ
    let xs ← itemsD x
    let kvs ← (foldR (fun acc d => do
      let ρ1 ← bindN tg d (wipeD ρ own)
      let (a, ρ1) ← ev Φ k ρ1
      let (b, _) ← ev Φ v ρ1
      if isKey a && decide (acc.length < line) then .ok (put a b acc) else .stk) [] xs).noexn
    .ok (.dict kvs, ρ)

/-- statements -/
inductive S where
  | skip | seq (s t : S)
  | asg (tg e : E)
  | aug (i : Nat) (o : BOp) (e : E)
  | ex (e : E)
  | ite (c : E) (a b : S)
  | wh (c : E) (b : S)
  | for_ (tg it : E) (b : S)
  | ret (e : E) | brk | cnt
  | each (i j : Nat) (k : Int)
inductive Out where
  | next (ρ : Env) | brk (ρ : Env) | cnt (ρ : Env) | ret (d : D) | exn (c : Nat) (as : List D) | stk

/-- a target takes a value -/
def asgn (Φ : Calls) : E → D → Env → Res Env
  | .var i, d, ρ => if i < ρ.length then .ok (ρ.set i (some d)) else .stk
  | .tup es, .tuple ds, ρ => if ds.length = lenE es then asgn Φ es (.tuple ds) ρ else .stk
  | .tup es, .list ds, ρ => if ds.length = lenE es then asgn Φ es (.tuple ds) ρ else .stk
  | .nil, .tuple [], ρ => .ok ρ
  | .cons t r, .tuple (d :: ds), ρ => do let ρ1 ← asgn Φ t d ρ; asgn Φ r (.tuple ds) ρ1
  | .sub (.var i) k, d, ρ => do
    let o ← getS ρ i
    let (x, ρ) ← ev Φ k ρ
    let o ← putD o x d
    .ok (ρ.set i (some o))
  | _, _, _ => .stk

def Res.out {α : Type} (r : Res α) (f : α → Out) : Out := match r with
  | .ok a => f a
  | .exn c as => .exn c as
  | .stk => .stk
@[simp] theorem Res.out_ok {α : Type} (a : α) (f : α → Out) : (Res.ok a).out f = f a := rfl
@[simp] theorem Res.out_stk {α : Type} (f : α → Out) : (Res.stk : Res α).out f = .stk := rfl
@[simp] theorem Res.out_exn {α : Type} (c : Nat) (as : List D) (f : α → Out) : (Res.exn c as : Res α).out f = .exn c as := rfl
def Out.thn (o : Out) (f : Env → Out) : Out := match o with
  | .next ρ => f ρ
  | o => o

def loopF (t : D → Env → Res Env) (b : Env → Out) : List D → Env → Out
  | [], ρ => .next ρ
  | d :: ds, ρ => (t d ρ).out fun ρ1 => match b ρ1 with
    | .next ρ2 => loopF t b ds ρ2
    | .cnt ρ2 => loopF t b ds ρ2
    | .brk ρ2 => .next ρ2
    | o => o
def loopW (c : Env → Res (D × Env)) (b : Env → Out) : Nat → Env → Out
  | 0, _ => .stk
  | n + 1, ρ => (c ρ).out fun (x, ρ1) => if truth x then match b ρ1 with
    | .next ρ2 => loopW c b n ρ2
    | .cnt ρ2 => loopW c b n ρ2
    | .brk ρ2 => .next ρ2
    | o => o
    else .next ρ1
/-- no while goes on for longer -/
def wturns : Nat := 1000000000000

/-- each item, a list, gets k at its end -/
def eachD (k : Int) : List D → Option (List D)
  | [] => some []
  | .list es :: r => if es.length < line then (eachD k r).map (.list (es ++ [.int k]) :: ·) else none
  | _ => none
def eachO (k : Int) (i j : Nat) (ρ : Env) : D → Out
  | .list ds => match eachD k ds with | some es => .next ((ρ.set j none).set i (some (.list es))) | none => .stk
  | _ => .stk
def exec (Φ : Calls) : S → Env → Out
  | .skip, ρ => .next ρ
  | .seq s t, ρ => (exec Φ s ρ).thn fun ρ => exec Φ t ρ
  | .asg tg e, ρ => (ev Φ e ρ).out fun (d, ρ) => (asgn Φ tg d ρ).out .next
  | .aug i o e, ρ => (getS ρ i).out fun x => (ev Φ e ρ).out fun (y, ρ) => (augD o x y).out fun d => .next (ρ.set i (some d))
  | .ex e, ρ => (ev Φ e ρ).out fun (_, ρ) => .next ρ
  | .ite c a b, ρ => (ev Φ c ρ).out fun (x, ρ) => if truth x then exec Φ a ρ else exec Φ b ρ
  | .wh c b, ρ => loopW (ev Φ c) (exec Φ b) wturns ρ
  | .for_ tg it b, ρ => (ev Φ it ρ).out fun (x, ρ) => (itemsD x).out fun xs => loopF (asgn Φ tg) (exec Φ b) xs ρ
  | .ret e, ρ => (ev Φ e ρ).out fun (d, _) => .ret d
  | .brk, ρ => .brk ρ
  | .cnt, ρ => .cnt ρ
  | .each i j k, ρ => (getS ρ i).out fun o => eachO k i j ρ o

/-- a def: how many parameters, how many slots, the body -/
structure Fn where
  ps : Nat
  ns : Nat
  body : S
def Out.fin : Out → Res D
  | .ret d => .ok d
  | .next _ => .ok .none
  | .exn c as => .exn c as
  | _ => .stk
def runFn (Φ : Calls) (f : Fn) (ds : List D) : Res D :=
  if ds.length = f.ps ∧ f.ps ≤ f.ns then (exec Φ f.body (ds.map some ++ List.replicate (f.ns - f.ps) none)).fin else .stk
/-- the program's calls, to a depth -/
def calls (fns : List Fn) : Nat → Calls
  | 0, _, _ => .stk
  | n + 1, f, ds => match fns[f]? with
    | some fn => runFn (calls fns n) fn ds
    | none => .stk
end Rf
end

section
/-! Rf1: who owns a list: the check that a text changes only lists that it alone holds. -/
namespace Rf
open PySem

/-- what is known of a value: bot none; fz frozen (never changed again); lst c: a list that this place alone holds, its items c, or no list; dct c: a dict so; tup: a tuple of tc .. tn; dead: not to be read -/
inductive Ow where
  | bot | fz | lst (c : Ow) | dct (c : Ow) | tup (c : Ow) | tn | tc (a r : Ow) | dead
  deriving DecidableEq
/-- t may be taken as u with nothing frozen -/
def sub0 : Ow → Ow → Bool
  | .bot, _ => true
  | .fz, .fz => true
  | .lst a, .lst b => sub0 a b
  | .dct a, .dct b => sub0 a b
  | .tup a, .tup b => sub0 a b
  | .tn, .tn => true
  | .tc a r, .tc b s => sub0 a b && sub0 r s
  | _, _ => false
def isVal : Ow → Bool
  | .tn => false
  | .tc _ _ => false
  | .dead => false
  | _ => true
/-- .. or with all of it frozen, or all of its items -/
def sub1 : Ow → Ow → Bool
  | .lst c, .lst .fz => sub0 c .fz || isVal c
  | .dct c, .dct .fz => sub0 c .fz || isVal c
  | t, u => sub0 t u || (u == .fz && isVal t)
/-- .. or forgotten -/
def sub (t u : Ow) : Bool := sub1 t u || u == .dead
def join : Ow → Ow → Ow
  | .bot, x => x
  | x, .bot => x
  | .dead, _ => .dead
  | _, .dead => .dead
  | .tn, .tn => .tn
  | .tc a r, .tc b s => .tc (join a b) (join r s)
  | .lst a, .lst b => .lst (join a b)
  | .dct a, .dct b => .dct (join a b)
  | .tup a, .tup b => match join a b with
    | .fz => .fz
    | c => .tup c
  | _, _ => .fz
abbrev Ty1 := List Ow
/-- what both may be taken as -/
def joinS (a b : Ow) : Ow := if sub a (join a b) && sub b (join a b) then join a b else .dead
def subs : Ty1 → Ty1 → Bool
  | [], [] => true
  | a :: r, b :: s => sub a b && subs r s
  | _, _ => false
def joins : Ty1 → Ty1 → Ty1
  | a :: r, b :: s => joinS a b :: joins r s
  | _, _ => []
/-- no item that a place alone holds -/
def flatT : Ow → Bool
  | .fz => true
  | .bot => true
  | .lst .fz => true
  | .lst .bot => true
  | .dct .fz => true
  | .dct .bot => true
  | _ => false
/-- the slot a path begins at -/
def rootE : E → Option Nat
  | .var i => some i
  | .sub a _ => rootE a
  | _ => none
/-- changes nothing -/
def pur : E → Bool
  | .cons e es => pur e && pur es
  | .tup es => pur es
  | .lst es => pur es
  | .dic a b => pur a && pur b
  | .neg a => pur a
  | .not a => pur a
  | .bin _ a b => pur a && pur b
  | .cmp _ a b => pur a && pur b
  | .cmp2 _ _ a b c => pur a && pur b && pur c
  | .and a b => pur a && pur b
  | .or a b => pur a && pur b
  | .ite c a b => pur c && pur a && pur b
  | .sub a i => pur a && pur i
  | .slc a l h => pur a && pur l && pur h
  | .call _ es => pur es
  | .bi _ es => pur es
  | .isi a _ => pur a
  | .mt m o es => !m.chg && pur o && pur es
  | .comp _ _ it c e => pur it && pur c && pur e
  | .dcomp _ _ it k v => pur it && pur k && pur v
  | _ => true
def child : Ow → Ow
  | .lst c => c
  | .dct c => c
  | .fz => .fz
  | .bot => .bot
  | _ => .dead
/-- its items frozen -/
def meltC : Ow → Ow
  | .lst _ => .lst .fz
  | .dct _ => .dct .fz
  | _ => .fz
/-- the types of a tuple's parts, all frozen -/
def allFz : Ow → Bool
  | .tn => true
  | .tc a r => (a == .fz || a == .bot) && allFz r
  | _ => false
/-- the join of the parts of a list's types -/
def joinAll : Ow → Ow
  | .tc a r => join a (joinAll r)
  | _ => .bot
def allSub0 : Ow → Ow → Bool
  | .tc a r, j => sub0 a j && allSub0 r j
  | .tn, _ => true
  | _, _ => false
/-- the type of a written list's items -/
def lstT (t : Ow) : Ow := if allSub0 t (joinAll t) then joinAll t else .fz
/-- which builtins make a new list -/
def biT : Bi → Ow
  | .list => .lst .fz
  | .sorted => .lst .fz
  | _ => .fz
def binT : BOp → Ow → Ow → Ow
  | .add, .lst _, _ => .lst .fz
  | .add, _, .lst _ => .lst .fz
  | _, _, _ => .fz
/-- names that a target stores -/
def tgs : E → Option (List Nat)
  | .var i => some [i]
  | .tup es => tgs es
  | .nil => some []
  | .cons t r => do let a ← tgs t; let b ← tgs r; some (a ++ b)
  | _ => none
/-- a target of names takes what is frozen -/
def ckN : E → Ty1 → Option Ty1
  | .var i, T => if i < T.length then some (T.set i .fz) else none
  | .tup es, T => ckN es T
  | .nil, T => some T
  | .cons t r, T => do let T ← ckN t T; ckN r T
  | _, _ => none
/-- of these slots nothing is held -/
def ownOk (T : Ty1) (own : List Nat) : Bool := own.all fun i => match T[i]? with
  | some .fz => true
  | some .bot => true
  | some .dead => true
  | _ => false
def wipeT (T : Ty1) : List Nat → Ty1
  | [] => T
  | i :: r => (wipeT T r).set i .bot

/-- T, frozen where a and b differ -/
def melt : Ty1 → Ty1 → Ty1 → Ty1
  | t :: r, a :: x, b :: y => (if a = b then t else .fz) :: melt r x y
  | T, _, _ => T

/-- all is frozen -/
def frzT (T : Ty1) : Ty1 := T.map fun t => if isVal t then .fz else .dead
/-- the literal 0 -/
def isZ : E → Bool
  | .lit (.int i) => i == 0
  | _ => false
section
variable (ret : Nat → Ow)
mutual
/-- a value for good (mv: a name's value is taken away from it); nil, cons: tn, tc -/
def ck (mv : Bool) : Nat → E → Ty1 → Option (Ow × Ty1)
  | 0, _, _ => none
  | n + 1, e, T => match e with
    | .nil => some (.tn, T)
    | .cons a es => do
      let (t, T) ← ck mv n a T
      let (r, T) ← ck mv n es T
      some (.tc t r, T)
    | .var i => match T[i]? with
      | some .fz => some (.fz, T)
      | some .bot => some (.fz, T)
      | some .dead => none
      | some t => if mv then some (t, T.set i .dead) else some (.fz, T.set i .fz)
      | none => none
    | .lit _ => some (.fz, T)
    | .tup es => do
      let (t, T) ← ck mv n es T
      if allFz t then some (.fz, T) else some (.tup t, T)
    | .lst es => do
      let (t, T) ← ck mv n es T
      some (.lst (lstT t), T)
    | .dic ks vs => do
      let (_, T) ← ckf n ks T
      let (t, T) ← ck mv n vs T
      some (.dct (lstT t), T)
    | .neg a => do let (_, T) ← ckb n a T; some (.fz, T)
    | .not a => do let (_, T) ← ckb n a T; some (.fz, T)
    | .bin o a b => do
      let (t, T) ← ckc n a T
      let (u, T) ← ckc n b T
      if pur b then some (binT o t u, T) else none
    | .cmp _ a b => do
      let (_, T) ← ckb n a T
      let (_, T) ← ckb n b T
      if pur b then some (.fz, T) else none
    | .cmp2 _ _ a b c => do
      let (_, T) ← ckb n a T
      let (_, T) ← ckb n b T
      let (_, T1) ← ckb n c T
      if pur b && pur c && decide (T1 = T) then some (.fz, T) else none
    | .and a b => do
      let (t, T) ← ck false n a T
      let (u, T1) ← ck false n b T
      if decide (T1 = T) && (t == .fz) && (u == .fz) then some (.fz, T) else none
    | .or a b => do
      let (t, T) ← ck false n a T
      let (u, T1) ← ck false n b T
      if decide (T1 = T) && (t == .fz) && (u == .fz) then some (.fz, T) else none
    | .ite c a b => do
      let T ← ckt n c T
      let (t, T1) ← ck mv n a T
      let (u, T2) ← ck mv n b T
      if sub1 t (join t u) && sub1 u (join t u) && decide (T1.length = T2.length) then some (join t u, joins T1 T2) else none
    | .sub a i => do
      let (t, T) ← ckc n a T
      let (_, T) ← ckb n i T
      if pur i then some (.fz, T) else none
    | .slc a l h => do
      let (t, T) ← ckc n a T
      let (_, T) ← ckb n l T
      let (_, T) ← ckb n h T
      if pur l && pur h then some (.lst .fz, T) else none
    | .call f es => do
      let (_, T) ← ckf n es T
      some (ret f, T)
    | .bi b es => match es with
      | .cons a .nil => do
        let (_, T) ← ckc n a T
        some (biT b, T)
      | .cons a (.cons c .nil) => do
        let (_, T) ← ckc n a T
        let (_, T) ← ckc n c T
        if pur c then some (biT b, T) else none
      | .cons a (.cons c (.cons e .nil)) => do
        let (_, T) ← ckc n a T
        let (_, T) ← ckc n c T
        let (_, T) ← ckc n e T
        if pur c && pur e then some (biT b, T) else none
      | _ => none
    | .isi a _ => do let (_, T) ← ckb n a T; some (.fz, T)
    | .mt m o es => if m.chg then match o with
        | .var i => match T[i]? with
          | some (.lst c) => match m with
            | .append => match es with
              | .cons a .nil => do
                let (t, T1) ← ck false n a T
                if pur a && decide (T1[i]? = some (.lst c)) && sub1 (.lst c) (.lst (join c t)) && sub1 t (join c t) then some (.fz, T1.set i (.lst (join c t))) else none
              | _ => none
            | .insert => match es with
              | .cons a (.cons b .nil) => do
                let (_, T1) ← ckb n a T
                let (t, T1) ← ck false n b T1
                if pur a && pur b && decide (T1[i]? = some (.lst c)) && sub1 (.lst c) (.lst (join c t)) && sub1 t (join c t) then some (.fz, T1.set i (.lst (join c t))) else none
              | _ => none
            | .extend => match es with
              | .cons a .nil => do
                let (_, T1) ← ckc n a T
                if pur a && decide (T1[i]? = some (.lst c)) && sub1 (.lst c) (.lst .fz) then some (.fz, T1.set i (.lst .fz)) else none
              | _ => none
            | .pop => match es with
              | .nil => if c == .fz || c == .bot then some (.fz, T.set i (.lst .fz)) else none
              | .cons a .nil => if isZ a && (c == .fz || c == .bot) then some (.fz, T.set i (.lst .fz)) else none
              | _ => none
            | .clear => match es with
              | .nil => some (.fz, T)
              | _ => none
            | .reverse => match es with
              | .nil => some (.fz, T)
              | _ => none
            | _ => none
          | _ => none
        | _ => none
      else do
        let (_, T) ← ckc n o T
        let (_, T) ← ckf n es T
        if pur es then some (.fz, T) else none
    | .comp own tg it c elt => do
      let (_, Ta) ← ckc n it T
      let is ← tgs tg
      let T00 ← ckN tg (wipeT Ta own)
      let Tb ← ckt n c T00
      let (_, Tc) ← ck false n elt Tb
      let T := melt Ta T00 Tc
      let T0 ← ckN tg (wipeT T own)
      let T1 ← ckt n c T0
      let (t, T2) ← ck false n elt T1
      if decide (T2 = T0) && decide (T1 = T0) && pur c && pur elt && subs Ta T && ownOk T own && is.all (fun i => decide (i ∈ own)) then some (.lst t, T) else none
    | .dcomp own tg it k v => do
      let (_, Ta) ← ckc n it T
      let is ← tgs tg
      let T00 ← ckN tg (wipeT Ta own)
      let (_, Tb) ← ckb n k T00
      let (_, Tc) ← ck false n v Tb
      let T := melt Ta T00 Tc
      let T0 ← ckN tg (wipeT T own)
      let (_, T1) ← ckb n k T0
      let (_, T2) ← ck false n v T1
      if decide (T2 = T0) && decide (T1 = T0) && pur k && pur v && subs Ta T && ownOk T own && is.all (fun i => decide (i ∈ own)) then some (.dct .fz, T) else none
/-- a value that is only looked at -/
def ckb : Nat → E → Ty1 → Option (Ow × Ty1)
  | 0, _, _ => none
  | n + 1, e, T => match e with
    | .var i => match T[i]? with
      | some .dead => none
      | some t => some (t, T)
      | none => none
    | .sub a i => match rootE a with
      | some _ => do
        let (t, T) ← ckb n a T
        let (_, T1) ← ckb n i T
        let c := child t
        if pur i && c != .dead && decide (T1 = T) then some (c, T) else none
      | none => ck false n e T
    | e => ck false n e T
/-- a test -/
def ckt : Nat → E → Ty1 → Option Ty1
  | 0, _, _ => none
  | n + 1, e, T => match e with
    | .and a b => do
      let T ← ckt n a T
      let T1 ← ckt n b T
      if decide (T1 = T) then some T else none
    | .or a b => do
      let T ← ckt n a T
      let T1 ← ckt n b T
      if decide (T1 = T) then some T else none
    | .not a => ckt n a T
    | .ite _ _ _ => none
    | e => do
      let (_, T) ← ckb n e T
      some T
/-- a value that is looked at, its items frozen -/
def ckc : Nat → E → Ty1 → Option (Ow × Ty1)
  | 0, _, _ => none
  | n + 1, e, T => do
    let (t, T1) ← ckb n e T
    if flatT t then some (t, T1) else match e with
      | .var i => if sub1 t (meltC t) && flatT (meltC t) then some (meltC t, T1.set i (meltC t)) else none
      | e => match rootE e with
        | some i => if sub1 (T1.getD i .dead) .fz then some (.fz, T1.set i .fz) else none
        | none => some (.fz, T1)
/-- values, all frozen -/
def ckf : Nat → E → Ty1 → Option (Ow × Ty1)
  | 0, _, _ => none
  | n + 1, e, T => match e with
    | .nil => some (.tn, T)
    | .cons a es => do
      let (_, T) ← ck false n a T
      let (r, T) ← ckf n es T
      some (.tc .fz r, T)
    | _ => none
end

end
/-- what is so behind a statement: where it goes on, at a break, at a continue -/
structure Tyo where
  n : Option Ty1
  b : Option Ty1
  c : Option Ty1
/-- either (none: a length is not as it should be) -/
def jC : Option Ty1 → Option Ty1 → Option (Option Ty1)
  | none, x => some x
  | x, none => some x
  | some a, some b => if a.length = b.length then some (some (joins a b)) else none
def Tyo.join (a b : Tyo) : Option Tyo := (jC a.n b.n).bind fun n => (jC a.b b.b).bind fun b' => (jC a.c b.c).map fun c => ⟨n, b', c⟩
def subO : Option Ty1 → Ty1 → Bool
  | none, _ => true
  | some a, b => decide (a = b) || subs a b
def jO (a b : Option Ty1) : Option Ty1 := (jC a b).getD none

/-- a target takes a value of type t -/
def ckT (ret : Nat → Ow) : Nat → E → Ow → Ty1 → Option Ty1
  | 0, _, _, _ => none
  | n + 1, .var i, t, T => if i < T.length then some (T.set i t) else none
  | n + 1, .tup es, t, T => match t with
    | .tup u => ckT ret n es u T
    | _ => ckT ret n es .fz T
  | n + 1, .nil, t, T => if t == .tn || t == .fz then some T else none
  | n + 1, .cons a r, t, T => match t with
    | .tc u v => (ckT ret n a u T).bind fun T => ckT ret n r v T
    | .fz => (ckT ret n a .fz T).bind fun T => ckT ret n r .fz T
    | _ => none
  | n + 1, .sub (.var i) k, t, T => match T[i]? with
    | some (.lst c) => (ckb ret n k T).bind fun p => if pur k && decide (p.2 = T) && sub1 (.lst c) (.lst (join c t)) && sub1 t (join c t) then some (T.set i (.lst (join c t))) else none
    | some (.dct c) => (ckb ret n k T).bind fun p => if pur k && decide (p.2 = T) && sub1 (.dct c) (.dct .fz) && sub1 t .fz then some (T.set i (.dct .fz)) else none
    | _ => none
  | _ + 1, _, _, _ => none

/-- a slot that op= may change -/
def augOk : Option Ow → Bool
  | some .fz => true
  | some (.lst .fz) => true
  | _ => false
section
variable (ret : Nat → Ow)
/-- what a for walks: frozen, or a range -/
def ckI (e : E) (T : Ty1) : Option Ty1 := match e with
  | .bi .enumerate es => (ckf ret 60 es T).map (·.2)
  | .bi .zip es => (ckf ret 60 es T).map (·.2)
  | .bi .range es => (ckc ret 60 (.bi .range es) T).map (·.2)
  | e => (ck ret false 60 e T).map (·.2)
/-- a test that changes nothing is a look: nothing is frozen by it for good -/
def ckB (c : E) (T : Ty1) : Option Ty1 := if pur c && (ckt ret 60 c (frzT T)).isSome then some T else ckt ret 60 c T
mutual
def ckS (r : Ow) : Nat → S → Ty1 → Option Tyo
  | 0, _, _ => none
  | n + 1, s, T => match s with
    | .skip => some ⟨some T, none, none⟩
    | .seq a b => (ckS r n a T).bind fun o => match o.n with
      | some T1 => (ckS r n b T1).bind fun p => (jC o.b p.b).bind fun b' => (jC o.c p.c).map fun c => ⟨p.n, b', c⟩
      | none => some o
    | .asg tg e => (ck ret false 60 e T).bind fun p => (ckT ret 20 tg p.1 p.2).map fun T => ⟨some T, none, none⟩
    | .aug i o e => (ckb ret 60 e T).bind fun p => if pur e && decide (i < p.2.length) && augOk T[i]? then some ⟨some (p.2.set i .fz), none, none⟩ else none
    | .ex e => (ck ret false 60 e T).map fun p => ⟨some p.2, none, none⟩
    | .ite c a b => (ckB ret c T).bind fun T => (ckS r n a T).bind fun x => (ckS r n b T).bind fun y => x.join y
    | .wh c b => ckW r n 6 c b T T
    | .for_ tg it b => (ckI ret it T).bind fun T => ckF r n 6 tg b T T
    | .ret e => (ck ret true 60 e T).bind fun p => if sub1 p.1 r then some ⟨none, none, none⟩ else none
    | .brk => some ⟨none, some T, none⟩
    | .cnt => some ⟨none, none, some T⟩
    | .each i j _ => if decide (T[i]? = some (.lst (.lst .fz))) && decide (i ≠ j) && decide (j < T.length) then some ⟨some ((T.set j .dead).set i (.lst (.lst .fz))), none, none⟩ else none
/-- a while: the types ahead of each turn are sought in k rounds -/
def ckW (r : Ow) : Nat → Nat → E → S → Ty1 → Ty1 → Option Tyo
  | 0, _, _, _, _, _ => none
  | _, 0, _, _, _, _ => none
  | n + 1, k + 1, c, b, T0, T => (ckt ret 60 c T).bind fun T1 => (ckS r n b T1).bind fun o =>
    if subO o.n T && subO o.c T && subO (some T0) T then (jC (some T1) o.b).map fun x => ⟨x, none, none⟩
    else ckW r n k c b T0 ((jO (jO (jO (some T) (some T1)) o.n) o.c).getD T)
def ckF (r : Ow) : Nat → Nat → E → S → Ty1 → Ty1 → Option Tyo
  | 0, _, _, _, _, _ => none
  | _, 0, _, _, _, _ => none
  | n + 1, k + 1, tg, b, T0, T => (ckT ret 20 tg .fz T).bind fun T1 => (ckS r n b T1).bind fun o =>
    if subO o.n T && subO o.c T && subO (some T0) T then (jC (some T) o.b).map fun x => ⟨x, none, none⟩
    else ckF r n k tg b T0 ((jO (jO (some T) o.n) o.c).getD T)
end
end
/-- a def is good, its answers r -/
def ckFn (ret : Nat → Ow) (r : Ow) (f : Fn) : Bool :=
  (ckS ret r 200 f.body (List.replicate f.ps .fz ++ List.replicate (f.ns - f.ps) .bot)).isSome
end Rf
end

section
/-! Rf3: the model's texts made into Rf's. -/
namespace Rf
open PySem L2

/-- what a global name means -/
inductive GV where
  | fn (f n : Nat) | cst (d : D) | kdc (kvs : List (D × D)) | gcd | oth
structure Cc where
  N : List Str
  gl : List (Str × GV)
  blk : Option Scope := none
  rp : Bool := false
  bl : List Str := []
/-- the names whose cells are made by this body -/
def Cc.sto (C : Cc) (x : Str) : Bool := match C.blk with
  | none => true
  | some s => s.names.lookup x == some .cell
def Cc.into (C : Cc) (scope : Scope) : Cc := { C with blk := some scope }

def cConst : Const → Option E
  | .none => some (.lit .none)
  | .bool b => some (.lit (.bool b))
  | .int i => some (.lit (.int i))
  | .str x => if x.length ≤ line then some (.lit (.str x)) else none
  | _ => none
def idxS (x : Str) : List Str → Nat → Option Nat
  | [], _ => none
  | y :: r, k => if y = x then some k else idxS x r (k + 1)
def okName (x : Str) : Bool := !(x == ("__debug__" : Str)) && !(x == ("__classdict__" : Str)) && !(x == ("__name__" : Str))
def isGl (sc : Scope) (x : Str) : Bool := (match sc.names.lookup x with | some .globalImplicit => true | _ => false) && okName x
def isVis (sc : Scope) (x : Str) : Bool := match sc.names.lookup x with
  | some .local => true
  | some .cell => true
  | some .free => true
  | _ => false
/-- a name that may be stored -/
def isLoc (C : Cc) (sc : Scope) (x : Str) : Bool := match sc.names.lookup x with
  | some .local => true
  | some .cell => C.sto x
  | _ => false
def cName (C : Cc) (sc : Scope) (x : Str) : Option E :=
  if isVis sc x && okName x then (idxS x C.N 0).map .var
  else if isGl sc x then match C.gl.lookup x with
    | some (.cst d) => some (.lit d)
    | _ => none
  else none
def cBi (x : Str) : Option Bi :=
  if x = "len" then some .len else if x = "sorted" then some .sorted else if x = "sum" then some .sum else if x = "max" then some .max else if x = "min" then some .min
  else if x = "all" then some .all else if x = "any" then some .any else if x = "int" then some .int else if x = "abs" then some .abs else if x = "list" then some .list else none
def cMt (x : Str) : Option Mt :=
  if x = "append" then some .append else if x = "pop" then some .pop else none
/-- the name of a type -/
def cTy (x : Str) : Option Ty :=
  if x = "int" then some .int else if x = "bool" then some .bool else if x = "str" then some .str else if x = "list" then some .list else if x = "tuple" then some .tuple else if x = "dict" then some .dict else none
def cB : Operator → Option BOp
  | .Add => some .add | .Sub => some .sub | .Mult => some .mul | .FloorDiv => some .fdiv | .Mod => some .mod | .Pow => some .pow | _ => none
def cC : CmpOp → COp
  | .Eq => .eq | .NotEq => .ne | .Lt => .lt | .LtE => .le | .Gt => .gt | .GtE => .ge | .In => .isin | .NotIn => .notin | .Is => .is | .IsNot => .isnot
def ownOf (N : List Str) (scope : Scope) : List (Str × Nat) :=
  (scope.names.filter fun y => y.2 == .local || y.2 == .cell).filterMap fun y => (idxS y.1 N 0).map fun i => (y.1, i)
/-- a global of the module -/
def glv (C : Cc) (sc : Scope) (x : Str) : Option GV := if isGl sc x then C.gl.lookup x else none
/-- a builtin -/
def bltIn (C : Cc) (sc : Scope) (x : Str) : Bool := isGl sc x && ((C.gl.lookup x).isNone && C.bl.contains x)

/-- a written dict of the module -/
def kdN (C : Cc) (sc : Scope) : Expr → Option (List (D × D))
  | .Name x _ => match glv C sc x with
    | some (.kdc kvs) => some kvs
    | _ => none
  | _ => none
def isTup : Expr → Bool
  | .Tuple _ _ _ => true
  | _ => false

mutual
def cE (C : Cc) : Nat → Scope → Expr → Option E
  | 0, _, _ => none
  | n + 1, sc, .Name x _ => cName C sc x
  | n + 1, sc, .Constant c _ _ => cConst c
  | n + 1, sc, .Tuple es _ _ => if es.length ≤ 1000 then (cEs C n sc es).map .tup else none
  | n + 1, sc, .List es _ => if es.length ≤ 1000 then (cEs C n sc es).map .lst else none
  | n + 1, sc, .UnaryOp .USub a _ => (cE C n sc a).map .neg
  | n + 1, sc, .UnaryOp .Not a _ => (cE C n sc a).map .not
  | n + 1, sc, .BinOp a o b _ => (cE C n sc a).bind fun x => (cB o).bind fun o => (cE C n sc b).map fun y => .bin o x y
  | n + 1, sc, .Compare a [o] [b] _ => (cE C n sc a).bind fun x => (cE C n sc b).map fun y => .cmp (cC o) x y
  | n + 1, sc, .BoolOp .And (a :: b :: r) _ => cAnd C n sc (a :: b :: r)
  | n + 1, sc, .BoolOp .Or (a :: b :: r) _ => cOr C n sc (a :: b :: r)
  | n + 1, sc, .IfExp c a b _ => (cE C n sc c).bind fun z => (cE C n sc a).bind fun x => (cE C n sc b).map fun y => .ite z x y
  | n + 1, sc, .Subscript a i _ => match i with
    | .Slice lo hi none _ => (cE C n sc a).bind fun x => (cO C n sc lo).bind fun l => (cO C n sc hi).map fun h => .slc x l h
    | .Slice _ _ _ _ => none
    | i => match kdN C sc a with
      | some kvs => (cE C n sc i).map fun y => .bi (.kd kvs) (.cons y .nil)
      | none => (cE C n sc a).bind fun x => (cE C n sc i).map fun y => .sub x y
  | n + 1, sc, .Call (.Name f _) as [] _ => match glv C sc f with
    | some (.fn g k) => if as.length = k then (cEs C n sc as).map (.call g) else none
    | some .gcd => if as.length = 2 then (cEs C n sc as).map (.bi .gcd) else none
    | some _ => none
    | none => if bltIn C sc f && decide (as ≠ []) then (((cBi f).bind fun b => (cEs C n sc as).map (.bi b)) <|> cX C n sc f as) else none
  | n + 1, sc, .Call (.Attribute (.Name o p) m apos) as [] cpos => if (apos.endLine == cpos.line) then (cMt m).bind fun m => (cName C sc o).bind fun x => (cEs C n sc as).bind fun ys => if as.length ≤ 2 then some (.mt m x ys) else none else none
  | n + 1, sc, .ListComp elt [⟨tg, it, ifs, 0⟩] scope _ =>
      if blkC C.N sc scope (ownOf C.N scope) then
        (cItE C n sc tg it).bind fun i => (cT (C.into scope) n (relS scope sc) tg).bind fun t => (cIfs (C.into scope) n (relS scope sc) ifs).bind fun c => (cE (C.into scope) n (relS scope sc) elt).map fun e => .comp ((ownOf C.N scope).map (·.2)) t i c e
      else none
  | n + 1, sc, .DictComp k v [⟨tg, it, [], 0⟩] scope _ =>
      if blkC C.N sc scope (ownOf C.N scope) then
        (cItE C n sc tg it).bind fun i => (cT (C.into scope) n (relS scope sc) tg).bind fun t => (cE (C.into scope) n (relS scope sc) k).bind fun a => (cE (C.into scope) n (relS scope sc) v).map fun b => .dcomp ((ownOf C.N scope).map (·.2)) t i a b
      else none
  | _ + 1, _, _ => none
/-- builtins of a form of their own -/
def cX (C : Cc) : Nat → Scope → Str → List Expr → Option E
  | 0, _, _, _ => none
  | n + 1, sc, f, [.Call (.Name g _) [b] [] _] => if decide (f = "list") && decide (g = "range") && bltIn C sc g then (cE C n sc b).map fun x => .bi .list (.cons (.bi .range (.cons x .nil)) .nil) else none
  | n + 1, sc, f, [a] => if decide (f = "repr") && C.rp then (cEs C n sc [a]).map (.bi .repr) else none
  | n + 1, sc, f, [a, .Name t _] => if decide (f = "isinstance") && bltIn C sc t then (cTy t).bind fun ty => (cE C n sc a).map fun x => .isi x [ty] else none
  | _ + 1, _, _, _ => none
def cIfs (C : Cc) : Nat → Scope → List Expr → Option E
  | 0, _, _ => none
  | _ + 1, _, [] => some (.lit (.bool true))
  | n + 1, sc, [c] => cE C n sc c
  | _ + 1, _, _ => none
def cEs (C : Cc) : Nat → Scope → List Expr → Option E
  | 0, _, _ => none
  | _ + 1, _, [] => some .nil
  | n + 1, sc, e :: es => (cE C n sc e).bind fun x => (cEs C n sc es).map fun xs => .cons x xs
def cO (C : Cc) : Nat → Scope → Option Expr → Option E
  | 0, _, _ => none
  | _ + 1, _, none => some .nil
  | n + 1, sc, some e => cE C n sc e
def cAnd (C : Cc) : Nat → Scope → List Expr → Option E
  | 0, _, _ => none
  | n + 1, sc, [e] => cE C n sc e
  | n + 1, sc, e :: es => (cE C n sc e).bind fun x => (cAnd C n sc es).map fun y => .and x y
  | _, _, [] => none
def cOr (C : Cc) : Nat → Scope → List Expr → Option E
  | 0, _, _ => none
  | n + 1, sc, [e] => cE C n sc e
  | n + 1, sc, e :: es => (cE C n sc e).bind fun x => (cOr C n sc es).map fun y => .or x y
  | _, _, [] => none
/-- what is walked, by the target -/
def cItE (C : Cc) : Nat → Scope → Expr → Expr → Option E
  | 0, _, _, _ => none
  | n + 1, sc, tg, .Call (.Name f q) as [] p => if bltIn C sc f && (decide (f = "range") || decide (f = "enumerate") || decide (f = "zip")) then
      (if f = "range" then (if as.length = 1 ∨ as.length = 2 then (cEs C n sc as).map (.bi .range) else none) else if isTup tg then (if f = "enumerate" then (if as.length = 1 then (cEs C n sc as).map (.bi .enumerate) else none) else if as.length = 2 then (cEs C n sc as).map (.bi .zip) else none) else none)
      else cE C n sc (.Call (.Name f q) as [] p)
  | n + 1, sc, _, e => cE C n sc e
/-- a target -/
def cT (C : Cc) : Nat → Scope → Expr → Option E
  | 0, _, _ => none
  | _ + 1, sc, .Name x _ => if isLoc C sc x then (idxS x C.N 0).map .var else none
  | n + 1, sc, .Tuple es _ _ => (cTs C n sc es).map .tup
  | n + 1, sc, .Subscript (.Name x _) i _ => if isVis sc x && okName x then (idxS x C.N 0).bind fun k => (match i with | .Slice _ _ _ _ => none | i => cE C n sc i).map fun y => .sub (.var k) y else none
  | _ + 1, _, _ => none
def cTs (C : Cc) : Nat → Scope → List Expr → Option E
  | 0, _, _ => none
  | _ + 1, _, [] => some .nil
  | n + 1, sc, e :: es => (cT C n sc e).bind fun x => (cTs C n sc es).map fun xs => .cons x xs
end
end Rf
end

section
/-! Rf2a: how plain data lies in the layer's abstract heap; frozen and owned. -/
namespace Rf
open PySem L2

theorem seqT {K : PySem.W.Frag} {H H' : Hp} {a : Addr} {xs : List V} (e : Same H H') (h : SqT K H a xs) : SqT K H' a xs := by
  rcases h with (h | ⟨o, h⟩) | h
  · exact .inl (.inl (e _ _ h))
  · exact .inl (.inr ⟨o, e _ _ h⟩)
  · exact .inr h
/-- a key of the layer as a datum -/
def kD : Key → D
  | .inl i => .int i
  | .inr x => .str x
mutual
/-- v is the datum d, by what G holds (and the program's own constants) -/
inductive Fz (K : PySem.W.Frag) (G : Hp) : V → D → Prop
  | non : Fz K G .non .none
  | bl (b : Bool) : Fz K G (.bl b) (.bool b)
  | int (i : Int) : Fz K G (.int i) (.int i)
  | str (x : Str) : x.length ≤ line → Fz K G (.str x) (.str x)
  | lst {a : Addr} {xs : List V} {ds : List D} : G a = some (.lst xs) → FzA K G xs ds → Fz K G (.ref a) (.list ds)
  | scr {a : Addr} {ns : List Int} : SqL K G a (ns.map V.int) → Fz K G (.ref a) (.scr ns)
  | tup {a : Addr} {xs : List V} {ds : List D} : SqT K G a xs → FzA K G xs ds → Fz K G (.ref a) (.tuple ds)
  | dct {a : Addr} {ks : List (Key × V)} {ds : List (D × D)} : G a = some (.dK ks) → FzK K G ks ds → Fz K G (.ref a) (.dict ds)
inductive FzA (K : PySem.W.Frag) (G : Hp) : List V → List D → Prop
  | nil : FzA K G [] []
  | cons {v : V} {vs : List V} {d : D} {ds : List D} : Fz K G v d → FzA K G vs ds → FzA K G (v :: vs) (d :: ds)
inductive FzK (K : PySem.W.Frag) (G : Hp) : List (Key × V) → List (D × D) → Prop
  | nil : FzK K G [] []
  | cons {k : Key} {v : V} {vs : List (Key × V)} {d : D} {ds : List (D × D)} : Fz K G v d → FzK K G vs ds → FzK K G ((k, v) :: vs) ((kD k, d) :: ds)
end
section
variable {K : PySem.W.Frag} {G G' H H' : Hp}
mutual
theorem Fz.same (s : Same G G') : ∀ {d : D} {v : V}, Fz K G v d → Fz K G' v d
  | .none, _, h => by cases h; exact .non
  | .bool _, _, h => by cases h; exact .bl _
  | .int _, _, h => by cases h; exact .int _
  | .str _, _, h => by cases h with | str _ a => exact .str _ a
  | .list _, _, h => by cases h with | lst a b => exact .lst (s _ _ a) (FzA.same s b)
  | .tuple _, _, h => by cases h with | tup a b => exact .tup (seqT s a) (FzA.same s b)
  | .dict _, _, h => by cases h with | dct a b => exact .dct (s _ _ a) (FzK.same s b)
  | .scr _, _, h => by cases h with | scr a => exact .scr (s.seq a)
theorem FzA.same (s : Same G G') : ∀ {ds : List D} {vs : List V}, FzA K G vs ds → FzA K G' vs ds
  | [], _, h => by cases h; exact .nil
  | _ :: _, _, h => by cases h with | cons a b => exact .cons (Fz.same s a) (FzA.same s b)
theorem FzK.same (s : Same G G') : ∀ {ds : List (D × D)} {vs : List (Key × V)}, FzK K G vs ds → FzK K G' vs ds
  | [], _, h => by cases h; exact .nil
  | (_, _) :: _, _, h => by cases h with | cons a b => exact .cons (Fz.same s a) (FzK.same s b)
end
theorem FzA.len : ∀ {ds : List D} {vs : List V}, FzA K G vs ds → vs.length = ds.length
  | [], _, h => by cases h; rfl
  | _ :: _, _, h => by cases h with | cons a b => simp [FzA.len b]
theorem FzK.len : ∀ {ds : List (D × D)} {vs : List (Key × V)}, FzK K G vs ds → vs.length = ds.length
  | [], _, h => by cases h; rfl
  | (_, _) :: _, _, h => by cases h with | cons a b => simp [FzK.len b]
theorem FzA.get : ∀ {ds : List D} {vs : List V} {i : Nat} {d : D}, FzA K G vs ds → ds[i]? = some d → ∃ v, vs[i]? = some v ∧ Fz K G v d
  | [], _, _, _, _, e => by simp at e
  | _ :: _, _, 0, _, h, e => by cases h with | cons a b => simp at e; subst e; exact ⟨_, rfl, a⟩
  | _ :: _, _, i + 1, _, h, e => by
    cases h with
    | cons a b =>
      obtain ⟨v, h1, h2⟩ := FzA.get (i := i) b (by simpa using e)
      exact ⟨v, by simpa using h1, h2⟩
theorem FzA.app : ∀ {ds es : List D} {vs ws : List V}, FzA K G vs ds → FzA K G ws es → FzA K G (vs ++ ws) (ds ++ es)
  | [], _, _, _, h, q => by cases h; exact q
  | _ :: _, _, _, _, h, q => by cases h with | cons a b => exact .cons a (b.app q)
theorem FzA.take : ∀ {ds : List D} {vs : List V} (n : Nat), FzA K G vs ds → FzA K G (vs.take n) (ds.take n)
  | _, _, 0, _ => by simpa using FzA.nil
  | [], _, n + 1, h => by cases h; exact .nil
  | _ :: _, _, n + 1, h => by cases h with | cons a b => exact .cons a (b.take n)
theorem FzA.drop : ∀ {ds : List D} {vs : List V} (n : Nat), FzA K G vs ds → FzA K G (vs.drop n) (ds.drop n)
  | _, _, 0, h => by simpa using h
  | [], _, n + 1, h => by cases h; exact .nil
  | _ :: _, _, n + 1, h => by cases h with | cons a b => exact b.drop n
theorem FzA.set : ∀ {ds : List D} {vs : List V} {d : D} {v : V} (n : Nat), FzA K G vs ds → Fz K G v d → FzA K G (vs.set n v) (ds.set n d)
  | [], _, _, _, n, h, _ => by cases h; exact .nil
  | _ :: _, _, _, _, 0, h, q => by cases h with | cons a b => exact .cons q b
  | _ :: _, _, _, _, n + 1, h, q => by cases h with | cons a b => exact .cons a (b.set n q)
theorem FzA.rev : ∀ {ds : List D} {vs : List V}, FzA K G vs ds → FzA K G vs.reverse ds.reverse
  | [], _, h => by cases h; exact .nil
  | _ :: _, _, h => by
    cases h with
    | cons a b =>
      rw [List.reverse_cons, List.reverse_cons]
      exact b.rev.app (.cons a .nil)
theorem FzA.intsV : ∀ (ns : List Int), FzA K G (ns.map V.int) (ns.map D.int)
  | [] => .nil
  | n :: r => .cons (.int n) (FzA.intsV r)
theorem FzA.ints : ∀ {ds : List D} {vs : List V} {ns : List Int}, FzA K G vs ds → intsD ds = some ns → vs = ns.map V.int
  | [], _, _, h, e => by cases h; simp [intsD] at e; subst e; rfl
  | d :: ds, _, ns, h, e => by
    cases h with
    | cons a b =>
      cases a <;> simp only [intsD] at e <;> try (cases e)
      rename_i i
      cases q : intsD ds with
      | none => rw [q] at e; cases e
      | some ms =>
        rw [q] at e
        simp at e
        subst e
        rw [FzA.ints b q]
        rfl
theorem FzA.bools : ∀ {ds : List D} {vs : List V} {ns : List Bool}, FzA K G vs ds → boolsD ds = some ns → vs = ns.map V.bl
  | [], _, _, h, e => by cases h; simp [boolsD] at e; subst e; rfl
  | d :: ds, _, ns, h, e => by
    cases h with
    | cons a b =>
      cases a <;> simp only [boolsD] at e <;> try (cases e)
      rename_i i
      cases q : boolsD ds with
      | none => rw [q] at e; cases e
      | some ms =>
        rw [q] at e
        simp at e
        subst e
        rw [FzA.bools b q]
        rfl
theorem Fz.dp : ∀ {n : Nat} {d : D} {v : V}, Fz K G v d → shpB n d = true → Dp K G v (cast d) ∧ PyData.canLay0 (cast d) = true ∧ PyData.depth (cast d) ≤ n + 1 := by
  intro n
  induction n with
  | zero =>
    intro d v h c
    cases h <;> simp [shpB] at c
    · exact ⟨.non, rfl, by simp [cast, PyData.depth]⟩
    · exact ⟨.bl _, rfl, by simp [cast, PyData.depth]⟩
    · exact ⟨.int _, rfl, by simp [cast, PyData.depth]⟩
    · exact ⟨.str _, by simp [cast, PyData.canLay0, c], by simp [cast, PyData.depth]⟩
  | succ n ih =>
    have all : ∀ {ds : List D} {vs : List V}, FzA K G vs ds → ds.all (shpB n) = true → DpAll K G vs (cast.castA ds) ∧ PyData.canLayAll0 (cast.castA ds) = true ∧ PyData.depthAll (cast.castA ds) ≤ n + 1 := by
      intro ds
      induction ds with
      | nil => intro vs h _; cases h; exact ⟨.nil, rfl, by simp [cast.castA, PyData.depthAll]⟩
      | cons d ds jh =>
        intro vs h c
        cases h with
        | cons a b =>
          simp only [List.all_cons, Bool.and_eq_true] at c
          obtain ⟨h1, h2, h3⟩ := ih a c.1
          obtain ⟨q1, q2, q3⟩ := jh b c.2
          refine ⟨.cons h1 q1, by simp [cast.castA, PyData.canLayAll0, h2, q2], ?_⟩
          simp only [cast.castA, PyData.depthAll]
          omega
    intro d v h c
    cases h with
    | non => exact ⟨.non, rfl, by simp [cast, PyData.depth]⟩
    | bl => exact ⟨.bl _, rfl, by simp [cast, PyData.depth]⟩
    | int => exact ⟨.int _, rfl, by simp [cast, PyData.depth]⟩
    | str => exact ⟨.str _, by simpa [cast, PyData.canLay0, shpB] using c, by simp [cast, PyData.depth]⟩
    | lst a b =>
      obtain ⟨q1, q2, q3⟩ := all b (by simpa [shpB] using c)
      exact ⟨.lst (.inl (.inl a)) q1, by simpa [cast, PyData.canLay0] using q2, by simp only [cast, PyData.depth]; omega⟩
    | tup a b =>
      obtain ⟨q1, q2, q3⟩ := all b (by simpa [shpB] using c)
      exact ⟨.tup a q1, by simpa [cast, PyData.canLay0] using q2, by simp only [cast, PyData.depth]; omega⟩
    | dct a b => simp [shpB] at c
    | scr a => simp [shpB] at c
mutual
theorem eqD_cast : ∀ {n m : Nat} {a b : D}, shpB n a = true → shpB m b = true → PyData.eqv (cast a) (cast b) = eqD a b
  | n, m, a, b, h1, h2 => by
    cases a <;> cases b <;> first
      | rfl
      | (simp [shpB] at h1; done)
      | (simp [shpB] at h2; done)
      | (cases n <;> cases m <;> simp [shpB] at h1 h2 <;> (simp only [cast, PyData.eqv, eqD]; exact eqA_cast (by simpa using h1) (by simpa using h2)))
theorem eqA_cast : ∀ {n m : Nat} {a b : List D}, a.all (shpB n) = true → b.all (shpB m) = true → PyData.eqvAll (cast.castA a) (cast.castA b) = eqA a b
  | n, m, [], [], _, _ => rfl
  | n, m, x :: xs, y :: ys, h1, h2 => by
    simp only [List.all_cons, Bool.and_eq_true] at h1 h2
    simp only [cast.castA, PyData.eqvAll, eqA]
    rw [eqD_cast h1.1 h2.1, eqA_cast h1.2 h2.2]
  | n, m, [], _ :: _, _, _ => rfl
  | n, m, _ :: _, [], _, _ => rfl
end
end

/-! ### what a place holds -/
def RL (P : V → D → List Addr → Prop) : List V → List D → List Addr → Prop
  | [], [], F => F = []
  | x :: xs, d :: ds, F => ∃ F1 F2, F = F1 ++ F2 ∧ P x d F1 ∧ RL P xs ds F2
  | _, _, _ => False
def RK (P : V → D → List Addr → Prop) : List (Key × V) → List (D × D) → List Addr → Prop
  | [], [], F => F = []
  | (k, x) :: xs, (c, d) :: ds, F => c = kD k ∧ ∃ F1 F2, F = F1 ++ F2 ∧ P x d F1 ∧ RK P xs ds F2
  | _, _, _ => False
def notL : D → Bool
  | .list _ => false
  | .dict _ => false
  | _ => true
section
variable (K : PySem.W.Frag) (G H : Hp)
mutual
def R : Ow → V → D → List Addr → Prop
  | .bot, _, _, _ => False
  | .fz, v, d, F => F = [] ∧ Fz K G v d
  | .lst c, v, d, F => (∃ a xs ds F', v = .ref a ∧ d = .list ds ∧ F = a :: F' ∧ G a = none ∧ H a = some (.lst xs) ∧ RL (R c) xs ds F') ∨ (c = .fz ∧ F = [] ∧ Fz K G v d ∧ notL d = true)
  | .dct c, v, d, F => ∃ a ks ds F', v = .ref a ∧ d = .dict ds ∧ F = a :: F' ∧ G a = none ∧ H a = some (.dK ks) ∧ RK (R c) ks ds F'
  | .tup c, v, d, F => ∃ a xs ds F', v = .ref a ∧ d = .tuple ds ∧ F = a :: F' ∧ G a = none ∧ H a = some (.tup xs) ∧ RT c xs ds F'
  | .tn, _, _, _ => False
  | .tc _ _, _, _, _ => False
  | .dead, _, _, _ => False
def RT : Ow → List V → List D → List Addr → Prop
  | .tn, xs, ds, F => xs = [] ∧ ds = [] ∧ F = []
  | .tc a r, xs, ds, F => ∃ x xr d dr F1 F2, xs = x :: xr ∧ ds = d :: dr ∧ F = F1 ++ F2 ∧ R a x d F1 ∧ RT r xr dr F2
  | .bot, _, _, _ => False
  | .fz, _, _, _ => False
  | .lst _, _, _, _ => False
  | .dct _, _, _, _ => False
  | .tup _, _, _, _ => False
  | .dead, _, _, _ => False
end
end
section
variable {K : PySem.W.Frag} {G G' H H' : Hp}
theorem RL.mono {P P' : V → D → List Addr → Prop} : ∀ {xs : List V} {ds : List D} {F : List Addr}, (∀ v d F1, (∀ a ∈ F1, a ∈ F) → P v d F1 → P' v d F1) → RL P xs ds F → RL P' xs ds F
  | [], [], _, _, h => h
  | x :: xs, d :: ds, F, k, h => by
    obtain ⟨F1, F2, rfl, p, r⟩ := h
    exact ⟨F1, F2, rfl, k _ _ _ (fun a h => List.mem_append_left _ h) p, RL.mono (fun v d F3 q => k v d F3 fun a h => List.mem_append_right _ (q a h)) r⟩
  | [], _ :: _, _, _, h => h.elim
  | _ :: _, [], _, _, h => h.elim
theorem RK.mono {P P' : V → D → List Addr → Prop} : ∀ {xs : List (Key × V)} {ds : List (D × D)} {F : List Addr}, (∀ v d F1, (∀ a ∈ F1, a ∈ F) → P v d F1 → P' v d F1) → RK P xs ds F → RK P' xs ds F
  | [], [], _, _, h => h
  | (_, x) :: xs, (_, d) :: ds, F, k, h => by
    obtain ⟨e, F1, F2, rfl, p, r⟩ := h
    exact ⟨e, F1, F2, rfl, k _ _ _ (fun a h => List.mem_append_left _ h) p, RK.mono (fun v d F3 q => k v d F3 fun a h => List.mem_append_right _ (q a h)) r⟩
  | [], _ :: _, _, _, h => h.elim
  | _ :: _, [], _, _, h => h.elim
mutual
/-- the owned places stand as they stood, no one froze them -/
theorem R.mono (s : Same G G') : ∀ {t : Ow} {v : V} {d : D} {F : List Addr}, (∀ a ∈ F, G' a = none) → (∀ a ∈ F, H' a = H a) → R K G H t v d F → R K G' H' t v d F
  | .bot, _, _, _, _, _, h => h.elim
  | .fz, _, _, _, _, _, h => ⟨h.1, h.2.same s⟩
  | .lst c, _, _, _, g, k, h => by
    rcases h with ⟨a, xs, ds, F', rfl, rfl, rfl, hg, hh, r⟩ | ⟨z, e, f, n⟩
    · exact .inl ⟨a, xs, ds, F', rfl, rfl, rfl, g a (by simp), (k a (by simp)).trans hh,
        r.mono fun v d F1 q => R.mono s (fun b hb => g b (by simp [q b hb])) fun b hb => k b (by simp [q b hb])⟩
    · exact .inr ⟨z, e, f.same s, n⟩
  | .dct c, _, _, _, g, k, h => by
    obtain ⟨a, xs, ds, F', rfl, rfl, rfl, hg, hh, r⟩ := h
    exact ⟨a, xs, ds, F', rfl, rfl, rfl, g a (by simp), (k a (by simp)).trans hh,
      r.mono fun v d F1 q => R.mono s (fun b hb => g b (by simp [q b hb])) fun b hb => k b (by simp [q b hb])⟩
  | .tup c, _, _, _, g, k, h => by
    obtain ⟨a, xs, ds, F', rfl, rfl, rfl, hg, hh, r⟩ := h
    exact ⟨a, xs, ds, F', rfl, rfl, rfl, g a (by simp), (k a (by simp)).trans hh, RT.mono s (fun b hb => g b (by simp [hb])) (fun b hb => k b (by simp [hb])) r⟩
  | .tn, _, _, _, _, _, h => h.elim
  | .tc _ _, _, _, _, _, _, h => h.elim
  | .dead, _, _, _, _, _, h => h.elim
theorem RT.mono (s : Same G G') : ∀ {t : Ow} {xs : List V} {ds : List D} {F : List Addr}, (∀ a ∈ F, G' a = none) → (∀ a ∈ F, H' a = H a) → RT K G H t xs ds F → RT K G' H' t xs ds F
  | .tn, _, _, _, _, _, h => h
  | .tc a r, _, _, _, g, k, h => by
    obtain ⟨x, xr, d, dr, F1, F2, rfl, rfl, rfl, p, q⟩ := h
    exact ⟨x, xr, d, dr, F1, F2, rfl, rfl, rfl, R.mono s (fun b hb => g b (by simp [hb])) (fun b hb => k b (by simp [hb])) p,
      RT.mono s (fun b hb => g b (by simp [hb])) (fun b hb => k b (by simp [hb])) q⟩
  | .bot, _, _, _, _, _, h => h.elim
  | .fz, _, _, _, _, _, h => h.elim
  | .lst _, _, _, _, _, _, h => h.elim
  | .dct _, _, _, _, _, _, h => h.elim
  | .tup _, _, _, _, _, _, h => h.elim
  | .dead, _, _, _, _, _, h => h.elim
end
/-- what is frozen when the places F of H are -/
def frzG (G H : Hp) (F : List Addr) : Hp := fun a => if a ∈ F then H a else G a
theorem frzG_same (s : Same G H) (F : List Addr) : Same G (frzG G H F) := fun a o e => by
  unfold frzG
  split
  · exact s a o e
  · exact e
theorem frzG_le (s : Same G H) (F : List Addr) : Same (frzG G H F) H := fun a o e => by
  unfold frzG at e
  split at e
  · exact e
  · exact s a o e
theorem frzG_sub (s : Same G H) {F1 F : List Addr} (h : ∀ a ∈ F1, a ∈ F) : Same (frzG G H F1) (frzG G H F) := fun a o e => by
  unfold frzG at e ⊢
  split at e
  · rename_i q; rw [if_pos (h a q)]; exact e
  · split
    · exact s a o e
    · exact e
theorem frzG_none {F : List Addr} {a : Addr} (h : a ∉ F) (g : G a = none) : frzG G H F a = none := by
  unfold frzG; rw [if_neg h]; exact g
theorem RL.frz {P : V → D → List Addr → Prop} (s : Same G H) (F0 : List Addr) (k : ∀ v d F1, (∀ a ∈ F1, a ∈ F0) → P v d F1 → Fz K (frzG G H F0) v d) : ∀ {xs : List V} {ds : List D} {F : List Addr}, (∀ a ∈ F, a ∈ F0) → RL P xs ds F → FzA K (frzG G H F0) xs ds
  | [], [], _, _, h => .nil
  | x :: xs, d :: ds, F, q, h => by
    obtain ⟨F1, F2, rfl, p, r⟩ := h
    exact .cons (k _ _ _ (fun a h => q a (List.mem_append_left _ h)) p) (RL.frz s F0 k (fun a h => q a (List.mem_append_right _ h)) r)
  | [], _ :: _, _, _, h => h.elim
  | _ :: _, [], _, _, h => h.elim
theorem RK.frz {P : V → D → List Addr → Prop} (s : Same G H) (F0 : List Addr) (k : ∀ v d F1, (∀ a ∈ F1, a ∈ F0) → P v d F1 → Fz K (frzG G H F0) v d) : ∀ {xs : List (Key × V)} {ds : List (D × D)} {F : List Addr}, (∀ a ∈ F, a ∈ F0) → RK P xs ds F → FzK K (frzG G H F0) xs ds
  | [], [], _, _, h => .nil
  | (_, x) :: xs, (_, d) :: ds, F, q, h => by
    obtain ⟨rfl, F1, F2, rfl, p, r⟩ := h
    exact .cons (k _ _ _ (fun a h => q a (List.mem_append_left _ h)) p) (RK.frz s F0 k (fun a h => q a (List.mem_append_right _ h)) r)
  | [], _ :: _, _, _, h => h.elim
  | _ :: _, [], _, _, h => h.elim
mutual
/-- what is held, once it is frozen -/
theorem R.frz (s : Same G H) (F0 : List Addr) : ∀ {t : Ow} {v : V} {d : D} {F : List Addr}, (∀ a ∈ F, a ∈ F0) → R K G H t v d F → Fz K (frzG G H F0) v d
  | .bot, _, _, _, _, h => h.elim
  | .fz, _, _, _, _, h => h.2.same (frzG_same s F0)
  | .lst c, _, _, _, q, h => by
    rcases h with ⟨a, xs, ds, F', rfl, rfl, rfl, hg, hh, r⟩ | ⟨z, e, f, n⟩
    · have ha : frzG G H F0 a = some (.lst xs) := by unfold frzG; rw [if_pos (q a (by simp))]; exact hh
      exact .lst ha (r.frz s F0 (fun v d F1 h1 p => R.frz s F0 h1 p) fun b hb => q b (by simp [hb]))
    · exact f.same (frzG_same s F0)
  | .dct c, _, _, _, q, h => by
    obtain ⟨a, xs, ds, F', rfl, rfl, rfl, hg, hh, r⟩ := h
    have ha : frzG G H F0 a = some (.dK xs) := by unfold frzG; rw [if_pos (q a (by simp))]; exact hh
    exact .dct ha (r.frz s F0 (fun v d F1 h1 p => R.frz s F0 h1 p) fun b hb => q b (by simp [hb]))
  | .tup c, _, _, _, q, h => by
    obtain ⟨a, xs, ds, F', rfl, rfl, rfl, hg, hh, r⟩ := h
    have ha : frzG G H F0 a = some (.tup xs) := by unfold frzG; rw [if_pos (q a (by simp))]; exact hh
    exact .tup (.inl (.inl ha)) (RT.frz s F0 (fun b hb => q b (by simp [hb])) r)
  | .tn, _, _, _, _, h => h.elim
  | .tc _ _, _, _, _, _, h => h.elim
  | .dead, _, _, _, _, h => h.elim
theorem RT.frz (s : Same G H) (F0 : List Addr) : ∀ {t : Ow} {xs : List V} {ds : List D} {F : List Addr}, (∀ a ∈ F, a ∈ F0) → RT K G H t xs ds F → FzA K (frzG G H F0) xs ds
  | .tn, _, _, _, _, h => by obtain ⟨rfl, rfl, rfl⟩ := h; exact .nil
  | .tc a r, _, _, _, q, h => by
    obtain ⟨x, xr, d, dr, F1, F2, rfl, rfl, rfl, p, r⟩ := h
    exact .cons (R.frz s F0 (fun b hb => q b (by simp [hb])) p) (RT.frz s F0 (fun b hb => q b (by simp [hb])) r)
  | .bot, _, _, _, _, h => h.elim
  | .fz, _, _, _, _, h => h.elim
  | .lst _, _, _, _, _, h => h.elim
  | .dct _, _, _, _, _, h => h.elim
  | .tup _, _, _, _, _, h => h.elim
  | .dead, _, _, _, _, h => h.elim
end
/-- frozen items, as items of type fz -/
theorem FzA.rl : ∀ {xs : List V} {ds : List D}, FzA K G xs ds → RL (R K G H .fz) xs ds []
  | _, [], h => by cases h; rfl
  | _, _ :: _, h => by cases h with | cons a b => exact ⟨[], [], rfl, ⟨rfl, a⟩, b.rl⟩
theorem FzK.rk : ∀ {xs : List (Key × V)} {ds : List (D × D)}, FzK K G xs ds → RK (R K G H .fz) xs ds []
  | _, [], h => by cases h; rfl
  | _, (_, _) :: _, h => by cases h with | cons a b => exact ⟨rfl, [], [], rfl, ⟨rfl, a⟩, b.rk⟩
theorem RL.fz : ∀ {xs : List V} {ds : List D} {F : List Addr}, RL (R K G H .fz) xs ds F → F = [] ∧ FzA K G xs ds
  | [], [], _, h => ⟨h, .nil⟩
  | _ :: _, _ :: _, _, h => by
    obtain ⟨F1, F2, rfl, p, q⟩ := h
    obtain ⟨e, f⟩ := RL.fz q
    exact ⟨by rw [p.1, e]; rfl, .cons p.2 f⟩
  | [], _ :: _, _, h => h.elim
  | _ :: _, [], _, h => h.elim
theorem RK.fz : ∀ {xs : List (Key × V)} {ds : List (D × D)} {F : List Addr}, RK (R K G H .fz) xs ds F → F = [] ∧ FzK K G xs ds
  | [], [], _, h => ⟨h, .nil⟩
  | (_, _) :: _, (_, _) :: _, _, h => by
    obtain ⟨rfl, F1, F2, rfl, p, q⟩ := h
    obtain ⟨e, f⟩ := RK.fz q
    exact ⟨by rw [p.1, e]; rfl, .cons p.2 f⟩
  | [], _ :: _, _, h => h.elim
  | _ :: _, [], _, h => h.elim
/-- in the whole heap -/
theorem R.all (s : Same G H) {t : Ow} {v : V} {d : D} {F : List Addr} (h : R K G H t v d F) : Fz K H v d :=
  (h.frz s F fun _ q => q).same (frzG_le s F)
theorem RL.gn {P : V → D → List Addr → Prop} (k : ∀ v d F1, P v d F1 → ∀ a ∈ F1, G a = none ∧ (H a).isSome = true) : ∀ {xs : List V} {ds : List D} {F : List Addr}, RL P xs ds F → ∀ a ∈ F, G a = none ∧ (H a).isSome = true
  | [], [], _, h => by subst h; simp
  | x :: xs, d :: ds, F, h => by
    obtain ⟨F1, F2, rfl, p, r⟩ := h
    intro a ha
    rcases List.mem_append.mp ha with ha | ha
    · exact k _ _ _ p a ha
    · exact RL.gn k r a ha
  | [], _ :: _, _, h => h.elim
  | _ :: _, [], _, h => h.elim
theorem RK.gn {P : V → D → List Addr → Prop} (k : ∀ v d F1, P v d F1 → ∀ a ∈ F1, G a = none ∧ (H a).isSome = true) : ∀ {xs : List (Key × V)} {ds : List (D × D)} {F : List Addr}, RK P xs ds F → ∀ a ∈ F, G a = none ∧ (H a).isSome = true
  | [], [], _, h => by subst h; simp
  | (_, x) :: xs, (_, d) :: ds, F, h => by
    obtain ⟨_, F1, F2, rfl, p, r⟩ := h
    intro a ha
    rcases List.mem_append.mp ha with ha | ha
    · exact k _ _ _ p a ha
    · exact RK.gn k r a ha
  | [], _ :: _, _, h => h.elim
  | _ :: _, [], _, h => h.elim
mutual
/-- owned places are not frozen, and they are there -/
theorem R.gn : ∀ {t : Ow} {v : V} {d : D} {F : List Addr}, R K G H t v d F → ∀ a ∈ F, G a = none ∧ (H a).isSome = true
  | .bot, _, _, _, h => h.elim
  | .fz, _, _, _, h => by rw [h.1]; simp
  | .lst c, _, _, _, h => by
    rcases h with ⟨a, xs, ds, F', rfl, rfl, rfl, hg, hh, r⟩ | ⟨z, e, f, n⟩
    · intro b hb
      rcases List.mem_cons.mp hb with rfl | hb
      · exact ⟨hg, by rw [hh]; rfl⟩
      · exact r.gn (fun v d F1 p => R.gn p) b hb
    · rw [e]; simp
  | .dct c, _, _, _, h => by
    obtain ⟨a, xs, ds, F', rfl, rfl, rfl, hg, hh, r⟩ := h
    intro b hb
    rcases List.mem_cons.mp hb with rfl | hb
    · exact ⟨hg, by rw [hh]; rfl⟩
    · exact r.gn (fun v d F1 p => R.gn p) b hb
  | .tup c, _, _, _, h => by
    obtain ⟨a, xs, ds, F', rfl, rfl, rfl, hg, hh, r⟩ := h
    intro b hb
    rcases List.mem_cons.mp hb with rfl | hb
    · exact ⟨hg, by rw [hh]; rfl⟩
    · exact RT.gn r b hb
  | .tn, _, _, _, h => h.elim
  | .tc _ _, _, _, _, h => h.elim
  | .dead, _, _, _, h => h.elim
theorem RT.gn : ∀ {t : Ow} {xs : List V} {ds : List D} {F : List Addr}, RT K G H t xs ds F → ∀ a ∈ F, G a = none ∧ (H a).isSome = true
  | .tn, _, _, _, h => by obtain ⟨_, _, rfl⟩ := h; simp
  | .tc a r, _, _, _, h => by
    obtain ⟨x, xr, d, dr, F1, F2, rfl, rfl, rfl, p, q⟩ := h
    intro b hb
    rcases List.mem_append.mp hb with hb | hb
    · exact R.gn p b hb
    · exact RT.gn q b hb
  | .bot, _, _, _, h => h.elim
  | .fz, _, _, _, h => h.elim
  | .lst _, _, _, _, h => h.elim
  | .dct _, _, _, _, h => h.elim
  | .tup _, _, _, _, h => h.elim
  | .dead, _, _, _, h => h.elim
end
mutual
theorem R.sub0 : ∀ {t u : Ow} {v : V} {d : D} {F : List Addr}, Rf.sub0 t u = true → R K G H t v d F → R K G H u v d F
  | .bot, _, _, _, _, _, h => h.elim
  | .fz, u, _, _, _, e, h => by cases u <;> simp [Rf.sub0] at e; exact h
  | .lst c, u, _, _, _, e, h => by
    cases u <;> simp [Rf.sub0] at e
    rcases h with ⟨a, xs, ds, F', rfl, rfl, rfl, hg, hh, r⟩ | q
    · exact .inl ⟨a, xs, ds, F', rfl, rfl, rfl, hg, hh, r.mono fun _ _ _ _ p => R.sub0 e p⟩
    · obtain ⟨rfl, q⟩ := q
      rename_i u
      cases u <;> simp [Rf.sub0] at e
      exact .inr ⟨rfl, q⟩
  | .dct c, u, _, _, _, e, h => by
    cases u <;> simp [Rf.sub0] at e
    obtain ⟨a, xs, ds, F', rfl, rfl, rfl, hg, hh, r⟩ := h
    exact ⟨a, xs, ds, F', rfl, rfl, rfl, hg, hh, r.mono fun _ _ _ _ p => R.sub0 e p⟩
  | .tup c, u, _, _, _, e, h => by
    cases u <;> simp [Rf.sub0] at e
    obtain ⟨a, xs, ds, F', rfl, rfl, rfl, hg, hh, r⟩ := h
    exact ⟨a, xs, ds, F', rfl, rfl, rfl, hg, hh, RT.sub0 e r⟩
  | .tn, _, _, _, _, _, h => h.elim
  | .tc _ _, _, _, _, _, _, h => h.elim
  | .dead, _, _, _, _, _, h => h.elim
theorem RT.sub0 : ∀ {t u : Ow} {xs : List V} {ds : List D} {F : List Addr}, Rf.sub0 t u = true → RT K G H t xs ds F → RT K G H u xs ds F
  | .tn, u, _, _, _, e, h => by cases u <;> simp [Rf.sub0] at e; exact h
  | .tc a r, u, _, _, _, e, h => by
    cases u <;> simp [Rf.sub0] at e
    obtain ⟨x, xr, d, dr, F1, F2, rfl, rfl, rfl, p, q⟩ := h
    exact ⟨x, xr, d, dr, F1, F2, rfl, rfl, rfl, R.sub0 e.1 p, RT.sub0 e.2 q⟩
  | .bot, _, _, _, _, _, h => h.elim
  | .fz, _, _, _, _, _, h => h.elim
  | .lst _, _, _, _, _, _, h => h.elim
  | .dct _, _, _, _, _, _, h => h.elim
  | .tup _, _, _, _, _, _, h => h.elim
  | .dead, _, _, _, _, _, h => h.elim
end
end
end Rf
end

section
/-! Rf2b: the state of a body: slots, data, owned places. -/
namespace Rf
open PySem L2
section
variable {K : PySem.W.Frag}
structure SInv (K : PySem.W.Frag) (H0 G H : Hp) (σ : St) (ρ : Env) (T : Ty1) (F : Nat → List Addr) : Prop where
  gh : Same G H
  h0 : Same H0 H
  ls : σ.length = ρ.length
  lt : T.length = ρ.length
  sl : ∀ i t d, T[i]? = some t → t ≠ .dead → ρ[i]? = some (some d) → ∃ v, σ[i]? = some (some v) ∧ R K G H t v d (F i)
  nd : ∀ i, (F i).Nodup
  dj : ∀ i j a, a ∈ F i → a ∈ F j → i = j
  fr : ∀ i a, a ∈ F i → H0 a = none ∧ G a = none ∧ (H a).isSome = true
/-- G' freezes more, nothing of what H0 has -/
structure GS (H0 G G' : Hp) : Prop where
  same : Same G G'
  no : ∀ a, (H0 a).isSome = true → G a = none → G' a = none
theorem GS.refl (H0 G : Hp) : GS H0 G G := ⟨Same.refl G, fun _ _ h => h⟩
theorem GS.trans {H0 G G1 G2 : Hp} (a : GS H0 G G1) (b : GS H0 G1 G2) : GS H0 G G2 := ⟨a.same.trans b.same, fun x h1 h2 => b.no x h1 (a.no x h1 h2)⟩
structure Own (H0 : Hp) (F : Nat → List Addr) (Fv : List Addr) : Prop where
  nd : Fv.Nodup
  fr : ∀ a ∈ Fv, H0 a = none
  dj : ∀ i a, a ∈ Fv → a ∉ F i
theorem Own.nil (H0 : Hp) (F : Nat → List Addr) : Own H0 F [] := ⟨.nil, by simp, by simp⟩
variable {H0 G G' H H' : Hp} {σ : St} {ρ : Env} {T T' : Ty1} {F : Nat → List Addr}
theorem sameSome {A B : Hp} (s : Same A B) {a : Addr} (h : (A a).isSome = true) : B a = A a := by
  cases e : A a with
  | none => rw [e] at h; cases h
  | some o => exact s a o e
theorem isSome_ne {H : Hp} {a b : Addr} (h : H a = none) (h' : (H b).isSome = true) : b ≠ a := fun e => by subst e; rw [h] at h'; cases h'
/-- the heap grows, more is frozen -/
theorem SInv.mono (I : SInv K H0 G H σ ρ T F) (g : Same G G') (gh : Same G' H') (s : Same H H') (n : ∀ i a, a ∈ F i → G' a = none) : SInv K H0 G' H' σ ρ T F where
  gh := gh
  h0 := I.h0.trans s
  ls := I.ls
  lt := I.lt
  sl := fun i t d e1 e2 e3 => by
    obtain ⟨v, h1, h2⟩ := I.sl i t d e1 e2 e3
    exact ⟨v, h1, h2.mono g (n i) fun a ha => sameSome s (I.fr i a ha).2.2⟩
  nd := I.nd
  dj := I.dj
  fr := fun i a h => ⟨(I.fr i a h).1, n i a h, by rw [sameSome s (I.fr i a h).2.2]; exact (I.fr i a h).2.2⟩
theorem SInv.grow (I : SInv K H0 G H σ ρ T F) (s : Same H H') : SInv K H0 G H' σ ρ T F :=
  I.mono (Same.refl G) (I.gh.trans s) s fun i a h => (I.fr i a h).2.1
/-- a new object, frozen at once -/
theorem same_upd {H : Hp} {p : Addr} {o : HO} (h : H p = none) : Same H (upd H p o) := fun b x e => by
  rw [upd_ne (ne_of_none e h)]; exact e
theorem same_upd2 {G H : Hp} {p : Addr} {o : HO} (s : Same G H) (h : H p = none) : Same (upd G p o) (upd H p o) := fun b x e => by
  by_cases hb : b = p
  · subst hb; rw [upd_same] at e ⊢; exact e
  · rw [upd_ne hb] at e ⊢; exact s b x e
theorem SInv.newF (I : SInv K H0 G H σ ρ T F) {p : Addr} {o : HO} (h : H p = none) : SInv K H0 (upd G p o) (upd H p o) σ ρ T F :=
  I.mono (same_upd (I.gh.free h)) (same_upd2 I.gh h) (same_upd h) fun i a ha => by
    rw [upd_ne (isSome_ne h (I.fr i a ha).2.2)]; exact (I.fr i a ha).2.1
theorem GS.newF {p : Addr} {o : HO} (h0 : H0 p = none) (hG : G p = none) : GS H0 G (upd G p o) :=
  ⟨same_upd hG, fun a h1 h2 => by rw [upd_ne (isSome_ne h0 h1)]; exact h2⟩
/-- what a slot holds -/
theorem SInv.at {i : Nat} {t : Ow} {d : D} (I : SInv K H0 G H σ ρ T F) (e1 : T[i]? = some t) (e2 : t ≠ .dead) (e3 : ρ[i]? = some (some d)) : ∃ v, σ[i]? = some (some v) ∧ R K G H t v d (F i) := I.sl i t d e1 e2 e3
/-- a slot takes a value -/
def setF (F : Nat → List Addr) (i : Nat) (Fv : List Addr) : Nat → List Addr := fun j => if j = i then Fv else F j
theorem SInv.set (I : SInv K H0 G H σ ρ T F) {i : Nat} {t : Ow} {v : V} {d : D} {Fv : List Addr} (hi : i < ρ.length) (r : R K G H t v d Fv) (o : Own H0 F Fv) :
    SInv K H0 G H (σ.set i (some v)) (ρ.set i (some d)) (T.set i t) (setF F i Fv) where
  gh := I.gh
  h0 := I.h0
  ls := by simp [I.ls]
  lt := by simp [I.lt]
  sl := fun j u e e1 e2 e3 => by
    by_cases hj : j = i
    · subst hj
      rw [List.getElem?_set_self (by rw [I.lt]; exact hi)] at e1
      rw [List.getElem?_set_self hi] at e3
      cases e1; cases e3
      refine ⟨v, by rw [List.getElem?_set_self (by rw [I.ls]; exact hi)], ?_⟩
      unfold setF; rw [if_pos rfl]; exact r
    · rw [List.getElem?_set_ne (Ne.symm hj)] at e1 e3
      obtain ⟨w, h1, h2⟩ := I.sl j u e e1 e2 e3
      refine ⟨w, by rw [List.getElem?_set_ne (Ne.symm hj)]; exact h1, ?_⟩
      unfold setF; rw [if_neg hj]; exact h2
  nd := fun j => by
    unfold setF; split
    · exact o.nd
    · exact I.nd j
  dj := fun j k a h1 h2 => by
    unfold setF at h1 h2
    split at h1 <;> split at h2
    · rename_i p q; rw [p, q]
    · exact absurd h2 (o.dj k a h1)
    · exact absurd h1 (o.dj j a h2)
    · exact I.dj j k a h1 h2
  fr := fun j a h => by
    unfold setF at h
    split at h
    · exact ⟨o.fr a h, r.gn a h⟩
    · exact I.fr j a h
/-- weaker types; more is frozen, or forgotten -/
theorem subs_get : ∀ {T T' : Ty1} {i : Nat} {t' : Ow}, subs T T' = true → T'[i]? = some t' → ∃ t, T[i]? = some t ∧ sub t t' = true
  | [], [], _, _, _, e => by simp at e
  | a :: r, b :: s, 0, t', h, e => by
    simp only [subs, Bool.and_eq_true] at h
    simp at e; subst e
    exact ⟨a, rfl, h.1⟩
  | a :: r, b :: s, i + 1, t', h, e => by
    simp only [subs, Bool.and_eq_true] at h
    obtain ⟨t, h1, h2⟩ := subs_get (i := i) h.2 (by simpa using e)
    exact ⟨t, by simpa using h1, h2⟩
  | [], _ :: _, _, _, h, _ => by simp [subs] at h
  | _ :: _, [], _, _, h, _ => by simp [subs] at h
theorem subs_len : ∀ {T T' : Ty1}, subs T T' = true → T.length = T'.length
  | [], [], _ => rfl
  | a :: r, b :: s, h => by
    simp only [subs, Bool.and_eq_true] at h
    simp [subs_len h.2]
  | [], _ :: _, h => by simp [subs] at h
  | _ :: _, [], h => by simp [subs] at h
/-- a value taken as another type: what is frozen by it, what stays held -/
theorem R.weak1 {t u : Ow} {v : V} {d : D} {Fv : List Addr} (s : Same G H) (h : sub1 t u = true) (r : R K G H t v d Fv) (nd : Fv.Nodup) :
    ∃ A F' : List Addr, (∀ a ∈ A, a ∈ Fv) ∧ (∀ a ∈ F', a ∈ Fv ∧ a ∉ A) ∧ F'.Nodup ∧ ∀ A0 : List Addr, (∀ a ∈ A, a ∈ A0) → (∀ a ∈ F', a ∉ A0) → R K (frzG G H A0) H u v d F' := by
  have one : Rf.sub0 t u = true → ∃ A F' : List Addr, (∀ a ∈ A, a ∈ Fv) ∧ (∀ a ∈ F', a ∈ Fv ∧ a ∉ A) ∧ F'.Nodup ∧ ∀ A0 : List Addr, (∀ a ∈ A, a ∈ A0) → (∀ a ∈ F', a ∉ A0) → R K (frzG G H A0) H u v d F' := fun hs =>
    ⟨[], Fv, by simp, fun a ha => ⟨ha, by simp⟩, nd, fun A0 _ h2 => (R.sub0 hs r).mono (frzG_same s A0) (fun a ha => frzG_none (h2 a ha) (r.gn a ha).1) fun _ _ => rfl⟩
  have all : u = .fz → ∃ A F' : List Addr, (∀ a ∈ A, a ∈ Fv) ∧ (∀ a ∈ F', a ∈ Fv ∧ a ∉ A) ∧ F'.Nodup ∧ ∀ A0 : List Addr, (∀ a ∈ A, a ∈ A0) → (∀ a ∈ F', a ∉ A0) → R K (frzG G H A0) H u v d F' := fun hu =>
    ⟨Fv, [], fun _ q => q, by simp, .nil, fun A0 h1 _ => by subst hu; exact ⟨rfl, r.frz s A0 h1⟩⟩
  unfold sub1 at h
  split at h
  · rename_i c
    rcases r with ⟨a, xs, ds, F', rfl, rfl, rfl, hg, hh, r⟩ | ⟨z, e, f, n⟩
    · refine ⟨F', [a], fun b hb => by simp [hb], fun b hb => ?_, by simp, fun A0 h1 h2 => ?_⟩
      · have e : b = a := by simpa using hb
        subst e
        exact ⟨by simp, (List.nodup_cons.mp nd).1⟩
      · refine .inl ⟨a, xs, ds, [], rfl, rfl, rfl, frzG_none (h2 a (by simp)) hg, hh, ?_⟩
        exact FzA.rl (r.frz s A0 (fun v d F1 h3 p => R.frz s A0 h3 p) h1)
    · exact ⟨[], [], by simp, by simp, .nil, fun A0 _ _ => .inr ⟨rfl, rfl, f.same (frzG_same s A0), n⟩⟩
  · rename_i c
    obtain ⟨a, xs, ds, F', rfl, rfl, rfl, hg, hh, r⟩ := r
    refine ⟨F', [a], fun b hb => by simp [hb], fun b hb => ?_, by simp, fun A0 h1 h2 => ?_⟩
    · have e : b = a := by simpa using hb
      subst e
      exact ⟨by simp, (List.nodup_cons.mp nd).1⟩
    · refine ⟨a, xs, ds, [], rfl, rfl, rfl, frzG_none (h2 a (by simp)) hg, hh, ?_⟩
      exact FzK.rk (r.frz s A0 (fun v d F1 h3 p => R.frz s A0 h3 p) h1)
  · simp only [Bool.or_eq_true, Bool.and_eq_true, beq_iff_eq] at h
    rcases h with h | h
    · exact one h
    · exact all h.1
theorem SInv.weak (I : SInv K H0 G H σ ρ T F) (h : subs T T' = true) : ∃ G' F', GS H0 G G' ∧ SInv K H0 G' H σ ρ T' F' ∧ (∀ i a, a ∈ F' i → a ∈ F i) ∧ ∀ a, (∀ i, a ∉ F i) → G' a = G a := by
  -- per slot: what is frozen, what stays
  have step : ∀ i, ∃ A F' : List Addr, (∀ a ∈ A, a ∈ F i) ∧ (∀ a ∈ F', a ∈ F i ∧ a ∉ A) ∧ F'.Nodup ∧ ∀ A0 : List Addr, (∀ a ∈ A, a ∈ A0) → (∀ a ∈ F', a ∉ A0) →
      ∀ t' d, T'[i]? = some t' → t' ≠ .dead → ρ[i]? = some (some d) → ∃ v, σ[i]? = some (some v) ∧ R K (frzG G H A0) H t' v d F' := fun i => by
    by_cases hx : ∃ t' d, T'[i]? = some t' ∧ t' ≠ .dead ∧ ρ[i]? = some (some d)
    · obtain ⟨t', d, e1, e2, e3⟩ := hx
      obtain ⟨t, ht, hs⟩ := subs_get h e1
      have hs1 : sub1 t t' = true := by
        simp only [sub, Bool.or_eq_true, beq_iff_eq] at hs
        rcases hs with hs | hs
        · exact hs
        · exact absurd hs e2
      have hd : t ≠ .dead := by
        rintro rfl
        cases t' <;> simp [sub1, sub0, isVal] at hs1
      obtain ⟨v, hv, r⟩ := I.sl i t d ht hd e3
      obtain ⟨A, F', h1, h2, h3, h4⟩ := r.weak1 I.gh hs1 (I.nd i)
      refine ⟨A, F', h1, h2, h3, fun A0 q1 q2 u d' u1 _ u3 => ?_⟩
      rw [e1] at u1; cases u1
      rw [e3] at u3; cases u3
      exact ⟨v, hv, h4 A0 q1 q2⟩
    · exact ⟨[], [], by simp, by simp, .nil, fun _ _ _ t' d e1 e2 e3 => absurd ⟨t', d, e1, e2, e3⟩ hx⟩
  let Af : Nat → List Addr := fun i => (step i).choose
  let F' : Nat → List Addr := fun i => (step i).choose_spec.choose
  have sp : ∀ i, (∀ a ∈ Af i, a ∈ F i) ∧ (∀ a ∈ F' i, a ∈ F i ∧ a ∉ Af i) ∧ (F' i).Nodup ∧ ∀ A0 : List Addr, (∀ a ∈ Af i, a ∈ A0) → (∀ a ∈ F' i, a ∉ A0) →
      ∀ t' d, T'[i]? = some t' → t' ≠ .dead → ρ[i]? = some (some d) → ∃ v, σ[i]? = some (some v) ∧ R K (frzG G H A0) H t' v d (F' i) := fun i => (step i).choose_spec.choose_spec
  let A : List Addr := (List.range T.length).flatMap Af
  have hA : ∀ a ∈ A, ∃ i, a ∈ Af i := fun a ha => by
    obtain ⟨i, _, hi⟩ := List.mem_flatMap.mp ha
    exact ⟨i, hi⟩
  have hF : ∀ i a, a ∈ F' i → a ∈ F i ∧ a ∉ A := fun i a ha => by
    obtain ⟨h1, h2⟩ := (sp i).2.1 a ha
    refine ⟨h1, fun q => ?_⟩
    obtain ⟨j, hj⟩ := hA a q
    have e : i = j := I.dj i j a h1 ((sp j).1 a hj)
    subst e
    exact h2 hj
  refine ⟨frzG G H A, F', ⟨frzG_same I.gh A, fun a h1 h2 => frzG_none (fun q => ?_) h2⟩, ⟨frzG_le I.gh A, I.h0, I.ls, by rw [← subs_len h]; exact I.lt, fun i t' d e1 e2 e3 => ?_, fun i => (sp i).2.2.1, fun i j a h1 h2 => ?_, fun i a ha => ?_⟩, fun i a ha => (hF i a ha).1, fun a ha => ?_⟩
  · obtain ⟨i, hi⟩ := hA a q
    rw [(I.fr i a ((sp i).1 a hi)).1] at h1; cases h1
  · have hi : i < T.length := by rw [subs_len h]; exact (List.getElem?_eq_some_iff.mp e1).1
    exact (sp i).2.2.2 A (fun a ha => List.mem_flatMap.mpr ⟨i, List.mem_range.mpr hi, ha⟩) (fun a ha => (hF i a ha).2) t' d e1 e2 e3
  · exact I.dj i j a (hF i a h1).1 (hF j a h2).1
  · obtain ⟨h1, h2⟩ := hF i a ha
    exact ⟨(I.fr i a h1).1, frzG_none h2 (I.fr i a h1).2.1, (I.fr i a h1).2.2⟩
  · unfold frzG
    rw [if_neg]
    intro q
    obtain ⟨i, hi⟩ := hA a q
    exact ha i ((sp i).1 a hi)
/-- one slot taken as another type -/
theorem SInv.weakAt (I : SInv K H0 G H σ ρ T F) {i : Nat} {t u : Ow} (e : T[i]? = some t) (hs : sub1 t u = true) :
    ∃ G' F', GS H0 G G' ∧ SInv K H0 G' H σ ρ (T.set i u) F' ∧ (∀ j a, a ∈ F' j → a ∈ F j) ∧ (∀ a, a ∉ F i → G' a = G a) ∧ ((u = .fz ∧ ∃ d, ρ[i]? = some (some d)) → ∀ a ∈ F i, G' a = H a) := by
  have hd : t ≠ .dead := by
    rintro rfl
    cases u <;> simp [sub1, sub0, isVal] at hs
  have hi : i < T.length := (List.getElem?_eq_some_iff.mp e).1
  have ne : ∀ j a, j ≠ i → a ∈ F j → a ∉ F i := fun j a hj h1 h2 => hj (I.dj j i a h1 h2)
  by_cases hx : ∃ d, ρ[i]? = some (some d)
  · obtain ⟨d, hd2⟩ := hx
    obtain ⟨v, hv, r⟩ := I.sl i t d e hd hd2
    have cov : ∃ A F', (∀ a ∈ A, a ∈ F i) ∧ (∀ a ∈ F', a ∈ F i ∧ a ∉ A) ∧ F'.Nodup ∧ R K (frzG G H A) H u v d F' ∧ (u = .fz → ∀ a ∈ F i, a ∈ A) := by
      by_cases hu : u = .fz
      · subst hu
        exact ⟨F i, [], fun _ q => q, by simp, .nil, ⟨rfl, r.frz I.gh _ fun _ q => q⟩, fun _ _ q => q⟩
      · obtain ⟨A, F', h1, h2, h3, h4⟩ := r.weak1 I.gh hs (I.nd i)
        exact ⟨A, F', h1, h2, h3, h4 A (fun _ q => q) fun a ha => (h2 a ha).2, fun q => absurd q hu⟩
    obtain ⟨A, F', h1, h2, h3, h4, h5⟩ := cov
    refine ⟨frzG G H A, setF F i F', ⟨frzG_same I.gh A, fun a q1 q2 => frzG_none (fun q => ?_) q2⟩, ⟨frzG_le I.gh A, I.h0, I.ls, by simp [I.lt], fun j t' d' u1 u2 u3 => ?_, fun j => ?_, fun j k a q1 q2 => ?_, fun j a q => ?_⟩, fun j a ha => ?_, fun a ha => ?_, fun hz a ha => ?_⟩
    · rw [(I.fr i a (h1 a q)).1] at q1; cases q1
    · by_cases hj : j = i
      · subst hj
        rw [List.getElem?_set_self hi] at u1
        cases u1
        rw [hd2] at u3; cases u3
        refine ⟨v, hv, ?_⟩
        unfold setF; rw [if_pos rfl]; exact h4
      · rw [List.getElem?_set_ne (Ne.symm hj)] at u1
        obtain ⟨w, w1, w2⟩ := I.sl j t' d' u1 u2 u3
        refine ⟨w, w1, ?_⟩
        unfold setF; rw [if_neg hj]
        exact w2.mono (frzG_same I.gh _) (fun a ha => frzG_none (fun q => ne j a hj ha (h1 a q)) (I.fr j a ha).2.1) fun _ _ => rfl
    · unfold setF; split
      · exact h3
      · exact I.nd j
    · unfold setF at q1 q2
      split at q1 <;> split at q2
      · rename_i z1 z2; rw [z1, z2]
      · rename_i z1 z2; exact absurd (h2 a q1).1 (ne k a z2 q2)
      · rename_i z1 z2; exact absurd (h2 a q2).1 (ne j a z1 q1)
      · exact I.dj j k a q1 q2
    · unfold setF at q
      split at q
      · have q' := (h2 a q).1
        exact ⟨(I.fr i a q').1, frzG_none (h2 a q).2 (I.fr i a q').2.1, (I.fr i a q').2.2⟩
      · rename_i z
        exact ⟨(I.fr j a q).1, frzG_none (fun y => ne j a z q (h1 a y)) (I.fr j a q).2.1, (I.fr j a q).2.2⟩
    · unfold setF at ha
      split at ha
      · rename_i z; rw [z]; exact (h2 a ha).1
      · exact ha
    · unfold frzG; rw [if_neg fun q => ha (h1 a q)]
    · unfold frzG; rw [if_pos (h5 hz.1 a ha)]
  · refine ⟨G, F, .refl _ _, ⟨I.gh, I.h0, I.ls, by simp [I.lt], fun j t' d' u1 u2 u3 => ?_, I.nd, I.dj, I.fr⟩, fun _ _ q => q, fun _ _ => rfl, fun hz => absurd hz.2 hx⟩
    by_cases hj : j = i
    · subst hj; exact absurd ⟨d', u3⟩ hx
    · rw [List.getElem?_set_ne (Ne.symm hj)] at u1
      exact I.sl j t' d' u1 u2 u3
/-- what is held for good is frozen -/
theorem SInv.frz (I : SInv K H0 G H σ ρ T F) {t : Ow} {v : V} {d : D} {Fv : List Addr} (r : R K G H t v d Fv) (o : Own H0 F Fv) : ∃ G', GS H0 G G' ∧ SInv K H0 G' H σ ρ T F ∧ Fz K G' v d := by
  refine ⟨frzG G H Fv, ⟨frzG_same I.gh Fv, fun a h1 h2 => frzG_none (fun q => ?_) h2⟩, I.mono (frzG_same I.gh Fv) (frzG_le I.gh Fv) (Same.refl H) (fun i a ha => frzG_none (fun q => o.dj i a q ha) (I.fr i a ha).2.1), r.frz I.gh Fv fun _ q => q⟩
  rw [o.fr a q] at h1; cases h1
/-- the heap ahead, for what is held besides the slots -/
noncomputable def rebase (H : Hp) (F : Nat → List Addr) : Hp := open Classical in fun a => if ∃ i, a ∈ F i then none else H a
theorem rebase_out {H : Hp} {F : Nat → List Addr} {a : Addr} (h : ∀ i, a ∉ F i) : rebase H F a = H a := by
  unfold rebase; rw [if_neg]; rintro ⟨i, q⟩; exact h i q
theorem rebase_in {H : Hp} {F : Nat → List Addr} {a : Addr} {i : Nat} (h : a ∈ F i) : rebase H F a = none := by
  unfold rebase; rw [if_pos ⟨i, h⟩]
theorem rebase_le (H : Hp) (F : Nat → List Addr) : Same (rebase H F) H := fun a o e => by
  unfold rebase at e
  split at e
  · cases e
  · exact e
theorem rebase_none {H : Hp} {F : Nat → List Addr} {a : Addr} (h : rebase H F a = none) : (∃ i, a ∈ F i) ∨ H a = none := by
  unfold rebase at h
  split at h
  · rename_i q; exact .inl q
  · exact .inr h
theorem SInv.rebase (I : SInv K H0 G H σ ρ T F) : SInv K (Rf.rebase H F) G H σ ρ T F :=
  ⟨I.gh, rebase_le H F, I.ls, I.lt, I.sl, I.nd, I.dj, fun i a h => ⟨rebase_in h, (I.fr i a h).2⟩⟩
theorem SInv.under (I : SInv K H0 G H σ ρ T F) : Same H0 (Rf.rebase H F) := fun a o e => by
  rw [rebase_out fun i q => by rw [(I.fr i a q).1] at e; cases e]
  exact I.h0 a o e
theorem SInv.back {G2 H2 : Hp} {σ2 : St} {ρ2 : Env} {T2 : Ty1} {F2 : Nat → List Addr} (I : SInv K H0 G H σ ρ T F) (J : SInv K (Rf.rebase H F) G2 H2 σ2 ρ2 T2 F2) : SInv K H0 G2 H2 σ2 ρ2 T2 F2 :=
  ⟨J.gh, I.under.trans J.h0, J.ls, J.lt, J.sl, J.nd, J.dj, fun i a h => ⟨I.under.free (J.fr i a h).1, (J.fr i a h).2⟩⟩
theorem SInv.gs (I : SInv K H0 G H σ ρ T F) {G2 : Hp} (g : GS (Rf.rebase H F) G G2) : GS H0 G G2 :=
  ⟨g.same, fun a h1 h2 => g.no a (by rw [sameSome I.under h1]; exact h1) h2⟩
theorem SInv.own {Fv : List Addr} {F2 : Nat → List Addr} (I : SInv K H0 G H σ ρ T F) (o : Own (Rf.rebase H F) F2 Fv) : Own H0 F2 Fv :=
  ⟨o.nd, fun a h => I.under.free (o.fr a h), o.dj⟩
/-- what is held besides the slots stays over what the slots do -/
theorem SInv.hold {G2 H2 : Hp} {σ2 : St} {ρ2 : Env} {T2 : Ty1} {F2 : Nat → List Addr} {t : Ow} {v : V} {d : D} {Fv : List Addr} (o : Own H0 F Fv) (r : R K G H t v d Fv)
    (J : SInv K (Rf.rebase H F) G2 H2 σ2 ρ2 T2 F2) (g : GS (Rf.rebase H F) G G2) : R K G2 H2 t v d Fv ∧ Own H0 F2 Fv := by
  have hr : ∀ a ∈ Fv, Rf.rebase H F a = H a := fun a ha => rebase_out fun i q => o.dj i a ha q
  have hs : ∀ a ∈ Fv, (Rf.rebase H F a).isSome = true := fun a ha => by rw [hr a ha]; exact (r.gn a ha).2
  refine ⟨r.mono g.same (fun a ha => g.no a (hs a ha) (r.gn a ha).1) fun a ha => (sameSome J.h0 (hs a ha)).trans (hr a ha), o.nd, o.fr, fun i a ha q => ?_⟩
  have := hs a ha
  rw [(J.fr i a q).1] at this; cases this
theorem SInv.holdT {G2 H2 : Hp} {σ2 : St} {ρ2 : Env} {T2 : Ty1} {F2 : Nat → List Addr} {t : Ow} {v : List V} {d : List D} {Fv : List Addr} (o : Own H0 F Fv) (r : RT K G H t v d Fv)
    (J : SInv K (Rf.rebase H F) G2 H2 σ2 ρ2 T2 F2) (g : GS (Rf.rebase H F) G G2) : RT K G2 H2 t v d Fv ∧ Own H0 F2 Fv := by
  have hr : ∀ a ∈ Fv, Rf.rebase H F a = H a := fun a ha => rebase_out fun i q => o.dj i a ha q
  have hs : ∀ a ∈ Fv, (Rf.rebase H F a).isSome = true := fun a ha => by rw [hr a ha]; exact (r.gn a ha).2
  refine ⟨r.mono g.same (fun a ha => g.no a (hs a ha) (r.gn a ha).1) fun a ha => (sameSome J.h0 (hs a ha)).trans (hr a ha), o.nd, o.fr, fun i a ha q => ?_⟩
  have := hs a ha
  rw [(J.fr i a q).1] at this; cases this
end
end Rf
end

section
/-! Rf2c: what a reading of the layer asks, told by plain data; expressions. -/
namespace Rf
open PySem PySem.Spec PyProof.Rows L2

abbrev Wx := Nat → List D → Hp → Prop
def Pst {α : Type} (W : Wx) (H0 : Hp) (r : Res α) (k : α → Prop) : Prop := match r with
  | .ok a => k a
  | .exn c as => W c as H0
  | .stk => False
structure WOk (W : Wx) : Prop where
  mono : ∀ {c as H H'}, Same H H' → W c as H → W c as H'
theorem Pst.bind {α β : Type} {W : Wx} {H0 : Hp} {r : Res α} {f : α → Res β} {k : β → Prop} (h : Pst W H0 (r >>= f) k) : Pst W H0 r fun a => Pst W H0 (f a) k := by
  cases r <;> exact h
theorem Pst.imp {α : Type} {W : Wx} {H0 H1 : Hp} {r : Res α} {k k' : α → Prop} (w : WOk W) (s : Same H0 H1) (h : Pst W H0 r k) (i : ∀ a, r = .ok a → k a → k' a) : Pst W H1 r k' := by
  cases r with
  | ok a => exact i a rfl h
  | exn c as => exact w.mono s h
  | stk => exact h
theorem Pst.map {α : Type} {W : Wx} {H0 : Hp} {r : Res α} {k k' : α → Prop} (h : Pst W H0 r k) (i : ∀ a, r = .ok a → k a → k' a) : Pst W H0 r k' := by
  cases r with
  | ok a => exact i a rfl h
  | exn c as => exact h
  | stk => exact h

section
variable (K : PySem.W.Frag) (Φ : Calls) (W : Wx)
/-- a value for good -/
def tEv (e : E) (T T' : Ty1) (t : Ow) : TE := fun σ H Q => ∃ H0 G ρ F, SInv K H0 G H σ ρ T F ∧ Pst W H0 (ev Φ e ρ) fun q =>
  ∀ v G' H' F' Fv, GS H0 G G' → (pur e = true → Same H H') → SInv K H0 G' H' σ q.2 T' F' → R K G' H' t v q.1 Fv → Own H0 F' Fv → Q v H'
/-- a value that is looked at -/
def tEvB (e : E) (T T' : Ty1) (t : Ow) : TE := fun σ H Q => ∃ H0 G ρ F, SInv K H0 G H σ ρ T F ∧ Pst W H0 (ev Φ e ρ) fun q =>
  ∀ v G' H' F' Fv, GS H0 G G' → (pur e = true → Same H H') → SInv K H0 G' H' σ q.2 T' F' → R K G' H' t v q.1 Fv → (rootE e = none → Own H0 F' Fv) → (∀ i, rootE e = some i → ∀ a ∈ Fv, a ∈ F' i) → Q v H'
end
/-- its items are frozen -/
def RFl (K : PySem.W.Frag) (G H : Hp) (v : V) (d : D) : Prop :=
  Fz K G v d ∨ (∃ a xs ds, v = .ref a ∧ d = .list ds ∧ H a = some (.lst xs) ∧ FzA K G xs ds) ∨ ∃ a ks ds, v = .ref a ∧ d = .dict ds ∧ H a = some (.dK ks) ∧ FzK K G ks ds
section
variable (K : PySem.W.Frag) (Φ : Calls) (W : Wx)
def tEvC (e : E) (T T' : Ty1) : TE := fun σ H Q => ∃ H0 G ρ F, SInv K H0 G H σ ρ T F ∧ Pst W H0 (ev Φ e ρ) fun q =>
  ∀ v G' H' F', GS H0 G G' → (pur e = true → Same H H') → SInv K H0 G' H' σ q.2 T' F' → RFl K G' H' v q.1 → Q v H'
/-- arguments, for good -/
def tEvL (e : E) (T T' : Ty1) (t : Ow) : TA := fun σ H Q => ∃ H0 G ρ F, SInv K H0 G H σ ρ T F ∧ Pst W H0 (ev Φ e ρ) fun q =>
  ∀ ds, q.1 = .tuple ds → ∀ vs G' H' F' Fv, GS H0 G G' → (pur e = true → Same H H') → SInv K H0 G' H' σ q.2 T' F' → RT K G' H' t vs ds Fv → Own H0 F' Fv → Q vs H'
/-- arguments, frozen -/
def tEvF (e : E) (T T' : Ty1) : TA := fun σ H Q => ∃ H0 G ρ F, SInv K H0 G H σ ρ T F ∧ Pst W H0 (ev Φ e ρ) fun q =>
  ∀ ds, q.1 = .tuple ds → ∀ vs G' H' F', GS H0 G G' → (pur e = true → Same H H') → SInv K H0 G' H' σ q.2 T' F' → FzA K G' vs ds → Q vs H'
/-- a test -/
def tTst (e : E) (T T' : Ty1) : TT := fun σ H Q => ∃ H0 G ρ F, SInv K H0 G H σ ρ T F ∧ Pst W H0 (ev Φ e ρ) fun q =>
  ∀ G' H' F', GS H0 G G' → (pur e = true → Same H H') → SInv K H0 G' H' σ q.2 T' F' → Q (truth q.1) H'
end

theorem _root_.L2.PE.wk {X : Cx} {e : Expr} {t t' : TE} (h : PE X e t) (i : ∀ σ H Q, t' σ H Q → t σ H Q) : PE X e t' := ⟨fun pins s σ H Q I q => h.run pins s σ H Q I (i σ H Q q)⟩
theorem _root_.L2.PE.orr {X : Cx} {e : Expr} {t t' : TE} (h : PE X e t) (h' : PE X e t') : PE X e (fun σ H Q => t σ H Q ∨ t' σ H Q) :=
  ⟨fun pins s σ H Q I q => q.elim (h.run pins s σ H Q I) (h'.run pins s σ H Q I)⟩
theorem _root_.L2.PA.wk {X : Cx} {e : List Expr} {t t' : TA} (h : PA X e t) (i : ∀ σ H Q, t' σ H Q → t σ H Q) : PA X e t' := ⟨fun pos pins s σ H Q I q => h.run pos pins s σ H Q I (i σ H Q q)⟩
theorem _root_.L2.PT.wk {X : Cx} {e : Expr} {t t' : TT} (h : PT X e t) (i : ∀ σ H Q, t' σ H Q → t σ H Q) : PT X e t' := ⟨fun pins s σ H Q I q => h.run pins s σ H Q I (i σ H Q q)⟩
theorem _root_.L2.PW.wk {X : Cx} {e : Expr} {t t' : TT} (h : PW X e t) (i : ∀ σ H Q, t' σ H Q → t σ H Q) : PW X e t' := ⟨fun wh pins s σ H Q I q => h.run wh pins s σ H Q I (i σ H Q q)⟩
theorem _root_.L2.PS.wk {X : Cx} {e : Stmt} {t t' : TS} (h : PS X e t) (i : ∀ D σ H, t' D σ H → t D σ H) : PS X e t' := ⟨fun pins s σ H D I q => h.run pins s σ H D I (i D σ H q)⟩
theorem _root_.L2.PSs.wk {X : Cx} {e : List Stmt} {t t' : TS} (h : PSs X e t) (i : ∀ D σ H, t' D σ H → t D σ H) : PSs X e t' := ⟨fun pins s σ H D I q => h.run pins s σ H D I (i D σ H q)⟩
theorem _root_.L2.PI.wk {X : Cx} {tg e : Expr} {t t' : TI} (h : PI X tg e t) (i : ∀ σ H R, t' σ H R → t σ H R) : PI X tg e t' := ⟨fun pins s σ H R I q => h.run pins s σ H R I (i σ H R q)⟩
theorem _root_.L2.PI.orr {X : Cx} {tg e : Expr} {t t' : TI} (h : PI X tg e t) (h' : PI X tg e t') : PI X tg e (fun σ H R => t σ H R ∨ t' σ H R) :=
  ⟨fun pins s σ H R I q => q.elim (h.run pins s σ H R I) (h'.run pins s σ H R I)⟩

section
variable {K : PySem.W.Frag} {Φ : Calls} {W : Wx} {H0 G G' H H' : Hp} {σ : L2.St} {ρ : Env} {T T' : Ty1} {F : Nat → List Addr}
theorem RFl.same {v : V} {d : D} (h : RFl K G H v d) (g : Same G G') (s : Same H H') : RFl K G' H' v d := by
  rcases h with h | ⟨a, xs, ds, e1, e2, e3, e4⟩ | ⟨a, xs, ds, e1, e2, e3, e4⟩
  · exact .inl (h.same g)
  · exact .inr (.inl ⟨a, xs, ds, e1, e2, s _ _ e3, e4.same g⟩)
  · exact .inr (.inr ⟨a, xs, ds, e1, e2, s _ _ e3, e4.same g⟩)
theorem RFl.all {v : V} {d : D} (h : RFl K G H v d) (s : Same G H) : Fz K H v d := by
  rcases h with h | ⟨a, xs, ds, e1, e2, e3, e4⟩ | ⟨a, xs, ds, e1, e2, e3, e4⟩
  · exact h.same s
  · subst e1; subst e2; exact .lst e3 (e4.same s)
  · subst e1; subst e2; exact .dct e3 (e4.same s)
theorem RFl.list {v : V} {ds : List D} (h : RFl K G H v (.list ds)) (s : Same G H) : ∃ a xs, v = .ref a ∧ H a = some (.lst xs) ∧ FzA K G xs ds := by
  rcases h with h | ⟨a, xs, ds, e1, e2, e3, e4⟩ | ⟨a, xs, ds, e1, e2, e3, e4⟩
  · cases h with | lst a b => exact ⟨_, _, rfl, s _ _ a, b⟩
  · cases e2; exact ⟨a, xs, e1, e3, e4⟩
  · cases e2
theorem RFl.dict {v : V} {ds : List (D × D)} (h : RFl K G H v (.dict ds)) (s : Same G H) : ∃ a xs, v = .ref a ∧ H a = some (.dK xs) ∧ FzK K G xs ds := by
  rcases h with h | ⟨a, xs, ds, e1, e2, e3, e4⟩ | ⟨a, xs, ds, e1, e2, e3, e4⟩
  · cases h with | dct a b => exact ⟨_, _, rfl, s _ _ a, b⟩
  · cases e2
  · cases e2; exact ⟨a, xs, e1, e3, e4⟩
theorem RFl.fz {v : V} {d : D} (h : RFl K G H v d) (h1 : ∀ ds, d ≠ .list ds) (h2 : ∀ ds, d ≠ .dict ds) : Fz K G v d := by
  rcases h with h | ⟨a, xs, ds, e1, e2, e3, e4⟩ | ⟨a, xs, ds, e1, e2, e3, e4⟩
  · exact h
  · exact absurd e2 (h1 ds)
  · exact absurd e2 (h2 ds)
theorem RFl.int {v : V} {i : Int} (h : RFl K G H v (.int i)) : v = .int i := by
  have q := h.fz (by simp) (by simp); cases q; rfl
theorem RFl.bool {v : V} {i : Bool} (h : RFl K G H v (.bool i)) : v = .bl i := by
  have q := h.fz (by simp) (by simp); cases q; rfl
theorem RFl.str {v : V} {i : Str} (h : RFl K G H v (.str i)) : v = .str i := by
  have q := h.fz (by simp) (by simp); cases q; rfl
theorem RFl.none {v : V} (h : RFl K G H v .none) : v = .non := by
  have q := h.fz (by simp) (by simp); cases q; rfl
theorem RFl.tuple {v : V} {ds : List D} (h : RFl K G H v (.tuple ds)) : ∃ a xs, v = .ref a ∧ SqT K G a xs ∧ FzA K G xs ds := by
  have q := h.fz (by simp) (by simp); cases q with | tup a b => exact ⟨_, _, rfl, a, b⟩
theorem R.flat {t : Ow} {v : V} {d : D} {Fv : List Addr} (h : flatT t = true) (r : R K G H t v d Fv) : RFl K G H v d := by
  cases t with
  | fz => exact .inl r.2
  | bot => exact r.elim
  | lst c =>
    rcases r with ⟨a, xs, ds, F', rfl, rfl, rfl, hg, hh, r⟩ | ⟨z, e, f, n⟩
    · refine .inr (.inl ⟨a, xs, ds, rfl, rfl, hh, ?_⟩)
      cases c with
      | fz => exact (RL.fz r).2
      | bot => exact (RL.fz (H := H) (r.mono fun _ _ _ _ p => p.elim)).2
      | _ => simp [flatT] at h
    · exact .inl f
  | dct c =>
    obtain ⟨a, xs, ds, F', rfl, rfl, rfl, hg, hh, r⟩ := r
    refine .inr (.inr ⟨a, xs, ds, rfl, rfl, hh, ?_⟩)
    cases c with
    | fz => exact (RK.fz r).2
    | bot => exact (RK.fz (H := H) (r.mono fun _ _ _ _ p => p.elim)).2
    | _ => simp [flatT] at h
  | _ => simp [flatT] at h
theorem R.ofFz {v : V} {d : D} (h : Fz K G v d) : R K G H .fz v d [] := ⟨rfl, h⟩
/-- the types fz and lst fz: a new list, or a scalar -/
inductive OkT : Ow → Prop
  | fz : OkT .fz
  | lst : OkT (.lst .fz)
theorem binT_ok (o : BOp) (t u : Ow) : OkT (binT o t u) := by
  unfold binT; split <;> first | exact .lst | exact .fz
/-- a new list of frozen items, as either type -/
theorem SInv.newL (I : SInv K H0 G H σ ρ T F) {xs : List V} {ds : List D} (h : FzA K G xs ds) {p : Addr} (hp : H p = none) {t : Ow} (ht : OkT t) :
    ∃ G' Fv, GS H0 G G' ∧ SInv K H0 G' (upd H p (.lst xs)) σ ρ T F ∧ R K G' (upd H p (.lst xs)) t (.ref p) (.list ds) Fv ∧ Own H0 F Fv := by
  cases ht with
  | fz => exact ⟨upd G p (.lst xs), [], .newF (I.h0.free hp) (I.gh.free hp), I.newF hp, ⟨rfl, .lst upd_same (h.same (same_upd (I.gh.free hp)))⟩, .nil _ _⟩
  | lst =>
    refine ⟨G, [p], .refl _ _, I.grow (same_upd hp), .inl ⟨p, xs, ds, [], rfl, rfl, rfl, I.gh.free hp, upd_same, h.rl⟩, by simp, ?_, ?_⟩
    · intro a ha
      have e : a = p := by simpa using ha
      rw [e]; exact I.h0.free hp
    · intro i a ha q
      have e : a = p := by simpa using ha
      rw [e] at q
      have := (I.fr i p q).2.2
      rw [hp] at this; cases this
/-- a new tuple of frozen items -/
theorem SInv.newT (I : SInv K H0 G H σ ρ T F) {xs : List V} {ds : List D} (h : FzA K G xs ds) {p : Addr} (hp : H p = none) :
    GS H0 G (upd G p (.tup xs)) ∧ SInv K H0 (upd G p (.tup xs)) (upd H p (.tup xs)) σ ρ T F ∧ Fz K (upd G p (.tup xs)) (.ref p) (.tuple ds) :=
  ⟨.newF (I.h0.free hp) (I.gh.free hp), I.newF hp, .tup (.inl (.inl upd_same)) (h.same (same_upd (I.gh.free hp)))⟩
/-- a frozen thing that is no list is of either type -/
theorem OkT.of {t : Ow} (h : OkT t) {v : V} {d : D} (f : Fz K G v d) (n : notL d = true) : R K G H t v d [] := by
  cases h with
  | fz => exact ⟨rfl, f⟩
  | lst => exact .inr ⟨rfl, rfl, f, n⟩
end

/-! ### two operands -/
section
variable {K : PySem.W.Frag} {Φ : Calls} {W : Wx} {X : Cx} {a b : Expr} {ea eb : E} {T T1 T2 : Ty1} {pos : Pos} {t u : Ow}
/-- the second of two operands changes nothing: both are there behind it -/
theorem two {σ : L2.St} {H : Hp} {Q : V → V → Hp → Prop} (w : WOk W) (hp : pur eb = true)
    (h : ∃ H0 G ρ F, SInv K H0 G H σ ρ T F ∧ Pst W H0 (ev Φ ea ρ) fun p => Pst W H0 (ev Φ eb p.2) fun q => ∀ v u G2 H2 F2, GS H0 G G2 → (pur ea = true → Same H H2) → SInv K H0 G2 H2 σ q.2 T2 F2 → RFl K G2 H2 v p.1 → RFl K G2 H2 u q.1 → Q v u H2) :
    tEvC K Φ W ea T T1 σ H fun x H1 => tEvC K Φ W eb T1 T2 σ H1 fun y H2 => Q x y H2 := by
  obtain ⟨H0, G, ρ, F, I, h⟩ := h
  refine ⟨H0, G, ρ, F, I, h.imp w (Same.refl H0) fun p _ h1 v G1 H1 F1 g1 s1 I1 r1 => ⟨H0, G1, p.2, F1, I1, h1.imp w (Same.refl H0) fun q _ h2 u G2 H2 F2 g2 s2 I2 r2 => ?_⟩⟩
  exact h2 v u G2 H2 F2 (g1.trans g2) (fun z => (s1 z).trans (s2 hp)) I2 (r1.same g2.same (s2 hp)) r2
end
end Rf
end

section
/-! Rf2d: one rule a construct: names, constants, displays, operators, comparisons, tests. -/
namespace Rf
open PySem PySem.Spec PyProof.Rows L2
section
variable {K : PySem.W.Frag} {Φ : Calls} {W : Wx} {X : Cx} {T T' T1 T2 T3 : Ty1} {pos : Pos} {t u : Ow}

theorem Pst.ok {α : Type} {W : Wx} {H0 : Hp} {a : α} {k : α → Prop} (h : k a) : Pst W H0 (.ok a) k := h
theorem getS_eq {ρ : Env} {i : Nat} {d : D} (h : ρ[i]? = some (some d)) : getS ρ i = .ok d := by unfold getS; rw [h]
theorem getS_inv {ρ : Env} {i : Nat} {W : Wx} {H0 : Hp} {k : D → Prop} (h : Pst W H0 (getS ρ i) k) : ∃ d, ρ[i]? = some (some d) ∧ k d := by
  unfold getS at h
  split at h
  · rename_i d e; exact ⟨d, e, h⟩
  · exact h.elim

/-! names -/
theorem var_ev {ρ : Env} {i : Nat} {W : Wx} {H0 : Hp} {k : D × Env → Prop} (h : Pst W H0 (ev Φ (.var i) ρ) k) : ∃ d, ρ[i]? = some (some d) ∧ k (d, ρ) := by
  simp only [ev] at h
  obtain ⟨d, e, h⟩ := getS_inv h.bind
  exact ⟨d, e, h⟩
/-- a slot's value looked at -/
theorem s_varB {x : Str} {i : Nat} (h : PE X (.Name x pos) (tVar i)) (e : T[i]? = some t) (hd : t ≠ .dead) : PE X (.Name x pos) (tEvB K Φ W (.var i) T T t) := by
  refine h.wk fun σ H Q ⟨H0, G, ρ, F, I, q⟩ => ?_
  obtain ⟨d, e2, q⟩ := var_ev q
  obtain ⟨v, e3, r⟩ := I.sl i t d e hd e2
  exact ⟨v, e3, q v G H F (F i) (.refl _ _) (fun _ => Same.refl H) I r (fun z => by cases z) fun j z a ha => by cases z; exact ha⟩
theorem s_varF {x : Str} {i : Nat} (h : PE X (.Name x pos) (tVar i)) (e : T[i]? = some .fz) : PE X (.Name x pos) (tEv K Φ W (.var i) T T .fz) := by
  refine h.wk fun σ H Q ⟨H0, G, ρ, F, I, q⟩ => ?_
  obtain ⟨d, e2, q⟩ := var_ev q
  obtain ⟨v, e3, r⟩ := I.sl i .fz d e (by simp) e2
  exact ⟨v, e3, q v G H F [] (.refl _ _) (fun _ => Same.refl H) I (by rw [r.1] at r; exact r) (.nil _ _)⟩
theorem s_var0 {x : Str} {i : Nat} (h : PE X (.Name x pos) (tVar i)) (e : T[i]? = some .bot) : PE X (.Name x pos) (tEv K Φ W (.var i) T T .fz) := by
  refine h.wk fun σ H Q ⟨H0, G, ρ, F, I, q⟩ => ?_
  obtain ⟨d, e2, q⟩ := var_ev q
  obtain ⟨v, e3, r⟩ := I.sl i .bot d e (by simp) e2
  exact r.elim
theorem subs_refl : ∀ T : Ty1, (∀ t ∈ T, sub t t = true) → subs T T = true
  | [], _ => rfl
  | a :: r, h => by simp [subs, h a (by simp), subs_refl r fun t ht => h t (by simp [ht])]
theorem sub0_refl : ∀ t : Ow, t ≠ .dead → (∀ c, t ≠ .lst c) → (∀ c, t ≠ .dct c) → (∀ c, t ≠ .tup c) → (∀ a r, t ≠ .tc a r) → sub0 t t = true
  | .bot, _, _, _, _, _ => rfl
  | .fz, _, _, _, _, _ => rfl
  | .tn, _, _, _, _, _ => rfl
  | .dead, h, _, _, _, _ => absurd rfl h
  | .lst c, _, h, _, _, _ => absurd rfl (h c)
  | .dct c, _, _, h, _, _ => absurd rfl (h c)
  | .tup c, _, _, _, h, _ => absurd rfl (h c)
  | .tc a r, _, _, _, _, h => absurd rfl (h a r)
/-- one slot frozen -/
theorem SInv.frzAt {H0 G H : Hp} {σ : L2.St} {ρ : Env} {F : Nat → List Addr} (I : SInv K H0 G H σ ρ T F) {i : Nat} {t : Ow} {d : D} {v : V} (e : T[i]? = some t) (hd : t ≠ .dead) (e2 : ρ[i]? = some (some d)) (e3 : σ[i]? = some (some v)) (r : R K G H t v d (F i)) :
    ∃ G', GS H0 G G' ∧ SInv K H0 G' H σ ρ (T.set i .fz) (setF F i []) ∧ Fz K G' v d := by
  have f : Fz K (frzG G H (F i)) v d := r.frz I.gh (F i) fun _ q => q
  have ne : ∀ j a, j ≠ i → a ∈ F j → a ∉ F i := fun j a hj h1 h2 => hj (I.dj j i a h1 h2)
  have hi : i < T.length := (List.getElem?_eq_some_iff.mp e).1
  refine ⟨frzG G H (F i), ⟨frzG_same I.gh _, fun a h1 h2 => frzG_none (fun q => ?_) h2⟩, ⟨frzG_le I.gh _, I.h0, I.ls, by simp [I.lt], fun j t' d' u1 u2 u3 => ?_, fun j => ?_, fun j k a h1 h2 => ?_, fun j a h => ?_⟩, f⟩
  · rw [(I.fr i a q).1] at h1; cases h1
  · by_cases hj : j = i
    · subst hj
      rw [List.getElem?_set_self hi] at u1
      cases u1
      rw [e2] at u3; cases u3
      refine ⟨v, e3, ?_⟩
      unfold setF; rw [if_pos rfl]; exact ⟨rfl, f⟩
    · rw [List.getElem?_set_ne (Ne.symm hj)] at u1
      obtain ⟨w, w1, w2⟩ := I.sl j t' d' u1 u2 u3
      refine ⟨w, w1, ?_⟩
      unfold setF; rw [if_neg hj]
      exact w2.mono (frzG_same I.gh _) (fun a ha => frzG_none (ne j a hj ha) (I.fr j a ha).2.1) fun _ _ => rfl
  · unfold setF; split
    · exact .nil
    · exact I.nd j
  · unfold setF at h1 h2
    split at h1
    · cases h1
    · split at h2
      · cases h2
      · exact I.dj j k a h1 h2
  · unfold setF at h
    split at h
    · cases h
    · rename_i hj
      exact ⟨(I.fr j a h).1, frzG_none (ne j a hj h) (I.fr j a h).2.1, (I.fr j a h).2.2⟩
theorem s_varE {x : Str} {i : Nat} (h : PE X (.Name x pos) (tVar i)) (e : T[i]? = some t) (hd : t ≠ .dead) : PE X (.Name x pos) (tEv K Φ W (.var i) T (T.set i .fz) .fz) := by
  refine h.wk fun σ H Q ⟨H0, G, ρ, F, I, q⟩ => ?_
  obtain ⟨d, e2, q⟩ := var_ev q
  obtain ⟨v, e3, r⟩ := I.sl i t d e hd e2
  obtain ⟨G', g, I', f⟩ := I.frzAt e hd e2 e3 r
  exact ⟨v, e3, q v G' H _ [] g (fun _ => Same.refl H) I' ⟨rfl, f⟩ (.nil _ _)⟩
/-- a slot's value taken away from it -/
theorem SInv.dead {H0 G H : Hp} {σ : L2.St} {ρ : Env} {F : Nat → List Addr} (I : SInv K H0 G H σ ρ T F) (i : Nat) : SInv K H0 G H σ ρ (T.set i .dead) (setF F i []) := by
  refine ⟨I.gh, I.h0, I.ls, by simp [I.lt], fun j t' d' u1 u2 u3 => ?_, fun j => ?_, fun j k a h1 h2 => ?_, fun j a h => ?_⟩
  · by_cases hj : j = i
    · subst hj
      have hi : j < T.length := by
        by_cases hi : j < T.length
        · exact hi
        · rw [List.getElem?_eq_none (by simp; omega)] at u1; cases u1
      rw [List.getElem?_set_self hi] at u1
      cases u1
      exact absurd rfl u2
    · rw [List.getElem?_set_ne (Ne.symm hj)] at u1
      obtain ⟨w, w1, w2⟩ := I.sl j t' d' u1 u2 u3
      refine ⟨w, w1, ?_⟩
      unfold setF; rw [if_neg hj]; exact w2
  · unfold setF; split
    · exact .nil
    · exact I.nd j
  · unfold setF at h1 h2
    split at h1
    · cases h1
    · split at h2
      · cases h2
      · exact I.dj j k a h1 h2
  · unfold setF at h
    split at h
    · cases h
    · exact I.fr j a h
theorem s_varM {x : Str} {i : Nat} (h : PE X (.Name x pos) (tVar i)) (e : T[i]? = some t) (hd : t ≠ .dead) : PE X (.Name x pos) (tEv K Φ W (.var i) T (T.set i .dead) t) := by
  refine h.wk fun σ H Q ⟨H0, G, ρ, F, I, q⟩ => ?_
  obtain ⟨d, e2, q⟩ := var_ev q
  obtain ⟨v, e3, r⟩ := I.sl i t d e hd e2
  refine ⟨v, e3, q v G H _ (F i) (.refl _ _) (fun _ => Same.refl H) (I.dead i) r ⟨I.nd i, fun a ha => (I.fr i a ha).1, fun j a ha hj => ?_⟩⟩
  unfold setF at hj
  split at hj
  · cases hj
  · rename_i z; exact z (I.dj j i a hj ha)

/-! constants -/
theorem s_lit {e : Expr} {v : V} {d : D} (h : PE X e (tC v)) (f : ∀ G, Fz K G v d) : PE X e (tEv K Φ W (.lit d) T T .fz) := by
  refine h.wk fun σ H Q ⟨H0, G, ρ, F, I, q⟩ => ?_
  exact q v G H F [] (.refl _ _) (fun _ => Same.refl H) I ⟨rfl, f G⟩ (.nil _ _)

/-! from one reading to another -/
theorem s_toB {x : Expr} {e : E} (h : PE X x (tEv K Φ W e T T' t)) (w : WOk W) (hr : rootE e = none) : PE X x (tEvB K Φ W e T T' t) := by
  refine h.wk fun σ H Q ⟨H0, G, ρ, F, I, q⟩ => ⟨H0, G, ρ, F, I, q.imp w (Same.refl _) fun p _ k v G' H' F' Fv g s I' r o => ?_⟩
  exact k v G' H' F' Fv g s I' r (fun _ => o) fun i z => by rw [hr] at z; cases z
theorem s_toC {x : Expr} {e : E} (h : PE X x (tEvB K Φ W e T T' t)) (w : WOk W) (hf : flatT t = true) : PE X x (tEvC K Φ W e T T') := by
  refine h.wk fun σ H Q ⟨H0, G, ρ, F, I, q⟩ => ⟨H0, G, ρ, F, I, q.imp w (Same.refl _) fun p _ k v G' H' F' Fv g s I' r _ _ => ?_⟩
  exact k v G' H' F' g s I' (r.flat hf)
/-- a temporary, frozen -/
theorem s_toC0 {x : Expr} {e : E} (h : PE X x (tEvB K Φ W e T T' t)) (w : WOk W) (hr : rootE e = none) : PE X x (tEvC K Φ W e T T') := by
  refine h.wk fun σ H Q ⟨H0, G, ρ, F, I, q⟩ => ⟨H0, G, ρ, F, I, q.imp w (Same.refl _) fun p _ k v G' H' F' Fv g s I' r o _ => ?_⟩
  obtain ⟨G2, g2, I2, f⟩ := I'.frz r (o hr)
  exact k v G2 H' F' (g.trans g2) s I2 (.inl f)
/-- a value for good, all of it frozen -/
theorem s_frz {x : Expr} {e : E} (h : PE X x (tEv K Φ W e T T' t)) (w : WOk W) : PE X x (tEv K Φ W e T T' .fz) := by
  refine h.wk fun σ H Q ⟨H0, G, ρ, F, I, q⟩ => ⟨H0, G, ρ, F, I, q.imp w (Same.refl _) fun p _ k v G' H' F' Fv g s I' r o => ?_⟩
  obtain ⟨G2, g2, I2, f⟩ := I'.frz r o
  exact k v G2 H' F' [] (g.trans g2) s I2 ⟨rfl, f⟩ (.nil _ _)
theorem s_C {x : Expr} {e : E} (h : PE X x (tEv K Φ W e T T' .fz)) (w : WOk W) : PE X x (tEvC K Φ W e T T') := by
  refine h.wk fun σ H Q ⟨H0, G, ρ, F, I, q⟩ => ⟨H0, G, ρ, F, I, q.imp w (Same.refl _) fun p _ k v G' H' F' Fv g s I' r o => ?_⟩
  exact k v G' H' F' g s I' (.inl r.2)

/-! argument lists -/
theorem s_nil : PA X [] (tEvL K Φ W .nil T T .tn) := by
  refine pa_nil.wk fun σ H Q ⟨H0, G, ρ, F, I, q⟩ => ?_
  exact q [] rfl [] G H F [] (.refl _ _) (fun _ => Same.refl H) I ⟨rfl, rfl, rfl⟩ (.nil _ _)
theorem s_nilF : PA X [] (tEvF K Φ W .nil T T) := by
  refine pa_nil.wk fun σ H Q ⟨H0, G, ρ, F, I, q⟩ => ?_
  exact q [] rfl [] G H F (.refl _ _) (fun _ => Same.refl H) I .nil
theorem cons_ev {ρ : Env} {e es : E} {W : Wx} {H0 : Hp} {k : D × Env → Prop} (h : Pst W H0 (ev Φ (.cons e es) ρ) k) :
    Pst W H0 (ev Φ e ρ) fun p => Pst W H0 (ev Φ es p.2) fun q => ∃ ds, q.1 = .tuple ds ∧ k (.tuple (p.1 :: ds), q.2) := by
  simp only [ev] at h
  have h := h.bind
  cases h1 : ev Φ e ρ with
  | ok p =>
    rw [h1] at h
    have h : Pst W H0 _ _ := h
    have h := Pst.bind (show Pst W H0 (ev Φ es p.2 >>= _) k from h)
    cases h2 : ev Φ es p.2 with
    | ok q =>
      rw [h2] at h
      obtain ⟨d, r⟩ := q
      show Pst W H0 (ev Φ es p.2) _
      rw [h2]
      cases d with
      | tuple ds => exact ⟨ds, rfl, h⟩
      | _ => exact (h : False).elim
    | exn c as => rw [h2] at h; show Pst W H0 (ev Φ es p.2) _; rw [h2]; exact h
    | stk => rw [h2] at h; exact (h : False).elim
  | exn c as => rw [h1] at h; exact h
  | stk => rw [h1] at h; exact h
/-- a written list of arguments begins with one that is no star -/
def NoStar (x : Expr) : Prop := ∀ (xs : List Expr) (env : PySem.Env), starEach (x :: xs) env = (false, eval x env) :: starEach xs env
theorem s_cons {x : Expr} {xs : List Expr} {e es : E} (h : PE X x (tEv K Φ W e T T1 t)) (hs : PA X xs (tEvL K Φ W es T1 T2 u)) (w : WOk W) (ns : NoStar x) : PA X (x :: xs) (tEvL K Φ W (.cons e es) T T2 (.tc t u)) := by
  refine (pa_cons h hs (ns _ _)).wk fun σ H Q ⟨H0, G, ρ, F, I, q⟩ => ⟨H0, G, ρ, F, I, (cons_ev q).imp w (Same.refl _) fun p _ k v G1 H1 F1 Fv g1 s1 I1 r1 o1 => ?_⟩
  refine ⟨rebase H1 F1, G1, p.2, F1, I1.rebase, k.imp w I1.under fun q _ ⟨ds, e2, k⟩ es' e3 vs G2 H2 F2 Fw g2 s2 I2 r2 o2 => ?_⟩
  rw [e2] at e3; cases e3
  obtain ⟨r1', o1'⟩ := SInv.hold o1 r1 I2 g2
  refine k _ rfl (v :: vs) G2 H2 F2 (Fv ++ Fw) (g1.trans (I1.gs g2)) (fun z => ?_) (I1.back I2) ⟨v, vs, p.1, _, Fv, Fw, rfl, rfl, rfl, r1', r2⟩ ⟨?_, fun a ha => ?_, fun i a ha => ?_⟩
  · simp only [pur, Bool.and_eq_true] at z
    exact (s1 z.1).trans (s2 z.2)
  · refine List.nodup_append.mpr ⟨o1'.nd, o2.nd, fun a ha b hb e => ?_⟩
    subst e
    have := o2.fr a hb
    rw [rebase_out fun i q => o1.dj i a ha q] at this
    have h2 := (r1.gn a ha).2
    rw [this] at h2; cases h2
  · rcases List.mem_append.mp ha with ha | ha
    · exact o1'.fr a ha
    · exact I1.under.free (o2.fr a ha)
  · rcases List.mem_append.mp ha with ha | ha
    · exact o1'.dj i a ha
    · exact o2.dj i a ha
theorem s_consF {x : Expr} {xs : List Expr} {e es : E} (h : PE X x (tEv K Φ W e T T1 .fz)) (hs : PA X xs (tEvF K Φ W es T1 T2)) (w : WOk W) (ns : NoStar x) : PA X (x :: xs) (tEvF K Φ W (.cons e es) T T2) := by
  refine (pa_cons h hs (ns _ _)).wk fun σ H Q ⟨H0, G, ρ, F, I, q⟩ => ⟨H0, G, ρ, F, I, (cons_ev q).imp w (Same.refl _) fun p _ k v G1 H1 F1 Fv g1 s1 I1 r1 o1 => ?_⟩
  refine ⟨H0, G1, p.2, F1, I1, k.imp w (Same.refl _) fun q _ ⟨ds, e2, k⟩ es' e3 vs G2 H2 F2 g2 s2 I2 r2 => ?_⟩
  rw [e2] at e3; cases e3
  refine k _ rfl (v :: vs) G2 H2 F2 (g1.trans g2) (fun z => ?_) I2 (.cons (r1.2.same g2.same) r2)
  simp only [pur, Bool.and_eq_true] at z
  exact (s1 z.1).trans (s2 z.2)

/-! operators -/
theorem bin_ev {ρ : Env} {o : BOp} {a b : E} {W : Wx} {H0 : Hp} {k : D × Env → Prop} (h : Pst W H0 (ev Φ (.bin o a b) ρ) k) :
    Pst W H0 (ev Φ a ρ) fun p => Pst W H0 (ev Φ b p.2) fun q => Pst W H0 (binD o p.1 q.1) fun d => k (d, q.2) := by
  simp only [ev] at h
  have h := h.bind
  cases h1 : ev Φ a ρ with
  | ok p =>
    rw [h1] at h
    have h := Pst.bind (show Pst W H0 (ev Φ b p.2 >>= _) k from h)
    show Pst W H0 (ev Φ b p.2) _
    cases h2 : ev Φ b p.2 with
    | ok q => rw [h2] at h; exact Pst.bind (show Pst W H0 (binD o p.1 q.1 >>= _) k from h)
    | exn c as => rw [h2] at h; exact h
    | stk => rw [h2] at h; exact h
  | exn c as => rw [h1] at h; exact h
  | stk => rw [h1] at h; exact h
/-- the rule of an operator: by the operands' data to the result's -/
def OpD (X : Cx) (K : PySem.W.Frag) (f : Value → Value → Sem Value) (o : BOp) : Prop := OpR X f fun x y H Q =>
  ∃ G a b d, Same G H ∧ RFl K G H x a ∧ RFl K G H y b ∧ binD o a b = .ok d ∧
    (∀ xs ds, d = .list ds → FzA K G xs ds → ∀ p, H p = none → Q (.ref p) (upd H p (.lst xs))) ∧ (∀ xs ds, d = .tuple ds → FzA K G xs ds → ∀ p, H p = none → Q (.ref p) (upd H p (.tup xs))) ∧ (∀ v, Fz K G v d → notL d = true → Q v H)
theorem s_bin {a b : Expr} {op : Operator} {o : BOp} {ea eb : E} (ho : OpD X K (binaryOp op) o) (ha : PE X a (tEvC K Φ W ea T T1)) (hb : PE X b (tEvC K Φ W eb T1 T2)) (w : WOk W) (hp : pur eb = true) (ht : OkT t) :
    PE X (.BinOp a op b pos) (tEv K Φ W (.bin o ea eb) T T2 t) := by
  refine (pe_op ho ha hb).wk fun σ H Q ⟨H0, G, ρ, F, I, q⟩ => ?_
  refine two (Φ := Φ) (W := W) w hp ⟨H0, G, ρ, F, I, (bin_ev q).imp w (Same.refl _) fun p _ k => k.imp w (Same.refl _) fun q _ k v u G2 H2 F2 g s I2 r1 r2 => ?_⟩
  cases hd : binD o p.1 q.1 with
  | stk => rw [hd] at k; exact k.elim
  | exn c as => exact absurd hd (by unfold binD; split <;> (try split) <;> simp)
  | ok d =>
    rw [hd] at k
    have pp : pur (.bin o ea eb) = true → Same H H2 := fun z => by
      simp only [pur, Bool.and_eq_true] at z
      exact s z.1
    refine ⟨G2, p.1, q.1, d, I2.gh, r1, r2, hd, fun xs ds e f pp' np => ?_, fun xs ds e f p' np => ?_, fun v f n => ?_⟩
    · subst e
      obtain ⟨G3, Fv, g3, I3, r3, o3⟩ := I2.newL f np ht
      exact k _ G3 _ F2 Fv (g.trans g3) (fun z => (pp z).trans (same_upd np)) I3 r3 o3
    · subst e
      obtain ⟨g3, I3, f3⟩ := I2.newT f np
      exact k _ _ _ F2 [] (g.trans g3) (fun z => (pp z).trans (same_upd np)) I3 (ht.of f3 rfl) (.nil _ _)
    · exact k v G2 H2 F2 [] g pp I2 (ht.of f n) (.nil _ _)
/-- the operators -/
theorem binD_inv {W : Wx} {H0 : Hp} {o : BOp} {a b : D} {k : D → Prop} (h : Pst W H0 (binD o a b) k) : ∃ d, binD o a b = .ok d ∧ k d := by
  cases hd : binD o a b with
  | ok d => rw [hd] at h; exact ⟨d, rfl, h⟩
  | stk => rw [hd] at h; exact h.elim
  | exn c as => exact absurd hd (by unfold binD; split <;> (try split) <;> simp)
theorem ok_inj {α : Type} {a b : α} (h : Res.ok a = Res.ok b) : a = b := by cases h; rfl
theorem if_ok {α : Type} {c : Prop} [Decidable c] {a b : α} (h : (if c then Res.ok a else Res.stk) = Res.ok b) : c ∧ a = b := by
  split at h
  · rename_i q; exact ⟨q, ok_inj h⟩
  · cases h
theorem len_line {n : Nat} (h : n ≤ line) : n ≤ sizeLine := by rw [sizeLine_eq]; exact h
theorem opD_add (hK : X.K = K) : OpD X K (binaryOp .Add) .add := by
  intro pins s σ H x y v u Q I rx ry ⟨G, a, b, d, hs, ra, rb, hd, kl, kt, kv⟩
  unfold binD at hd
  split at hd <;> (try (rename_i h; cases h)) <;> first | (cases hd; done) | skip
  · have e := ok_inj hd; subst e
    have e1 := ra.int; have e2 := rb.int; subst e1; subst e2
    exact op_add pins s σ H _ _ v u Q I rx ry ⟨_, _, rfl, rfl, kv _ (.int _) rfl⟩
  · obtain ⟨hz, e⟩ := if_ok hd; subst e
    have e1 := ra.str; have e2 := rb.str; subst e1; subst e2
    exact op_add_str pins s σ H _ _ v u Q I rx ry ⟨_, _, rfl, rfl, len_line hz, kv _ (.str _ (by rw [show (_ ++ _ : Str).length = _ from strLen_append _ _]; exact hz)) rfl⟩
  · obtain ⟨hz, e⟩ := if_ok hd; subst e
    obtain ⟨l1, xs, rfl, h1, f1⟩ := ra.list hs
    obtain ⟨l2, ys, rfl, h2, f2⟩ := rb.list hs
    exact op_cat pins s σ H _ _ v u Q I rx ry ⟨l1, l2, xs, ys, rfl, rfl, h1, h2, by rw [f1.len, f2.len]; exact len_line hz, fun p np => kl _ _ rfl (f1.app f2) p np⟩
  · obtain ⟨hz, e⟩ := if_ok hd; subst e
    obtain ⟨l1, xs, rfl, h1, f1⟩ := ra.tuple
    obtain ⟨l2, ys, rfl, h2, f2⟩ := rb.tuple
    refine op_catA pins s σ H _ _ v u Q I rx ry ⟨l1, l2, xs, ys, rfl, rfl, by rw [hK]; exact seqT hs h1, by rw [hK]; exact seqT hs h2, by rw [f1.len, f2.len]; exact len_line hz, fun e => ?_, fun e1 e2 => ?_, fun e1 e2 p np => ?_⟩
    · subst e
      cases f1
      exact kv _ (.tup h2 f2) rfl
    · subst e2
      cases f2
      exact kv _ (.tup h1 (by rw [List.append_nil]; exact f1)) rfl
    · exact kt _ _ rfl (f1.app f2) p np
theorem opD_sub : OpD X K (binaryOp .Sub) .sub := by
  intro pins s σ H x y v u Q I rx ry ⟨G, a, b, d, hs, ra, rb, hd, kl, kt, kv⟩
  unfold binD at hd
  split at hd <;> (try (rename_i h; cases h)) <;> first | (cases hd; done) | skip
  have e := ok_inj hd; subst e
  have e1 := ra.int; have e2 := rb.int; subst e1; subst e2
  exact op_sub pins s σ H _ _ v u Q I rx ry ⟨_, _, rfl, rfl, kv _ (.int _) rfl⟩
theorem opD_mul : OpD X K (binaryOp .Mult) .mul := by
  intro pins s σ H x y v u Q I rx ry ⟨G, a, b, d, hs, ra, rb, hd, kl, kt, kv⟩
  unfold binD at hd
  split at hd <;> (try (rename_i h; cases h)) <;> first | (cases hd; done) | skip
  obtain ⟨hz, e⟩ := if_ok hd; subst e
  have e1 := ra.int; have e2 := rb.int; subst e1; subst e2
  unfold mulOk at hz
  simp only [Bool.or_eq_true, decide_eq_true_eq] at hz
  rcases hz with (hz | hz) | hz
  · exact op_mul pins s σ H _ _ v u Q I rx ry ⟨_, _, rfl, rfl, .inl hz, kv _ (.int _) rfl⟩
  · exact op_mul pins s σ H _ _ v u Q I rx ry ⟨_, _, rfl, rfl, .inr hz, kv _ (.int _) rfl⟩
  · exact op_mulW pins s σ H _ _ v u Q I rx ry ⟨_, _, rfl, rfl, hz, kv _ (.int _) rfl⟩
theorem opD_fdiv : OpD X K (binaryOp .FloorDiv) .fdiv := by
  intro pins s σ H x y v u Q I rx ry ⟨G, a, b, d, hs, ra, rb, hd, kl, kt, kv⟩
  unfold binD at hd
  split at hd <;> (try (rename_i h; cases h)) <;> first | (cases hd; done) | skip
  obtain ⟨hz, e⟩ := if_ok hd; subst e
  have e1 := ra.int; have e2 := rb.int; subst e1; subst e2
  unfold divOk at hz
  simp only [Bool.and_eq_true, Bool.or_eq_true, decide_eq_true_eq] at hz
  rcases hz with ⟨h0, hz | hz⟩
  · exact op_fdiv pins s σ H _ _ v u Q I rx ry ⟨_, _, rfl, rfl, ⟨h0, hz⟩, kv _ (.int _) rfl⟩
  · exact op_fdivW pins s σ H _ _ v u Q I rx ry ⟨_, _, rfl, rfl, ⟨h0, hz⟩, kv _ (.int _) rfl⟩
theorem opD_mod : OpD X K (binaryOp .Mod) .mod := by
  intro pins s σ H x y v u Q I rx ry ⟨G, a, b, d, hs, ra, rb, hd, kl, kt, kv⟩
  unfold binD at hd
  split at hd <;> (try (rename_i h; cases h)) <;> first | (cases hd; done) | skip
  obtain ⟨hz, e⟩ := if_ok hd; subst e
  have e1 := ra.int; have e2 := rb.int; subst e1; subst e2
  exact op_mod pins s σ H _ _ v u Q I rx ry ⟨_, _, rfl, rfl, hz, kv _ (.int _) rfl⟩
theorem opD_pow : OpD X K (binaryOp .Pow) .pow := by
  intro pins s σ H x y v u Q I rx ry ⟨G, a, b, d, hs, ra, rb, hd, kl, kt, kv⟩
  unfold binD at hd
  split at hd <;> (try (rename_i h; cases h)) <;> first | (cases hd; done) | skip
  obtain ⟨hz, e⟩ := if_ok hd; subst e
  have e1 := ra.int; have e2 := rb.int; subst e1; subst e2
  exact op_pow pins s σ H _ _ v u Q I rx ry ⟨_, _, rfl, rfl, hz, kv _ (.int _) rfl⟩
theorem opD_of (hK : X.K = K) {op : Operator} {o : BOp} (h : cB op = some o) : OpD X K (binaryOp op) o := by
  cases op <;> simp [cB] at h <;> subst h
  · exact opD_add hK
  · exact opD_sub
  · exact opD_mul
  · exact opD_mod
  · exact opD_pow
  · exact opD_fdiv
end
end Rf
end

section
/-! Rf2e: comparisons, tests, and, or, not, a if c else b, subscripts, displays. -/
namespace Rf
open PySem PySem.Spec PyProof.Rows L2
section
variable (K : PySem.W.Frag) (Φ : Calls) (W : Wx)
/-- a value that is looked at once, through and through -/
def tEvD (e : E) (T T' : Ty1) : TE := fun σ H Q => ∃ H0 G ρ F, SInv K H0 G H σ ρ T F ∧ Pst W H0 (ev Φ e ρ) fun q =>
  ∀ v G' H' F', GS H0 G G' → (pur e = true → Same H H') → SInv K H0 G' H' σ q.2 T' F' → Fz K H' v q.1 → Q v H'
end
section
variable {K : PySem.W.Frag} {Φ : Calls} {W : Wx} {X : Cx} {T T' T1 T2 T3 : Ty1} {pos : Pos} {t u : Ow} {H0 G H : Hp}
theorem s_toD {x : Expr} {e : E} (h : PE X x (tEvB K Φ W e T T' t)) (w : WOk W) : PE X x (tEvD K Φ W e T T') := by
  refine h.wk fun σ H Q ⟨H0, G, ρ, F, I, q⟩ => ⟨H0, G, ρ, F, I, q.imp w (Same.refl _) fun p _ k v G' H' F' Fv g s I' r _ _ => ?_⟩
  exact k v G' H' F' g s I' (r.all I'.gh)
theorem Fz.tru {v : V} {d : D} (h : Fz K H v d) : TruV K v H (truth d) := by
  cases h with
  | non => rfl
  | bl b => rfl
  | int i => rfl
  | str x hz => exact ⟨len_line hz, rfl⟩
  | lst a b =>
    refine .inl ⟨_, .inl (.inl a), ?_⟩
    cases b <;> rfl
  | tup a b =>
    refine .inr (.inl ⟨_, a, ?_⟩)
    cases b <;> rfl
  | dct a b =>
    refine .inr (.inr ⟨_, a, ?_⟩)
    cases b <;> rfl
  | @scr a ns q =>
    refine .inl ⟨_, q, ?_⟩
    cases ns <;> rfl

/-! the evaluation of two, three parts, in one line -/
theorem ev2 {r1 : Res (D × Env)} {f : Env → Res (D × Env)} {α : Type} {g : D → D → Res α} {W : Wx} {H0 : Hp} {k : α × Env → Prop} {R : Res (α × Env)}
    (e : R = (do let (x, ρ) ← r1; let (y, ρ) ← f ρ; let d ← g x y; .ok (d, ρ))) (h : Pst W H0 R k) : Pst W H0 r1 fun p => Pst W H0 (f p.2) fun q => Pst W H0 (g p.1 q.1) fun d => k (d, q.2) := by
  subst e
  cases r1 with
  | ok p =>
    obtain ⟨x, ρ⟩ := p
    show Pst W H0 (f ρ) _
    have h : Pst W H0 (f ρ >>= _) k := h
    cases h2 : f ρ with
    | ok q =>
      obtain ⟨y, ρ2⟩ := q
      rw [h2] at h
      exact Pst.bind (show Pst W H0 (g x y >>= _) k from h)
    | exn c as => rw [h2] at h; exact h
    | stk => rw [h2] at h; exact h
  | exn c as => exact h
  | stk => exact h
theorem ev1 {r1 : Res (D × Env)} {f : D → Env → Res (D × Env)} {W : Wx} {H0 : Hp} {k : D × Env → Prop} {R : Res (D × Env)}
    (e : R = (do let (x, ρ) ← r1; f x ρ)) (h : Pst W H0 R k) : Pst W H0 r1 fun p => Pst W H0 (f p.1 p.2) k := by
  subst e; exact Pst.bind h

/-! comparisons -/
/-- what an operator of comparison does, by data -/
def CmpD (X : Cx) (K : PySem.W.Frag) (op : CmpOp) (o : COp) (ok : D → Prop) : Prop := OpR X (compareOp op) fun x y H Q => ∃ a b t, ok b ∧ Fz K H x a ∧ Fz K H y b ∧ cmpD o a b = .ok t ∧ Q (.bl t) H
def notDict : D → Prop := fun d => ∀ kvs, d ≠ .dict kvs
theorem two_d {a b : E} {σ : L2.St} {H : Hp} {Q : V → V → Hp → Prop} (w : WOk W) (hp : pur b = true)
    (h : ∃ H0 G ρ F, SInv K H0 G H σ ρ T F ∧ Pst W H0 (ev Φ a ρ) fun p => Pst W H0 (ev Φ b p.2) fun q => ∀ v u G2 H2 F2, GS H0 G G2 → (pur a = true → Same H H2) → SInv K H0 G2 H2 σ q.2 T2 F2 → Fz K H2 v p.1 → Fz K H2 u q.1 → Q v u H2) :
    tEvD K Φ W a T T1 σ H fun x H1 => tEvD K Φ W b T1 T2 σ H1 fun y H2 => Q x y H2 := by
  obtain ⟨H0, G, ρ, F, I, h⟩ := h
  refine ⟨H0, G, ρ, F, I, h.imp w (Same.refl H0) fun p _ h1 v G1 H1 F1 g1 s1 I1 r1 => ⟨H0, G1, p.2, F1, I1, h1.imp w (Same.refl H0) fun q _ h2 u G2 H2 F2 g2 s2 I2 r2 => ?_⟩⟩
  exact h2 v u G2 H2 F2 (g1.trans g2) (fun z => (s1 z).trans (s2 hp)) I2 (r1.same (s2 hp)) r2
theorem cmp_rd {o : COp} {ea eb : E} {ok : D → Prop} (w : WOk W) (hp : pur eb = true) {σ : L2.St} {H : Hp} {Q : V → Hp → Prop}
    (h : ∃ H0 G ρ F, SInv K H0 G H σ ρ T F ∧ Pst W H0 (ev Φ ea ρ) fun p => Pst W H0 (ev Φ eb p.2) fun q => ok q.1 ∧ Pst W H0 (cmpD o p.1 q.1) fun t => ∀ G2 H2 F2, GS H0 G G2 → (pur ea = true → Same H H2) → SInv K H0 G2 H2 σ q.2 T2 F2 → Q (.bl t) H2) :
    tOp (fun x y H Q => ∃ a b t, ok b ∧ Fz K H x a ∧ Fz K H y b ∧ cmpD o a b = .ok t ∧ Q (.bl t) H) (tEvD K Φ W ea T T1) (tEvD K Φ W eb T1 T2) σ H Q := by
  obtain ⟨H0, G, ρ, F, I, h⟩ := h
  refine two_d w hp ⟨H0, G, ρ, F, I, h.imp w (Same.refl _) fun p _ k => k.imp w (Same.refl _) fun q _ ⟨hk, k⟩ v u G2 H2 F2 g s I2 r1 r2 => ?_⟩
  cases hd : cmpD o p.1 q.1 with
  | ok t => rw [hd] at k; exact ⟨p.1, q.1, t, hk, r1, r2, hd, k G2 H2 F2 g s I2⟩
  | stk => rw [hd] at k; exact k.elim
  | exn c as =>
    exfalso
    revert hd
    cases o <;> cases p.1 <;> cases q.1 <;> simp [cmpD, inD] <;> (try split) <;> (try split) <;> simp
theorem shaped_of {n : Nat} {d : D} {v : V} (f : Fz K H v d) (h : shpB n d = true) (hn : n ≤ 60) : Dp K H v (cast d) ∧ SeqAt.shaped (cast d) = true := by
  obtain ⟨h1, h2, h3⟩ := f.dp h
  refine ⟨h1, ?_⟩
  unfold SeqAt.shaped
  rw [h2, Bool.true_and]
  exact decide_eq_true (by omega)
theorem flatV_of {v : V} {d : D} (f : Fz K H v d) (h : flat d = true) : flatV v = true := by cases f <;> first | rfl | simp [flat] at h
theorem eqV_of {v u : V} {d e : D} (f : Fz K H v d) (g : Fz K H u e) (h : flat d = true) (k : flat e = true) : eqV v u = eqD d e := by
  cases f <;> (try (simp [flat] at h; done)) <;> cases g <;> (try (simp [flat] at k; done)) <;> simp [eqV, eqD]
theorem inV_of {v : V} {d : D} (f : Fz K H v d) (h : flat d = true) : ∀ {xs : List V} {ds : List D}, FzA K H xs ds → ds.all flat = true → xs.all flatV = true ∧ inV v xs = ds.any fun z => eqD z d
  | _, [], q, _ => by cases q; exact ⟨rfl, rfl⟩
  | _, e :: ds, q, k => by
    cases q with
    | cons a b =>
      simp only [List.all_cons, Bool.and_eq_true] at k ⊢
      obtain ⟨h1, h2⟩ := inV_of f h b k.2
      refine ⟨⟨flatV_of a k.1, h1⟩, ?_⟩
      unfold inV at h2 ⊢
      rw [List.any_cons, List.any_cons, eqV_of a f k.1 h, h2]
theorem castA_any {d : D} (h : shpB 9 d = true) : ∀ {ds : List D}, ds.all (shpB 8) = true → ((cast.castA ds).any fun z => PyData.eqv z (cast d)) = ds.any fun z => eqD z d
  | [], _ => rfl
  | e :: ds, k => by
    simp only [List.all_cons, Bool.and_eq_true] at k
    simp only [cast.castA, List.any_cons]
    rw [eqD_cast k.1 h, castA_any h k.2]
theorem in_list (hK : X.K = K) (hu : X.A.units + 65 < cLine) {pins : List (Addr × Obj)} {s : Shared} {σ : L2.St} {H : Hp} {x y : V} {v u : Value} {Q : VK} (I : L2.Inv X pins σ H s) (rx : L2.RelV x v) (ry : L2.RelV y u) {a b : D} {t : Bool} (n : notDict b)
    (fa : Fz K H x a) (fb : Fz K H y b) (e : inD a b = .ok t) : (∀ k, k = t → Q (.bl k) H → wpAny (model X.prog X.w) X.A (compareOp .In v u) (EP X pins σ Q) X.xe s) ∧ (∀ k, k = !t → Q (.bl k) H → wpAny (model X.prog X.w) X.A (compareOp .NotIn v u) (EP X pins σ Q) X.xe s) := by
  unfold inD at e
  split at e
  · rename_i ds
    obtain ⟨hz, e⟩ := if_ok e
    simp only [Bool.and_eq_true] at hz
    obtain ⟨p1, p2⟩ := shaped_of fa hz.1 (by decide)
    obtain ⟨q1, q2⟩ := shaped_of fb hz.2 (by decide)
    have hc := castA_any hz.1 (ds := ds) (by simpa [shpB] using hz.2)
    constructor
    · rintro k rfl hq
      refine op_inD hu pins s σ H x y v u Q I rx ry ⟨cast a, cast.castA ds, by rw [hK]; exact p1, by rw [hK]; exact q1, p2, q2, ?_⟩
      rw [hc, e]; exact hq
    · rintro k rfl hq
      refine op_notInD hu pins s σ H x y v u Q I rx ry ⟨cast a, cast.castA ds, by rw [hK]; exact p1, by rw [hK]; exact q1, p2, q2, ?_⟩
      rw [hc, e]; exact hq
  · rename_i ds
    obtain ⟨hz, e⟩ := if_ok e
    simp only [Bool.and_eq_true] at hz
    cases fb with
    | tup h1 h2 =>
      obtain ⟨k1, k2⟩ := inV_of fa hz.1 h2 hz.2
      constructor
      · rintro k rfl hq
        refine op_in_seq pins s σ H x _ v u Q I rx ry ⟨_, _, rfl, .inr (by rw [hK]; exact h1), flatV_of fa hz.1, k1, ?_⟩
        rw [k2, e]; exact hq
      · rintro k rfl hq
        refine op_notIn_seq pins s σ H x _ v u Q I rx ry ⟨_, _, rfl, .inr (by rw [hK]; exact h1), flatV_of fa hz.1, k1, ?_⟩
        rw [k2, e]; exact hq
  · exact absurd rfl (n _)
  · rename_i z
    split at e
    · rename_i y'
      obtain ⟨hz, e⟩ := if_ok e
      have e1 : x = .str y' := by cases fa; rfl
      have e2 : y = .str z := by cases fb; rfl
      subst e1; subst e2
      have hs : ∃ c : Nat, y' = ⟨#[c]⟩ ∧ y'.cps.getD 0 0 = c := by
        obtain ⟨cps⟩ := y'
        obtain ⟨l⟩ := cps
        cases l with
        | nil => simp [Str.length] at hz
        | cons c r =>
          cases r with
          | nil => exact ⟨c, rfl, rfl⟩
          | cons _ _ => simp [Str.length] at hz
      obtain ⟨c, rfl, hc⟩ := hs
      rw [hc] at e
      constructor
      · rintro k rfl hq
        exact op_in_sign pins s σ H _ _ v u Q I rx ry ⟨c, z, rfl, rfl, by rw [e]; exact hq⟩
      · rintro k rfl hq
        exact op_notIn_sign pins s σ H _ _ v u Q I rx ry ⟨c, z, rfl, rfl, by rw [e]; exact hq⟩
    · cases e
  · cases e
theorem shq_or {a b : D} (h : shq a b = true) : (∃ x y, a = .str x ∧ b = .str y) ∨ (shp a && shp b) = true := by
  unfold shq at h
  split at h
  · exact .inl ⟨_, _, rfl, rfl⟩
  · exact .inr h
theorem cmpD_of (hK : X.K = K) (hu : X.A.units + 65 < cLine) (op : CmpOp) : CmpD X K op (cC op) notDict := by
  intro pins s σ H x y v u Q I rx ry ⟨a, b, t, n, fa, fb, e, q⟩
  have hu' : X.A.units + 64 < cLine := by omega
  cases op <;> simp only [cC] at e
  · obtain ⟨hz, e⟩ := if_ok e
    rcases shq_or hz with ⟨xa, xb, rfl, rfl⟩ | hz
    · cases fa; cases fb
      refine op_eq pins s σ H _ _ v u Q I rx ry ⟨rfl, ?_⟩
      have e2 : decide (V.str xa = V.str xb) = t := by rw [← e]; simp only [eqD]; by_cases h : xa = xb <;> simp [h]
      rw [e2]; exact q
    simp only [Bool.and_eq_true] at hz
    obtain ⟨p1, p2⟩ := shaped_of fa hz.1 (by decide)
    obtain ⟨q1, q2⟩ := shaped_of fb hz.2 (by decide)
    exact op_eqD hu' pins s σ H x y v u Q I rx ry ⟨_, _, by rw [hK]; exact p1, by rw [hK]; exact q1, p2, q2, by rw [eqD_cast hz.1 hz.2, e]; exact q⟩
  · obtain ⟨hz, e⟩ := if_ok e
    rcases shq_or hz with ⟨xa, xb, rfl, rfl⟩ | hz
    · cases fa; cases fb
      refine op_ne pins s σ H _ _ v u Q I rx ry ⟨rfl, ?_⟩
      have e2 : (!decide (V.str xa = V.str xb)) = t := by rw [← e]; simp only [eqD]; by_cases h : xa = xb <;> simp [h]
      rw [e2]; exact q
    simp only [Bool.and_eq_true] at hz
    obtain ⟨p1, p2⟩ := shaped_of fa hz.1 (by decide)
    obtain ⟨q1, q2⟩ := shaped_of fb hz.2 (by decide)
    exact op_neD hu' pins s σ H x y v u Q I rx ry ⟨_, _, by rw [hK]; exact p1, by rw [hK]; exact q1, p2, q2, by rw [eqD_cast hz.1 hz.2, e]; exact q⟩
  · unfold cmpD at e; split at e <;> (try (rename_i h; cases h)) <;> first | (cases e; done) | skip
    cases fa; cases fb
    exact op_lt pins s σ H _ _ v u Q I rx ry ⟨_, _, rfl, rfl, by rw [← ok_inj e] at q; exact q⟩
  · unfold cmpD at e; split at e <;> (try (rename_i h; cases h)) <;> first | (cases e; done) | skip
    cases fa; cases fb
    exact op_le pins s σ H _ _ v u Q I rx ry ⟨_, _, rfl, rfl, by rw [← ok_inj e] at q; exact q⟩
  · unfold cmpD at e; split at e <;> (try (rename_i h; cases h)) <;> first | (cases e; done) | skip
    cases fa; cases fb
    exact op_gt pins s σ H _ _ v u Q I rx ry ⟨_, _, rfl, rfl, by rw [← ok_inj e] at q; exact q⟩
  · unfold cmpD at e; split at e <;> (try (rename_i h; cases h)) <;> first | (cases e; done) | skip
    cases fa; cases fb
    exact op_ge pins s σ H _ _ v u Q I rx ry ⟨_, _, rfl, rfl, by rw [← ok_inj e] at q; exact q⟩
  · cases b with
    | none =>
      cases fb
      refine op_isN pins s σ H _ _ v u Q I rx ry ⟨rfl, ?_⟩
      have := ok_inj (show Res.ok _ = _ from e)
      subst this
      cases fa <;> simpa using q
    | bool b =>
      cases a <;> simp [cmpD] at e
      cases fa; cases fb
      exact op_is_bl pins s σ H _ _ v u Q I rx ry ⟨_, _, rfl, rfl, by rw [e]; exact q⟩
    | _ => cases a <;> simp [cmpD] at e
  · cases b with
    | none =>
      cases fb
      refine op_notN pins s σ H _ _ v u Q I rx ry ⟨rfl, ?_⟩
      have := ok_inj (show Res.ok _ = _ from e)
      subst this
      cases fa <;> simpa using q
    | bool b =>
      cases a <;> simp [cmpD] at e
      cases fa; cases fb
      exact op_isnot_bl pins s σ H _ _ v u Q I rx ry ⟨_, _, rfl, rfl, by rw [e]; simpa using q⟩
    | _ => cases a <;> simp [cmpD] at e
  · exact (in_list hK hu I rx ry n fa fb (t := t) e).1 t rfl q
  · have e : (inD a b >>= fun r => Res.ok (!r)) = .ok t := e
    cases h : inD a b with
    | ok r =>
      rw [h] at e
      have e := ok_inj (show Res.ok (!r) = _ from e)
      exact (in_list hK hu I rx ry n fa fb h).2 t e.symm q
    | stk => rw [h] at e; cases e
    | exn c as => rw [h] at e; cases e
end
end Rf
end

section
/-! Rf2f: comparisons as values and tests, truth, and, or, not, subscripts. -/
namespace Rf
open PySem PySem.Spec PyProof.Rows L2
section
variable {K : PySem.W.Frag} {Φ : Calls} {W : Wx} {X : Cx} {T T' T1 T2 T3 : Ty1} {pos : Pos} {t u : Ow} {H0 G H : Hp}
/-! dicts by data -/
theorem keyEq_kD (k j : Key) : keyEq (kD k) (kD j) = decide (k = j) := by
  cases k <;> cases j <;> simp [keyEq, kD]
  · rename_i a b; by_cases h : a = b <;> simp [h]
  · rename_i a b; by_cases h : a = b <;> simp [h]
theorem isKey_inv {d : D} {v : V} (h : isKey d = true) (f : Fz K H v d) : ∃ k : Key, d = kD k ∧ v = kV k := by
  cases f <;> simp [isKey] at h
  · rename_i i; exact ⟨.inl i, rfl, rfl⟩
  · rename_i x _; exact ⟨.inr x, rfl, rfl⟩
theorem look_some : ∀ {ks : List (Key × V)} {ds : List (D × D)} {k : Key} {d : D}, FzK K G ks ds → look (kD k) ds = some d → ∃ v, valV ks k = some v ∧ Fz K G v d
  | _, [], _, _, h, e => by simp [look] at e
  | _, (c, x) :: ds, k, d, h, e => by
    cases h with
    | @cons j v vs _ _ a b =>
      simp only [look, keyEq_kD] at e
      by_cases hj : j = k
      · rw [if_pos (by simpa using hj)] at e
        cases e
        exact ⟨v, valV_pos hj, a⟩
      · rw [if_neg (by simpa using hj)] at e
        obtain ⟨w, h1, h2⟩ := look_some b e
        exact ⟨w, by rw [valV_neg hj]; exact h1, h2⟩
theorem look_none : ∀ {ks : List (Key × V)} {ds : List (D × D)} {k : Key}, FzK K G ks ds → look (kD k) ds = none → valV ks k = none
  | _, [], _, h, e => by cases h; rfl
  | _, (c, x) :: ds, k, h, e => by
    cases h with
    | @cons j v vs _ _ a b =>
      simp only [look, keyEq_kD] at e
      by_cases hj : j = k
      · rw [if_pos (by simpa using hj)] at e; cases e
      · rw [if_neg (by simpa using hj)] at e
        rw [valV_neg hj]
        exact look_none b e
theorem look_is {ks : List (Key × V)} {ds : List (D × D)} {k : Key} (h : FzK K G ks ds) : (valV ks k).isSome = (look (kD k) ds).isSome := by
  cases e : look (kD k) ds with
  | none => rw [look_none h e]; rfl
  | some d => obtain ⟨v, h1, _⟩ := look_some h e; rw [h1]; rfl

/-! comparisons -/
theorem cmp_ev {a b : E} {o : COp} {ρ : Env} {H0 : Hp} {k : D × Env → Prop} (h : Pst W H0 (ev Φ (.cmp o a b) ρ) k) :
    Pst W H0 (ev Φ a ρ) fun p => Pst W H0 (ev Φ b p.2) fun q => Pst W H0 (cmpD o p.1 q.1) fun t => k (.bool t, q.2) := by
  have h := h
  simp only [ev] at h
  cases h1 : ev Φ a ρ with
  | ok p =>
    rw [h1] at h
    show Pst W H0 (ev Φ b p.2) _
    have h : Pst W H0 (ev Φ b p.2 >>= _) k := h
    cases h2 : ev Φ b p.2 with
    | ok q => rw [h2] at h; exact Pst.bind (show Pst W H0 (cmpD o p.1 q.1 >>= _) k from h)
    | exn c as => rw [h2] at h; exact h
    | stk => rw [h2] at h; exact h
  | exn c as => rw [h1] at h; exact h
  | stk => rw [h1] at h; exact h
/-- what both forms of a comparison ask -/
def CmpAsk (K : PySem.W.Frag) (Φ : Calls) (W : Wx) (o : COp) (ea eb : E) (T T2 : Ty1) (σ : L2.St) (H : Hp) (Q : Bool → Hp → Prop) : Prop :=
  ∃ H0 G ρ F, SInv K H0 G H σ ρ T F ∧ Pst W H0 (ev Φ (.cmp o ea eb) ρ) fun q => ∀ t, q.1 = .bool t → ∀ G2 H2 F2, GS H0 G G2 → (pur ea = true → Same H H2) → SInv K H0 G2 H2 σ q.2 T2 F2 → Q t H2
theorem cmp_two {a b : Expr} {op : CmpOp} {ea eb : E} (hK : X.K = K) (hu : X.A.units + 65 < cLine) (ha : PE X a (tEvD K Φ W ea T T1)) (hb : PE X b (tEvD K Φ W eb T1 T2)) (w : WOk W) (hp : pur eb = true) (hm : behindInMarks op b = false) :
    PE X (.Compare a [op] [b] pos) (fun σ H Q => CmpAsk K Φ W (cC op) ea eb T T2 σ H fun t H' => Q (.bl t) H') ∧
    PT X (.Compare a [op] [b] pos) (fun σ H Q => CmpAsk K Φ W (cC op) ea eb T T2 σ H Q) := by
  -- a dict asked for a key, or any other
  have other : ∀ (σ : L2.St) (H : Hp) (Q : V → Hp → Prop), CmpAsk K Φ W (cC op) ea eb T T2 σ H (fun t H' => Q (.bl t) H') → (∀ ρ p q kvs, ev Φ ea ρ = .ok p → ev Φ eb p.2 = .ok q → q.1 = .dict kvs → ¬ (∃ H0 G F, SInv K H0 G H σ ρ T F ∧ Pst W H0 (ev Φ (.cmp (cC op) ea eb) ρ) fun q => ∀ t, q.1 = .bool t → ∀ G2 H2 F2, GS H0 G G2 → (pur ea = true → Same H H2) → SInv K H0 G2 H2 σ q.2 T2 F2 → Q (.bl t) H2)) →
      tOp (fun x y H Q => ∃ a b t, notDict b ∧ Fz K H x a ∧ Fz K H y b ∧ cmpD (cC op) a b = .ok t ∧ Q (.bl t) H) (tEvD K Φ W ea T T1) (tEvD K Φ W eb T1 T2) σ H Q := fun σ H Q ⟨H0, G, ρ, F, I, q⟩ nd => by
    refine cmp_rd w hp ⟨H0, G, ρ, F, I, (cmp_ev q).imp w (Same.refl _) fun p e1 k => k.imp w (Same.refl _) fun r e2 k => ⟨fun kvs e => ?_, k.imp w (Same.refl _) fun t _ k G2 H2 F2 g s I2 => k t rfl G2 H2 F2 g s I2⟩⟩
    exact nd ρ p r kvs e1 e2 e ⟨H0, G, F, I, q⟩
  have dic : ∀ (n : Bool) (σ : L2.St) (H : Hp) (Q : V → Hp → Prop) (ρ : Env) (p q : D × Env) (kvs : List (D × D)), ev Φ ea ρ = .ok p → ev Φ eb p.2 = .ok q → q.1 = .dict kvs → cC op = (if n then .notin else .isin) →
      (∃ H0 G F, SInv K H0 G H σ ρ T F ∧ Pst W H0 (ev Φ (.cmp (cC op) ea eb) ρ) fun q => ∀ t, q.1 = .bool t → ∀ G2 H2 F2, GS H0 G G2 → (pur ea = true → Same H H2) → SInv K H0 G2 H2 σ q.2 T2 F2 → Q (.bl t) H2) →
      tEvD K Φ W ea T T1 σ H fun y H1 => tEvD K Φ W eb T1 T2 σ H1 fun x H2 => ∃ a o, x = .ref a ∧ DGet H2 a y o ∧ Q (.bl (if n then !o.isSome else o.isSome)) H2 := fun n σ H Q ρ p q kvs e1 e2 e3 eo ⟨H0, G, F, I, h⟩ => by
    refine two_d w hp ⟨H0, G, ρ, F, I, (cmp_ev h).imp w (Same.refl _) fun p' e1' k => k.imp w (Same.refl _) fun q' e2' k v u G2 H2 F2 g s I2 f1 f2 => ?_⟩
    rw [e1] at e1'; have z := ok_inj e1'; subst z
    rw [e2] at e2'; have z := ok_inj e2'; subst z
    rw [e3] at f2 k
    cases f2 with
    | @dct a ks _ hh fk =>
      rw [eo] at k
      by_cases hk : isKey p.1 = true
      · obtain ⟨key, ek, ev⟩ := isKey_inv hk f1
        have hl := look_is (k := key) fk
        refine ⟨a, valV ks key, rfl, by rw [ev]; exact DGet.k hh, ?_⟩
        rw [ek] at k hk
        cases n with
        | false =>
          have k : Pst W H0 (if isKey (kD key) then Res.ok (look (kD key) kvs).isSome else .stk) _ := k
          rw [if_pos hk] at k
          rw [if_neg (by decide), hl]
          exact k _ rfl G2 H2 F2 g s I2
        | true =>
          have k : Pst W H0 ((if isKey (kD key) then Res.ok (look (kD key) kvs).isSome else .stk) >>= fun r => Res.ok (!r)) _ := k
          rw [if_pos hk] at k
          rw [if_pos rfl, hl]
          exact k _ rfl G2 H2 F2 g s I2
      · exfalso
        cases n with
        | false =>
          have k : Pst W H0 (if isKey p.1 then Res.ok (look p.1 kvs).isSome else .stk) _ := k
          rw [if_neg hk] at k; exact k
        | true =>
          have k : Pst W H0 ((if isKey p.1 then Res.ok (look p.1 kvs).isSome else .stk) >>= fun r => Res.ok (!r)) _ := k
          rw [if_neg hk] at k; exact k
  have no : ∀ (σ : L2.St) (H : Hp) (Q : V → Hp → Prop) (ρ : Env) (p q : D × Env) (kvs : List (D × D)), op ≠ .In → op ≠ .NotIn → ev Φ ea ρ = .ok p → ev Φ eb p.2 = .ok q → q.1 = .dict kvs → ¬ (∃ H0 G F, SInv K H0 G H σ ρ T F ∧ Pst W H0 (ev Φ (.cmp (cC op) ea eb) ρ) fun q => ∀ t, q.1 = .bool t → ∀ G2 H2 F2, GS H0 G G2 → (pur ea = true → Same H H2) → SInv K H0 G2 H2 σ q.2 T2 F2 → Q (.bl t) H2) := fun σ H Q ρ p q kvs n1 n2 e1 e2 e3 ⟨H0, G, F, I, h⟩ => by
    have h := cmp_ev h
    rw [e1] at h
    have h : Pst W H0 (ev Φ eb p.2) _ := h
    rw [e2] at h
    have h : Pst W H0 (cmpD (cC op) p.1 q.1) _ := h
    rw [e3] at h
    revert h
    cases op <;> (try (exact absurd rfl n1)) <;> (try (exact absurd rfl n2)) <;> cases p.1 <;> simp [cC, cmpD, shq, shpB, Pst]
  have hu1 : X.A.units + 1 < cLine := by omega
  have pe := pe_cmpR (pos := pos) (cmpD_of hK hu op) ha hb hm
  have pt := pt_cmpR (pos := pos) (cmpD_of hK hu op) ha hb hm
  by_cases h1 : op = .In
  · subst h1
    constructor
    · refine (pe.orr (pe_cmp (pos := pos) (pc_din hu1 ha hb) hm)).wk fun σ H Q h => ?_
      by_cases hx : ∃ ρ p q kvs, ev Φ ea ρ = .ok p ∧ ev Φ eb p.2 = .ok q ∧ q.1 = .dict kvs ∧ (∃ H0 G F, SInv K H0 G H σ ρ T F ∧ Pst W H0 (ev Φ (.cmp (cC .In) ea eb) ρ) fun q => ∀ t, q.1 = .bool t → ∀ G2 H2 F2, GS H0 G G2 → (pur ea = true → Same H H2) → SInv K H0 G2 H2 σ q.2 T2 F2 → Q (.bl t) H2)
      · obtain ⟨ρ, p, q, kvs, e1, e2, e3, e4⟩ := hx
        exact .inr (dic false σ H Q ρ p q kvs e1 e2 e3 rfl e4)
      · exact .inl (other σ H Q h fun ρ p q kvs e1 e2 e3 e4 => hx ⟨ρ, p, q, kvs, e1, e2, e3, e4⟩)
    · refine ⟨fun pins s σ H Q I h => ?_⟩
      let Q' : V → Hp → Prop := fun x H' => ∃ k, x = .bl k ∧ Q k H'
      have h' : CmpAsk K Φ W (cC .In) ea eb T T2 σ H (fun t H' => Q' (.bl t) H') := by
        obtain ⟨H0, G, ρ, F, I, q⟩ := h
        exact ⟨H0, G, ρ, F, I, q.imp w (Same.refl _) fun a _ k t e G2 H2 F2 g s I2 => ⟨t, rfl, k t e G2 H2 F2 g s I2⟩⟩
      by_cases hx : ∃ ρ p q kvs, ev Φ ea ρ = .ok p ∧ ev Φ eb p.2 = .ok q ∧ q.1 = .dict kvs ∧ (∃ H0 G F, SInv K H0 G H σ ρ T F ∧ Pst W H0 (ev Φ (.cmp (cC .In) ea eb) ρ) fun q => ∀ t, q.1 = .bool t → ∀ G2 H2 F2, GS H0 G G2 → (pur ea = true → Same H H2) → SInv K H0 G2 H2 σ q.2 T2 F2 → Q' (.bl t) H2)
      · obtain ⟨ρ, p, q, kvs, e1, e2, e3, e4⟩ := hx
        exact (pt_cmp (pos := pos) (pc_din hu1 ha hb) hm).run pins s σ H Q I (dic false σ H Q' ρ p q kvs e1 e2 e3 rfl e4)
      · exact pt.run pins s σ H Q I (other σ H Q' h' fun ρ p q kvs e1 e2 e3 e4 => hx ⟨ρ, p, q, kvs, e1, e2, e3, e4⟩)
  · by_cases h2 : op = .NotIn
    · subst h2
      constructor
      · refine (pe.orr (pe_cmp (pos := pos) (pc_dnotin hu1 ha hb) hm)).wk fun σ H Q h => ?_
        by_cases hx : ∃ ρ p q kvs, ev Φ ea ρ = .ok p ∧ ev Φ eb p.2 = .ok q ∧ q.1 = .dict kvs ∧ (∃ H0 G F, SInv K H0 G H σ ρ T F ∧ Pst W H0 (ev Φ (.cmp (cC .NotIn) ea eb) ρ) fun q => ∀ t, q.1 = .bool t → ∀ G2 H2 F2, GS H0 G G2 → (pur ea = true → Same H H2) → SInv K H0 G2 H2 σ q.2 T2 F2 → Q (.bl t) H2)
        · obtain ⟨ρ, p, q, kvs, e1, e2, e3, e4⟩ := hx
          exact .inr (dic true σ H Q ρ p q kvs e1 e2 e3 rfl e4)
        · exact .inl (other σ H Q h fun ρ p q kvs e1 e2 e3 e4 => hx ⟨ρ, p, q, kvs, e1, e2, e3, e4⟩)
      · refine ⟨fun pins s σ H Q I h => ?_⟩
        let Q' : V → Hp → Prop := fun x H' => ∃ k, x = .bl k ∧ Q k H'
        have h' : CmpAsk K Φ W (cC .NotIn) ea eb T T2 σ H (fun t H' => Q' (.bl t) H') := by
          obtain ⟨H0, G, ρ, F, I, q⟩ := h
          exact ⟨H0, G, ρ, F, I, q.imp w (Same.refl _) fun a _ k t e G2 H2 F2 g s I2 => ⟨t, rfl, k t e G2 H2 F2 g s I2⟩⟩
        by_cases hx : ∃ ρ p q kvs, ev Φ ea ρ = .ok p ∧ ev Φ eb p.2 = .ok q ∧ q.1 = .dict kvs ∧ (∃ H0 G F, SInv K H0 G H σ ρ T F ∧ Pst W H0 (ev Φ (.cmp (cC .NotIn) ea eb) ρ) fun q => ∀ t, q.1 = .bool t → ∀ G2 H2 F2, GS H0 G G2 → (pur ea = true → Same H H2) → SInv K H0 G2 H2 σ q.2 T2 F2 → Q' (.bl t) H2)
        · obtain ⟨ρ, p, q, kvs, e1, e2, e3, e4⟩ := hx
          exact (pt_cmp (pos := pos) (pc_dnotin hu1 ha hb) hm).run pins s σ H Q I (dic true σ H Q' ρ p q kvs e1 e2 e3 rfl e4)
        · exact pt.run pins s σ H Q I (other σ H Q' h' fun ρ p q kvs e1 e2 e3 e4 => hx ⟨ρ, p, q, kvs, e1, e2, e3, e4⟩)
    · constructor
      · exact pe.wk fun σ H Q h => other σ H Q h fun ρ p q kvs e1 e2 e3 => no σ H Q ρ p q kvs h1 h2 e1 e2 e3
      · refine ⟨fun pins s σ H Q I h => ?_⟩
        let Q' : V → Hp → Prop := fun x H' => ∃ k, x = .bl k ∧ Q k H'
        have h' : CmpAsk K Φ W (cC op) ea eb T T2 σ H (fun t H' => Q' (.bl t) H') := by
          obtain ⟨H0, G, ρ, F, I, q⟩ := h
          exact ⟨H0, G, ρ, F, I, q.imp w (Same.refl _) fun a _ k t e G2 H2 F2 g s I2 => ⟨t, rfl, k t e G2 H2 F2 g s I2⟩⟩
        exact pt.run pins s σ H Q I (other σ H Q' h' fun ρ p q kvs e1 e2 e3 => no σ H Q' ρ p q kvs h1 h2 e1 e2 e3)
theorem s_cmp {a b : Expr} {op : CmpOp} {ea eb : E} (hK : X.K = K) (hu : X.A.units + 65 < cLine) (ha : PE X a (tEvD K Φ W ea T T1)) (hb : PE X b (tEvD K Φ W eb T1 T2)) (w : WOk W) (hp : pur eb = true) (hm : behindInMarks op b = false) :
    PE X (.Compare a [op] [b] pos) (tEv K Φ W (.cmp (cC op) ea eb) T T2 .fz) := by
  refine (cmp_two hK hu ha hb w hp hm).1.wk fun σ H Q ⟨H0, G, ρ, F, I, q⟩ => ⟨H0, G, ρ, F, I, q.imp w (Same.refl _) fun p _ k t e G2 H2 F2 g s I2 => ?_⟩
  refine k _ G2 H2 F2 [] g (fun z => s ?_) I2 ⟨rfl, by rw [e]; exact .bl t⟩ (.nil _ _)
  simp only [pur, Bool.and_eq_true] at z; exact z.1
theorem t_cmp {a b : Expr} {op : CmpOp} {ea eb : E} (hK : X.K = K) (hu : X.A.units + 65 < cLine) (ha : PE X a (tEvD K Φ W ea T T1)) (hb : PE X b (tEvD K Φ W eb T1 T2)) (w : WOk W) (hp : pur eb = true) (hm : behindInMarks op b = false) :
    PT X (.Compare a [op] [b] pos) (tTst K Φ W (.cmp (cC op) ea eb) T T2) := by
  refine (cmp_two hK hu ha hb w hp hm).2.wk fun σ H Q ⟨H0, G, ρ, F, I, q⟩ => ⟨H0, G, ρ, F, I, q.imp w (Same.refl _) fun p _ k t e G2 H2 F2 g s I2 => ?_⟩
  have k := k G2 H2 F2 g (fun z => s (by simp only [pur, Bool.and_eq_true] at z; exact z.1)) I2
  rw [e] at k; exact k
end
end Rf
end

section
/-! Rf2g: truth, and, or, not, a if c else b, subscripts, slices, displays, calls. -/
namespace Rf
open PySem PySem.Spec PyProof.Rows L2
section
variable {K : PySem.W.Frag} {Φ : Calls} {W : Wx} {X : Cx} {T T' T1 T2 T3 : Ty1} {pos : Pos} {t u : Ow} {H0 G H : Hp}

/-! tests -/
theorem t_val {x : Expr} {e : E} (hK : X.K = K) (h : PE X x (tEvD K Φ W e T T')) (w : WOk W) (he : ∀ whole, isTrue x X.env whole = (do let v ← whole; standAt x.pos; holding [v] (truthy v))) : PT X x (tTst K Φ W e T T') := by
  refine (pt_truth h he).wk fun σ H Q ⟨H0, G, ρ, F, I, q⟩ => ⟨H0, G, ρ, F, I, q.imp w (Same.refl _) fun p _ k v G' H' F' g s I' f => ?_⟩
  exact ⟨truth p.1, by rw [hK]; exact f.tru, k G' H' F' g s I'⟩
theorem and_ev {a b : E} {ρ : Env} {H0 : Hp} {k : D × Env → Prop} (h : Pst W H0 (ev Φ (.and a b) ρ) k) : Pst W H0 (ev Φ a ρ) fun p => if truth p.1 = true then Pst W H0 (ev Φ b p.2) k else k p := by
  simp only [ev] at h
  refine h.bind.map fun p _ h => ?_
  by_cases ht : truth p.1 = true
  · rw [if_pos ht] at h ⊢; exact h
  · rw [if_neg ht] at h ⊢; exact h
theorem or_ev {a b : E} {ρ : Env} {H0 : Hp} {k : D × Env → Prop} (h : Pst W H0 (ev Φ (.or a b) ρ) k) : Pst W H0 (ev Φ a ρ) fun p => if truth p.1 = true then k p else Pst W H0 (ev Φ b p.2) k := by
  simp only [ev] at h
  refine h.bind.map fun p _ h => ?_
  by_cases ht : truth p.1 = true
  · rw [if_pos ht] at h ⊢; exact h
  · rw [if_neg ht] at h ⊢; exact h
theorem t_and {a b : Expr} {r : List Expr} {ea eb : E} (ha : PT X a (tTst K Φ W ea T T1)) (hb : PW X (.BoolOp .And (b :: r) pos) (tTst K Φ W eb T1 T1)) (w : WOk W) : PW X (.BoolOp .And (a :: b :: r) pos) (tTst K Φ W (.and ea eb) T T1) := by
  refine (pw_and ha hb).wk fun σ H Q ⟨H0, G, ρ, F, I, q⟩ => ⟨H0, G, ρ, F, I, (and_ev q).imp w (Same.refl _) fun p _ k G1 H1 F1 g1 s1 I1 => ?_⟩
  by_cases ht : truth p.1 = true
  · rw [if_pos ht] at k ⊢
    refine ⟨H0, G1, p.2, F1, I1, k.imp w (Same.refl _) fun q _ k G2 H2 F2 g2 s2 I2 => k G2 H2 F2 (g1.trans g2) (fun z => ?_) I2⟩
    simp only [pur, Bool.and_eq_true] at z
    exact (s1 z.1).trans (s2 z.2)
  · rw [if_neg ht] at k ⊢
    have e : truth p.1 = false := by simpa using ht
    have k := k G1 H1 F1 g1 (fun z => s1 (by simp only [pur, Bool.and_eq_true] at z; exact z.1)) I1
    rw [e] at k; exact k
theorem t_or {a b : Expr} {r : List Expr} {ea eb : E} (ha : PT X a (tTst K Φ W ea T T1)) (hb : PW X (.BoolOp .Or (b :: r) pos) (tTst K Φ W eb T1 T1)) (w : WOk W) : PW X (.BoolOp .Or (a :: b :: r) pos) (tTst K Φ W (.or ea eb) T T1) := by
  refine (pw_or ha hb).wk fun σ H Q ⟨H0, G, ρ, F, I, q⟩ => ⟨H0, G, ρ, F, I, (or_ev q).imp w (Same.refl _) fun p _ k G1 H1 F1 g1 s1 I1 => ?_⟩
  by_cases ht : truth p.1 = true
  · rw [if_pos ht] at k ⊢
    have k := k G1 H1 F1 g1 (fun z => s1 (by simp only [pur, Bool.and_eq_true] at z; exact z.1)) I1
    rw [ht] at k; exact k
  · rw [if_neg ht] at k ⊢
    refine ⟨H0, G1, p.2, F1, I1, k.imp w (Same.refl _) fun q _ k G2 H2 F2 g2 s2 I2 => k G2 H2 F2 (g1.trans g2) (fun z => ?_) I2⟩
    simp only [pur, Bool.and_eq_true] at z
    exact (s1 z.1).trans (s2 z.2)
theorem not_ev {a : E} {ρ : Env} {H0 : Hp} {k : D × Env → Prop} (h : Pst W H0 (ev Φ (.not a) ρ) k) : Pst W H0 (ev Φ a ρ) fun p => k (.bool (!truth p.1), p.2) := by
  simp only [ev] at h
  exact h.bind.map fun p _ h => h
theorem t_not {a : Expr} {ea : E} (ha : PT X a (tTst K Φ W ea T T1)) (w : WOk W) : PT X (.UnaryOp .Not a pos) (tTst K Φ W (.not ea) T T1) := by
  refine (pt_not ha).wk fun σ H Q ⟨H0, G, ρ, F, I, q⟩ => ⟨H0, G, ρ, F, I, (not_ev q).imp w (Same.refl _) fun p _ k G1 H1 F1 g1 s1 I1 => ?_⟩
  exact k G1 H1 F1 g1 s1 I1
/-! values -/
theorem s_not {a : Expr} {ea : E} (hK : X.K = K) (ha : PE X a (tEvD K Φ W ea T T1)) (w : WOk W) : PE X (.UnaryOp .Not a pos) (tEv K Φ W (.not ea) T T1 .fz) := by
  refine (pe_notT ha).wk fun σ H Q ⟨H0, G, ρ, F, I, q⟩ => ⟨H0, G, ρ, F, I, (not_ev q).imp w (Same.refl _) fun p _ k v G1 H1 F1 g1 s1 I1 f => ?_⟩
  exact ⟨truth p.1, by rw [hK]; exact f.tru, k _ G1 H1 F1 [] g1 s1 I1 ⟨rfl, .bl _⟩ (.nil _ _)⟩
theorem s_neg {a : Expr} {ea : E} (ha : PE X a (tEvD K Φ W ea T T1)) (w : WOk W) : PE X (.UnaryOp .USub a pos) (tEv K Φ W (.neg ea) T T1 .fz) := by
  refine (pe_un un_neg ha).wk fun σ H Q ⟨H0, G, ρ, F, I, q⟩ => ⟨H0, G, ρ, F, I, Pst.imp (k := fun p => ∃ i, p.1 = .int i ∧ ∀ v G' H' F' Fv, GS H0 G G' → (pur (.neg ea) = true → Same H H') → SInv K H0 G' H' σ p.2 T1 F' → R K G' H' .fz v (.int (-i)) Fv → Own H0 F' Fv → Q v H') w (Same.refl _) ?_ fun p _ ⟨i, e, k⟩ v G1 H1 F1 g1 s1 I1 f => ?_⟩
  · simp only [ev] at q
    refine q.bind.map fun p _ h => ?_
    obtain ⟨d, ρ'⟩ := p
    cases d <;> first | exact ⟨_, rfl, h⟩ | exact h.elim
  · rw [e] at f
    cases f
    exact ⟨i, rfl, k _ G1 H1 F1 [] g1 s1 I1 ⟨rfl, .int _⟩ (.nil _ _)⟩
theorem s_and {a b : Expr} {r : List Expr} {ea eb : E} (hK : X.K = K) (ha : PE X a (tEv K Φ W ea T T1 .fz)) (hb : PE X (.BoolOp .And (b :: r) pos) (tEv K Φ W eb T1 T1 .fz)) (w : WOk W) : PE X (.BoolOp .And (a :: b :: r) pos) (tEv K Φ W (.and ea eb) T T1 .fz) := by
  refine (pe_andT ha hb).wk fun σ H Q ⟨H0, G, ρ, F, I, q⟩ => ⟨H0, G, ρ, F, I, (and_ev q).imp w (Same.refl _) fun p _ k v G1 H1 F1 Fv g1 s1 I1 r1 o1 => ?_⟩
  refine ⟨truth p.1, by rw [hK]; exact (r1.all I1.gh).tru, ?_⟩
  by_cases ht : truth p.1 = true
  · rw [if_pos ht] at k ⊢
    refine ⟨H0, G1, p.2, F1, I1, k.imp w (Same.refl _) fun q _ k v G2 H2 F2 Fv g2 s2 I2 r2 o2 => k v G2 H2 F2 Fv (g1.trans g2) (fun z => ?_) I2 r2 o2⟩
    simp only [pur, Bool.and_eq_true] at z
    exact (s1 z.1).trans (s2 z.2)
  · rw [if_neg ht] at k ⊢
    exact k v G1 H1 F1 Fv g1 (fun z => s1 (by simp only [pur, Bool.and_eq_true] at z; exact z.1)) I1 r1 o1
theorem s_or {a b : Expr} {r : List Expr} {ea eb : E} (hK : X.K = K) (ha : PE X a (tEv K Φ W ea T T1 .fz)) (hb : PE X (.BoolOp .Or (b :: r) pos) (tEv K Φ W eb T1 T1 .fz)) (w : WOk W) : PE X (.BoolOp .Or (a :: b :: r) pos) (tEv K Φ W (.or ea eb) T T1 .fz) := by
  refine (pe_orT ha hb).wk fun σ H Q ⟨H0, G, ρ, F, I, q⟩ => ⟨H0, G, ρ, F, I, (or_ev q).imp w (Same.refl _) fun p _ k v G1 H1 F1 Fv g1 s1 I1 r1 o1 => ?_⟩
  refine ⟨truth p.1, by rw [hK]; exact (r1.all I1.gh).tru, ?_⟩
  by_cases ht : truth p.1 = true
  · rw [if_pos ht] at k ⊢
    exact k v G1 H1 F1 Fv g1 (fun z => s1 (by simp only [pur, Bool.and_eq_true] at z; exact z.1)) I1 r1 o1
  · rw [if_neg ht] at k ⊢
    refine ⟨H0, G1, p.2, F1, I1, k.imp w (Same.refl _) fun q _ k v G2 H2 F2 Fv g2 s2 I2 r2 o2 => k v G2 H2 F2 Fv (g1.trans g2) (fun z => ?_) I2 r2 o2⟩
    simp only [pur, Bool.and_eq_true] at z
    exact (s1 z.1).trans (s2 z.2)
/-- a value taken as another type -/
theorem R.weakT {F : Nat → List Addr} {σ : L2.St} {ρ : Env} {v : V} {d : D} {Fv : List Addr} (I : SInv K H0 G H σ ρ T F) (r : R K G H t v d Fv) (o : Own H0 F Fv) (h : sub1 t u = true) :
    ∃ G' Fw, GS H0 G G' ∧ SInv K H0 G' H σ ρ T F ∧ R K G' H u v d Fw ∧ Own H0 F Fw := by
  obtain ⟨A, F', h1, h2, h3, h4⟩ := r.weak1 I.gh h o.nd
  refine ⟨frzG G H A, F', ⟨frzG_same I.gh A, fun a q1 q2 => frzG_none (fun q => ?_) q2⟩, I.mono (frzG_same I.gh A) (frzG_le I.gh A) (Same.refl H) (fun i a ha => frzG_none (fun q => o.dj i a (h1 a q) ha) (I.fr i a ha).2.1), h4 A (fun _ q => q) (fun a ha => (h2 a ha).2), h3, fun a ha => o.fr a (h2 a ha).1, fun i a ha => o.dj i a (h2 a ha).1⟩
  rw [o.fr a (h1 a q)] at q1; cases q1
theorem ite_ev {c a b : E} {ρ : Env} {H0 : Hp} {k : D × Env → Prop} (h : Pst W H0 (ev Φ (.ite c a b) ρ) k) : Pst W H0 (ev Φ c ρ) fun p => if truth p.1 = true then Pst W H0 (ev Φ a p.2) k else Pst W H0 (ev Φ b p.2) k := by
  simp only [ev] at h
  refine h.bind.map fun p _ h => ?_
  by_cases ht : truth p.1 = true
  · rw [if_pos ht] at h ⊢; exact h
  · rw [if_neg ht] at h ⊢; exact h
theorem s_ite {c a b : Expr} {ec ea eb : E} {s : Ow} (hc : PT X c (tTst K Φ W ec T T1)) (ha : PE X a (tEv K Φ W ea T1 T2 t)) (hb : PE X b (tEv K Φ W eb T1 T3 u)) (w : WOk W) (h1 : sub1 t s = true) (h2 : sub1 u s = true) (h3 : subs T2 T' = true) (h4 : subs T3 T' = true) :
    PE X (.IfExp c a b pos) (tEv K Φ W (.ite ec ea eb) T T' s) := by
  refine (pe_ifExp hc ha hb).wk fun σ H Q ⟨H0, G, ρ, F, I, q⟩ => ⟨H0, G, ρ, F, I, (ite_ev q).imp w (Same.refl _) fun p _ k G1 H1 F1 g1 s1 I1 => ?_⟩
  have one : ∀ {e : E} {Tx : Ty1} {tx : Ow}, (pur (.ite ec ea eb) = true → pur e = true) → sub1 tx s = true → subs Tx T' = true → Pst W H0 (ev Φ e p.2) (fun q => ∀ v G' H' F' Fv, GS H0 G G' → (pur (.ite ec ea eb) = true → Same H H') → SInv K H0 G' H' σ q.2 T' F' → R K G' H' s v q.1 Fv → Own H0 F' Fv → Q v H') →
      tEv K Φ W e T1 Tx tx σ H1 Q := fun hp h1 h3 k => ⟨H0, G1, p.2, F1, I1, k.imp w (Same.refl _) fun q _ k v G2 H2 F2 Fv g2 s2 I2 r2 o2 => by
    -- hold the value apart while the slots are weakened
    obtain ⟨G3, F3, g3, I3, l3, n3⟩ := I2.weak h3
    have r3 := r2.mono (H' := H2) g3.same (fun a ha => by rw [n3 a fun i q => o2.dj i a ha q]; exact (r2.gn a ha).1) fun _ _ => rfl
    have o3 : Own H0 F3 Fv := ⟨o2.nd, o2.fr, fun i a ha q => o2.dj i a ha (l3 i a q)⟩
    obtain ⟨G4, Fw, g4, I4, r4, o4⟩ := R.weakT I3 r3 o3 h1
    refine k v G4 H2 F3 Fw (((g1.trans g2).trans g3).trans g4) (fun z => ?_) I4 r4 o4
    have z' := z
    simp only [pur, Bool.and_eq_true] at z'
    exact (s1 z'.1.1).trans (s2 (hp z))⟩
  show if truth p.1 = true then _ else _
  by_cases ht : truth p.1 = true
  · rw [if_pos ht] at k ⊢
    exact one (fun z => by simp only [pur, Bool.and_eq_true] at z; exact z.1.2) h1 h3 k
  · rw [if_neg ht] at k ⊢
    exact one (fun z => by simp only [pur, Bool.and_eq_true] at z; exact z.2) h2 h4 k
end
end Rf
end

section
/-! Rf2h: paths, subscripts, slices, displays, calls. -/
namespace Rf
open PySem PySem.Spec PyProof.Rows L2
theorem bind_ok_inv {α β : Type} {r : Res α} {f : α → Res β} {b : β} (h : (r >>= f) = .ok b) : ∃ a, r = .ok a ∧ f a = .ok b := by
  cases r with
  | ok a => exact ⟨a, rfl, h⟩
  | exn c as => cases h
  | stk => cases h
/-- what changes nothing leaves the slots -/
theorem ev_pur {Φ : Calls} : ∀ (e : E) {ρ : Env} {p : D × Env}, pur e = true → ev Φ e ρ = .ok p → p.2 = ρ
  | .nil, _, _, _, h => by simp only [ev] at h; rw [← ok_inj h]
  | .cons e es, ρ, p, hp, h => by
    simp only [pur, Bool.and_eq_true] at hp
    simp only [ev] at h
    obtain ⟨⟨x, ρ1⟩, h1, h⟩ := bind_ok_inv h
    obtain ⟨⟨y, ρ2⟩, h2, h⟩ := bind_ok_inv h
    have e1 := ev_pur e hp.1 h1
    have e2 := ev_pur es hp.2 h2
    simp only at e1 e2
    cases y <;> first | (rw [← ok_inj h]; exact e2.trans e1) | cases h
  | .var i, _, _, _, h => by simp only [ev] at h; obtain ⟨d, _, h⟩ := bind_ok_inv h; rw [← ok_inj h]
  | .lit _, _, _, _, h => by simp only [ev] at h; rw [← ok_inj h]
  | .tup es, _, _, hp, h => by simp only [ev] at h; exact ev_pur es hp h
  | .lst es, _, _, hp, h => by
    simp only [ev] at h
    obtain ⟨⟨y, ρ2⟩, h2, h⟩ := bind_ok_inv h
    have e2 := ev_pur es hp h2
    cases y <;> first | (rw [← ok_inj h]; exact e2) | cases h
  | .dic a b, _, _, hp, h => by
    simp only [pur, Bool.and_eq_true] at hp
    simp only [ev] at h
    obtain ⟨⟨x, ρ1⟩, h1, h⟩ := bind_ok_inv h
    obtain ⟨⟨y, ρ2⟩, h2, h⟩ := bind_ok_inv h
    have e1 := ev_pur a hp.1 h1
    have e2 := ev_pur b hp.2 h2
    simp only at e1 e2
    cases x <;> cases y <;> first | (obtain ⟨_, _, h⟩ := bind_ok_inv h; rw [← ok_inj h]; exact e2.trans e1) | cases h
  | .neg a, _, _, hp, h => by
    simp only [ev] at h
    obtain ⟨⟨y, ρ2⟩, h2, h⟩ := bind_ok_inv h
    have e2 := ev_pur a hp h2
    cases y <;> first | (rw [← ok_inj h]; exact e2) | cases h
  | .not a, _, _, hp, h => by
    simp only [ev] at h
    obtain ⟨⟨y, ρ2⟩, h2, h⟩ := bind_ok_inv h
    rw [← ok_inj h]
    exact (ev_pur a hp h2 :)
  | .bin o a b, _, _, hp, h => by
    simp only [pur, Bool.and_eq_true] at hp
    simp only [ev] at h
    obtain ⟨⟨x, ρ1⟩, h1, h⟩ := bind_ok_inv h
    obtain ⟨⟨y, ρ2⟩, h2, h⟩ := bind_ok_inv h
    obtain ⟨d, _, h⟩ := bind_ok_inv h
    rw [← ok_inj h]
    exact (ev_pur b hp.2 h2).trans (ev_pur a hp.1 h1)
  | .cmp o a b, _, _, hp, h => by
    simp only [pur, Bool.and_eq_true] at hp
    simp only [ev] at h
    obtain ⟨⟨x, ρ1⟩, h1, h⟩ := bind_ok_inv h
    obtain ⟨⟨y, ρ2⟩, h2, h⟩ := bind_ok_inv h
    obtain ⟨d, _, h⟩ := bind_ok_inv h
    rw [← ok_inj h]
    exact (ev_pur b hp.2 h2).trans (ev_pur a hp.1 h1)
  | .cmp2 o o' a b c, _, _, hp, h => by
    simp only [pur, Bool.and_eq_true] at hp
    simp only [ev] at h
    obtain ⟨⟨x, ρ1⟩, h1, h⟩ := bind_ok_inv h
    obtain ⟨⟨y, ρ2⟩, h2, h⟩ := bind_ok_inv h
    obtain ⟨t, _, h⟩ := bind_ok_inv h
    have e2 := (ev_pur b hp.1.2 h2).trans (ev_pur a hp.1.1 h1)
    split at h
    · obtain ⟨⟨z, ρ3⟩, h3, h⟩ := bind_ok_inv h
      obtain ⟨d, _, h⟩ := bind_ok_inv h
      rw [← ok_inj h]
      exact (ev_pur c hp.2 h3).trans e2
    · rw [← ok_inj h]; exact e2
  | .and a b, _, _, hp, h => by
    simp only [pur, Bool.and_eq_true] at hp
    simp only [ev] at h
    obtain ⟨⟨x, ρ1⟩, h1, h⟩ := bind_ok_inv h
    have e1 := ev_pur a hp.1 h1
    simp only at h
    split at h
    · exact (ev_pur b hp.2 h).trans e1
    · rw [← ok_inj h]; exact e1
  | .or a b, _, _, hp, h => by
    simp only [pur, Bool.and_eq_true] at hp
    simp only [ev] at h
    obtain ⟨⟨x, ρ1⟩, h1, h⟩ := bind_ok_inv h
    have e1 := ev_pur a hp.1 h1
    simp only at h
    split at h
    · rw [← ok_inj h]; exact e1
    · exact (ev_pur b hp.2 h).trans e1
  | .ite c a b, _, _, hp, h => by
    simp only [pur, Bool.and_eq_true] at hp
    simp only [ev] at h
    obtain ⟨⟨x, ρ1⟩, h1, h⟩ := bind_ok_inv h
    have e1 := ev_pur c hp.1.1 h1
    simp only at h
    split at h
    · exact (ev_pur a hp.1.2 h).trans e1
    · exact (ev_pur b hp.2 h).trans e1
  | .sub a i, _, _, hp, h => by
    simp only [pur, Bool.and_eq_true] at hp
    simp only [ev] at h
    obtain ⟨⟨x, ρ1⟩, h1, h⟩ := bind_ok_inv h
    obtain ⟨⟨y, ρ2⟩, h2, h⟩ := bind_ok_inv h
    obtain ⟨d, _, h⟩ := bind_ok_inv h
    rw [← ok_inj h]
    exact (ev_pur i hp.2 h2).trans (ev_pur a hp.1 h1)
  | .slc a l u, _, _, hp, h => by
    simp only [pur, Bool.and_eq_true] at hp
    simp only [ev] at h
    obtain ⟨⟨x, ρ1⟩, h1, h⟩ := bind_ok_inv h
    obtain ⟨⟨y, ρ2⟩, h2, h⟩ := bind_ok_inv h
    obtain ⟨_, _, h⟩ := bind_ok_inv h
    obtain ⟨⟨z, ρ3⟩, h3, h⟩ := bind_ok_inv h
    obtain ⟨_, _, h⟩ := bind_ok_inv h
    obtain ⟨d, _, h⟩ := bind_ok_inv h
    rw [← ok_inj h]
    exact (ev_pur u hp.2 h3).trans ((ev_pur l hp.1.2 h2).trans (ev_pur a hp.1.1 h1))
  | .call f es, _, _, hp, h => by
    simp only [ev] at h
    obtain ⟨⟨x, ρ1⟩, h1, h⟩ := bind_ok_inv h
    obtain ⟨_, _, h⟩ := bind_ok_inv h
    obtain ⟨_, _, h⟩ := bind_ok_inv h
    rw [← ok_inj h]
    exact (ev_pur es hp h1 :)
  | .bi f es, _, _, hp, h => by
    simp only [ev] at h
    obtain ⟨⟨x, ρ1⟩, h1, h⟩ := bind_ok_inv h
    obtain ⟨_, _, h⟩ := bind_ok_inv h
    obtain ⟨_, _, h⟩ := bind_ok_inv h
    rw [← ok_inj h]
    exact (ev_pur es hp h1 :)
  | .isi a _, _, _, hp, h => by
    simp only [ev] at h
    obtain ⟨⟨x, ρ1⟩, h1, h⟩ := bind_ok_inv h
    obtain ⟨_, _, h⟩ := bind_ok_inv h
    rw [← ok_inj h]
    exact (ev_pur a hp h1 :)
  | .mt m o es, _, _, hp, h => by
    simp only [pur, Bool.and_eq_true, Bool.not_eq_true'] at hp
    simp only [ev] at h
    obtain ⟨⟨x, ρ1⟩, h1, h⟩ := bind_ok_inv h
    simp only at h
    by_cases hx : mtOn m x = true
    · rw [if_pos hx] at h
      obtain ⟨⟨y, ρ2⟩, h2, h⟩ := bind_ok_inv h
      obtain ⟨_, _, h⟩ := bind_ok_inv h
      rw [if_neg (by rw [hp.1.1]; decide)] at h
      obtain ⟨_, _, h⟩ := bind_ok_inv h
      rw [← ok_inj h]
      exact (ev_pur es hp.2 h2).trans (ev_pur o hp.1.2 h1)
    · rw [if_neg hx] at h; cases h
  | .comp own tg it c e, _, _, hp, h => by
    simp only [pur, Bool.and_eq_true] at hp
    simp only [ev] at h
    obtain ⟨⟨x, ρ1⟩, h1, h⟩ := bind_ok_inv h
    obtain ⟨_, _, h⟩ := bind_ok_inv h
    split at h
    · obtain ⟨_, _, h⟩ := bind_ok_inv h
      rw [← ok_inj h]
      exact (ev_pur it hp.1.1 h1 :)
    · cases h
  | .dcomp own tg it c e, _, _, hp, h => by
    simp only [pur, Bool.and_eq_true] at hp
    simp only [ev] at h
    obtain ⟨⟨x, ρ1⟩, h1, h⟩ := bind_ok_inv h
    obtain ⟨_, _, h⟩ := bind_ok_inv h
    obtain ⟨_, _, h⟩ := bind_ok_inv h
    rw [← ok_inj h]
    exact (ev_pur it hp.1.1 h1 :)
/-- the slot a path begins at holds something -/
theorem root_ev {Φ : Calls} : ∀ (e : E) {ρ : Env} {p : D × Env} {i : Nat}, rootE e = some i → ev Φ e ρ = .ok p → ∃ d, ρ[i]? = some (some d)
  | .var j, ρ, p, i, hr, h => by
    cases hr
    simp only [ev] at h
    obtain ⟨d, hd, _⟩ := bind_ok_inv h
    unfold getS at hd
    split at hd
    · rename_i d e; exact ⟨d, e⟩
    · cases hd
  | .sub a k, ρ, p, i, hr, h => by
    simp only [ev] at h
    obtain ⟨q, h1, _⟩ := bind_ok_inv h
    exact root_ev a hr h1
  | .nil, _, _, _, hr, _ => by cases hr
  | .cons _ _, _, _, _, hr, _ => by cases hr
  | .lit _, _, _, _, hr, _ => by cases hr
  | .tup _, _, _, _, hr, _ => by cases hr
  | .lst _, _, _, _, hr, _ => by cases hr
  | .dic _ _, _, _, _, hr, _ => by cases hr
  | .neg _, _, _, _, hr, _ => by cases hr
  | .not _, _, _, _, hr, _ => by cases hr
  | .bin _ _ _, _, _, _, hr, _ => by cases hr
  | .cmp _ _ _, _, _, _, hr, _ => by cases hr
  | .cmp2 _ _ _ _ _, _, _, _, hr, _ => by cases hr
  | .and _ _, _, _, _, hr, _ => by cases hr
  | .or _ _, _, _, _, hr, _ => by cases hr
  | .ite _ _ _, _, _, _, hr, _ => by cases hr
  | .slc _ _ _, _, _, _, hr, _ => by cases hr
  | .call _ _, _, _, _, hr, _ => by cases hr
  | .bi _ _, _, _, _, hr, _ => by cases hr
  | .isi _ _, _, _, _, hr, _ => by cases hr
  | .mt _ _ _, _, _, _, hr, _ => by cases hr
  | .comp _ _ _ _ _, _, _, _, hr, _ => by cases hr
  | .dcomp _ _ _ _ _, _, _, _, hr, _ => by cases hr

section
variable {K : PySem.W.Frag} {Φ : Calls} {W : Wx} {X : Cx} {T T' T1 T2 T3 : Ty1} {pos : Pos} {t u : Ow} {H0 G H : Hp}
theorem s_varC {x : Str} {i : Nat} (h : PE X (.Name x pos) (tVar i)) (e : T[i]? = some t) (hs : sub1 t u = true) (hf : flatT u = true) : PE X (.Name x pos) (tEvC K Φ W (.var i) T (T.set i u)) := by
  refine h.wk fun σ H Q ⟨H0, G, ρ, F, I, q⟩ => ?_
  obtain ⟨d, e2, q⟩ := var_ev q
  obtain ⟨G', F', g, I', _, _, _⟩ := I.weakAt e hs
  have hi : i < T.length := (List.getElem?_eq_some_iff.mp e).1
  obtain ⟨v, e3, r⟩ := I'.sl i u d (by rw [List.getElem?_set_self hi]) (by rintro rfl; simp [flatT] at hf) e2
  exact ⟨v, e3, q v G' H F' g (fun _ => Same.refl H) I' (r.flat hf)⟩
theorem s_pathC {x : Expr} {e : E} {i : Nat} {t0 : Ow} (h : PE X x (tEvB K Φ W e T T' t)) (w : WOk W) (hr : rootE e = some i) (e0 : T'[i]? = some t0) (hs : sub1 t0 .fz = true) (hp : pur e = true) : PE X x (tEvC K Φ W e T (T'.set i .fz)) := by
  refine h.wk fun σ H Q ⟨H0, G, ρ, F, I, q⟩ => ⟨H0, G, ρ, F, I, q.imp w (Same.refl _) fun p e1 k v G1 H1 F1 Fv g1 s1 I1 r1 _ o1 => ?_⟩
  obtain ⟨d, hd⟩ := root_ev e hr e1
  have hρ := ev_pur e hp e1
  obtain ⟨G2, F2, g2, I2, l2, n2, c2⟩ := I1.weakAt e0 hs
  refine k v G2 H1 F2 (g1.trans g2) s1 I2 (.inl ?_)
  refine (r1.frz I1.gh Fv fun _ q => q).same fun a o ho => ?_
  unfold frzG at ho
  split at ho
  · rename_i ha
    rw [c2 ⟨rfl, d, by rw [hρ]; exact hd⟩ a (o1 i hr a ha)]; exact ho
  · exact g2.same a o ho
/-- a look at one, then another -/
theorem two_cd {a b : E} {σ : L2.St} {H : Hp} {Q : V → V → Hp → Prop} (w : WOk W) (hp : pur b = true)
    (h : ∃ H0 G ρ F, SInv K H0 G H σ ρ T F ∧ Pst W H0 (ev Φ a ρ) fun p => Pst W H0 (ev Φ b p.2) fun q => ∀ v u G2 H2 F2, GS H0 G G2 → (pur a = true → Same H H2) → SInv K H0 G2 H2 σ q.2 T2 F2 → RFl K G2 H2 v p.1 → Fz K H2 u q.1 → Q v u H2) :
    tEvC K Φ W a T T1 σ H fun x H1 => tEvD K Φ W b T1 T2 σ H1 fun y H2 => Q x y H2 := by
  obtain ⟨H0, G, ρ, F, I, h⟩ := h
  refine ⟨H0, G, ρ, F, I, h.imp w (Same.refl H0) fun p _ h1 v G1 H1 F1 g1 s1 I1 r1 => ⟨H0, G1, p.2, F1, I1, h1.imp w (Same.refl H0) fun q _ h2 u G2 H2 F2 g2 s2 I2 r2 => ?_⟩⟩
  exact h2 v u G2 H2 F2 (g1.trans g2) (fun z => (s1 z).trans (s2 hp)) I2 (r1.same g2.same (s2 hp)) r2
theorem sub_ev {a b : E} {ρ : Env} {H0 : Hp} {k : D × Env → Prop} (h : Pst W H0 (ev Φ (.sub a b) ρ) k) :
    Pst W H0 (ev Φ a ρ) fun p => Pst W H0 (ev Φ b p.2) fun q => Pst W H0 (subD p.1 q.1) fun d => k (d, q.2) := by
  have h := h
  simp only [ev] at h
  cases h1 : ev Φ a ρ with
  | ok p =>
    rw [h1] at h
    show Pst W H0 (ev Φ b p.2) _
    have h : Pst W H0 (ev Φ b p.2 >>= _) k := h
    cases h2 : ev Φ b p.2 with
    | ok q => rw [h2] at h; exact Pst.bind (show Pst W H0 (subD p.1 q.1 >>= _) k from h)
    | exn c as => rw [h2] at h; exact h
    | stk => rw [h2] at h; exact h
  | exn c as => rw [h1] at h; exact h
  | stk => rw [h1] at h; exact h
theorem atL_get {xs : List V} {ds : List D} {i : Int} {d : D} (f : FzA K G xs ds) (h : atL ds i = some d) : ∃ v, atI xs i = some v ∧ Fz K G v d := by
  unfold atL atI at h
  unfold atI
  rw [f.len]
  cases e : L2.ixN ds.length i with
  | none => rw [e] at h; cases h
  | some j =>
    rw [e] at h
    exact f.get h
theorem s_sub {a b : Expr} {ea eb : E} (hK : X.K = K) (hu : X.A.units + 65 < cLine) (ha : PE X a (tEvC K Φ W ea T T1)) (hb : PE X b (tEvD K Φ W eb T1 T2)) (w : WOk W) (hp : pur eb = true) (hs : PlainIx b) : PE X (.Subscript a b pos) (tEv K Φ W (.sub ea eb) T T2 .fz) := by
  refine ((pe_ix (pos := pos) ix_seq ha hb hs).orr (pe_dget (pos := pos) (by omega) ha hb hs)).wk fun σ H Q ⟨H0, G, ρ, F, I, q⟩ => ?_
  have pp : ∀ {H2 : Hp}, (pur ea = true → Same H H2) → pur (.sub ea eb) = true → Same H H2 := fun s z => by
    simp only [pur, Bool.and_eq_true] at z
    exact s z.1
  have q := sub_ev q
  by_cases hx : ∃ p kvs, ev Φ ea ρ = .ok p ∧ p.1 = .dict kvs
  · obtain ⟨p0, kvs, e1, e2⟩ := hx
    refine .inr (two_cd w hp ⟨H0, G, ρ, F, I, q.imp w (Same.refl _) fun p e1' k => k.imp w (Same.refl _) fun r e3 k v u G2 H2 F2 g s I2 f1 f2 => ?_⟩)
    rw [e1] at e1'; have z := ok_inj e1'; subst z
    rw [e2] at f1 k
    obtain ⟨x, ks, rfl, hh, fk⟩ := f1.dict I2.gh
    by_cases hk : isKey r.1 = true
    · obtain ⟨key, ek, rfl⟩ := isKey_inv hk f2
      rw [ek] at k hk
      have k : Pst W H0 (if isKey (kD key) then (match look (kD key) kvs with | some v => Res.ok v | none => .stk) else .stk) _ := k
      rw [if_pos hk] at k
      cases hl : look (kD key) kvs with
      | none => rw [hl] at k; exact k.elim
      | some d =>
        rw [hl] at k
        obtain ⟨v, h1, h2⟩ := look_some fk hl
        exact ⟨x, v, rfl, by rw [← h1]; exact DGet.k hh, k v G2 H2 F2 [] g (pp s) I2 ⟨rfl, h2⟩ (.nil _ _)⟩
    · exfalso
      have k : Pst W H0 (if isKey r.1 then (match look r.1 kvs with | some v => Res.ok v | none => .stk) else .stk) _ := k
      rw [if_neg hk] at k; exact k
  · refine .inl (two_cd w hp ⟨H0, G, ρ, F, I, q.imp w (Same.refl _) fun p e1 k => k.imp w (Same.refl _) fun r e3 k v u G2 H2 F2 g s I2 f1 f2 => ?_⟩)
    have done : ∀ {d : D} {y : V}, Fz K G2 y d → Pst W H0 (Res.ok d) (fun d => ∀ v G' H' F' Fv, GS H0 G G' → (pur (.sub ea eb) = true → Same H H') → SInv K H0 G' H' σ r.2 T2 F' → R K G' H' .fz v d Fv → Own H0 F' Fv → Q v H') → Q y H2 := fun f k => k _ G2 H2 F2 [] g (pp s) I2 ⟨rfl, f⟩ (.nil _ _)
    obtain ⟨d, ρ1⟩ := p
    obtain ⟨c, ρ2⟩ := r
    cases d with
    | list ds =>
      cases c <;> try (exact (k : False).elim)
      rename_i i
      cases f2
      obtain ⟨x, xs, rfl, hh, fa⟩ := f1.list I2.gh
      have k : Pst W H0 (match atL ds i with | some d => Res.ok d | none => .stk) _ := k
      cases hl : atL ds i with
      | none => rw [hl] at k; exact k.elim
      | some d =>
        rw [hl] at k
        obtain ⟨y, h1, h2⟩ := atL_get fa hl
        exact .inl ⟨x, xs, i, y, rfl, rfl, .inl (.inl hh), h1, done h2 k⟩
    | tuple ds =>
      cases c <;> try (exact (k : False).elim)
      rename_i i
      cases f2
      obtain ⟨x, xs, rfl, hh, fa⟩ := f1.tuple
      have k : Pst W H0 (match atL ds i with | some d => Res.ok d | none => .stk) _ := k
      cases hl : atL ds i with
      | none => rw [hl] at k; exact k.elim
      | some d =>
        rw [hl] at k
        obtain ⟨y, h1, h2⟩ := atL_get fa hl
        exact .inr (.inl ⟨x, xs, i, y, rfl, rfl, by rw [hK]; exact seqT I2.gh hh, h1, done h2 k⟩)
    | str z =>
      cases c <;> try (exact (k : False).elim)
      rename_i i
      cases f2
      have f1' := f1.fz (by simp) (by simp)
      cases f1' with
      | str _ hz =>
        have k : Pst W H0 (if 0 ≤ i ∧ i < z.length ∧ i < 2 ^ 63 then (match z.cps[i.toNat]? with | some c => Res.ok (D.str ⟨#[c]⟩) | none => .stk) else .stk) _ := k
        split at k
        · rename_i hi
          cases hl : z.cps[i.toNat]? with
          | none => rw [hl] at k; exact k.elim
          | some c =>
            rw [hl] at k
            refine .inr (.inr ⟨z, i, c, rfl, rfl, len_line hz, ?_, done (.str _ (show (1 : Nat) ≤ 16777216 by decide)) k⟩)
            have : i = ((i.toNat : Nat) : Int) := (Int.toNat_of_nonneg hi.1).symm
            rw [this]
            refine atI_nat ?_
            rw [Array.getElem?_toList]; exact hl
        · exact k.elim
    | dict kvs => exact absurd ⟨_, kvs, e1, rfl⟩ hx
    | _ => exact (k : False).elim
end
end Rf
end

section
/-! Rf2i: paths into what is owned; slices; displays; calls of the program's own. -/
namespace Rf
open PySem PySem.Spec PyProof.Rows L2
section
variable {K : PySem.W.Frag} {G G' H H' : Hp}
theorem RL.uniq {P P' : V → D → List Addr → Prop} (k : ∀ v d F F', P v d F → P' v d F' → F = F') : ∀ {xs : List V} {ds : List D} {F F' : List Addr}, RL P xs ds F → RL P' xs ds F' → F = F'
  | [], [], _, _, h, h' => h.trans h'.symm
  | x :: xs, d :: ds, _, _, ⟨F1, F2, e, p, r⟩, ⟨F3, F4, e', p', r'⟩ => by rw [e, e', k _ _ _ _ p p', RL.uniq k r r']
  | [], _ :: _, _, _, h, _ => h.elim
  | _ :: _, [], _, _, h, _ => h.elim
theorem RK.uniq {P P' : V → D → List Addr → Prop} (k : ∀ v d F F', P v d F → P' v d F' → F = F') : ∀ {xs : List (Key × V)} {ds : List (D × D)} {F F' : List Addr}, RK P xs ds F → RK P' xs ds F' → F = F'
  | [], [], _, _, h, h' => h.trans h'.symm
  | (_, x) :: xs, (_, d) :: ds, _, _, ⟨_, F1, F2, e, p, r⟩, ⟨_, F3, F4, e', p', r'⟩ => by rw [e, e', k _ _ _ _ p p', RK.uniq k r r']
  | [], _ :: _, _, _, h, _ => h.elim
  | _ :: _, [], _, _, h, _ => h.elim
mutual
/-- what is owned hangs on the value and the heap alone -/
theorem R.uniq (s : Same H H') : ∀ {t : Ow} {v : V} {d : D} {F F' : List Addr}, R K G H t v d F → R K G' H' t v d F' → F = F'
  | .bot, _, _, _, _, h, _ => h.elim
  | .fz, _, _, _, _, h, h' => h.1.trans h'.1.symm
  | .lst c, _, _, _, _, h, h' => by
    rcases h with ⟨a, xs, ds, F1, rfl, rfl, rfl, hg, hh, r⟩ | ⟨z, e, f, n⟩
    · rcases h' with ⟨a', xs', ds', F1', e1, e2, rfl, hg', hh', r'⟩ | ⟨z, e, f, n⟩
      · cases e1; cases e2
        rw [s _ _ hh] at hh'; cases hh'
        rw [RL.uniq (P := R K G H c) (P' := R K G' H' c) (fun _ _ _ _ p q => R.uniq s p q) r r']
      · simp [notL] at n
    · rcases h' with ⟨a', xs', ds', F1', e1, e2, rfl, hg', hh', r'⟩ | ⟨z, e', f, n⟩
      · subst e2; simp [notL] at n
      · rw [e, e']
  | .dct c, _, _, _, _, h, h' => by
    obtain ⟨a, xs, ds, F1, rfl, rfl, rfl, hg, hh, r⟩ := h
    obtain ⟨a', xs', ds', F1', e1, e2, rfl, hg', hh', r'⟩ := h'
    cases e1; cases e2
    rw [s _ _ hh] at hh'; cases hh'
    rw [RK.uniq (P := R K G H c) (P' := R K G' H' c) (fun _ _ _ _ p q => R.uniq s p q) r r']
  | .tup c, _, _, _, _, h, h' => by
    obtain ⟨a, xs, ds, F1, rfl, rfl, rfl, hg, hh, r⟩ := h
    obtain ⟨a', xs', ds', F1', e1, e2, rfl, hg', hh', r'⟩ := h'
    cases e1; cases e2
    rw [s _ _ hh] at hh'; cases hh'
    rw [RT.uniq s r r']
  | .tn, _, _, _, _, h, _ => h.elim
  | .tc _ _, _, _, _, _, h, _ => h.elim
  | .dead, _, _, _, _, h, _ => h.elim
theorem RT.uniq (s : Same H H') : ∀ {t : Ow} {xs : List V} {ds : List D} {F F' : List Addr}, RT K G H t xs ds F → RT K G' H' t xs ds F' → F = F'
  | .tn, _, _, _, _, h, h' => h.2.2.trans h'.2.2.symm
  | .tc a r, _, _, _, _, h, h' => by
    obtain ⟨x, xr, d, dr, F1, F2, rfl, rfl, rfl, p, q⟩ := h
    obtain ⟨x', xr', d', dr', F3, F4, e1, e2, rfl, p', q'⟩ := h'
    cases e1; cases e2
    rw [R.uniq s p p', RT.uniq s q q']
  | .bot, _, _, _, _, h, _ => h.elim
  | .fz, _, _, _, _, h, _ => h.elim
  | .lst _, _, _, _, _, h, _ => h.elim
  | .dct _, _, _, _, _, h, _ => h.elim
  | .tup _, _, _, _, _, h, _ => h.elim
  | .dead, _, _, _, _, h, _ => h.elim
end
theorem RL.get {P : V → D → List Addr → Prop} : ∀ {xs : List V} {ds : List D} {F : List Addr} {i : Nat} {d : D}, RL P xs ds F → ds[i]? = some d → ∃ v F1, xs[i]? = some v ∧ P v d F1 ∧ ∀ a ∈ F1, a ∈ F
  | [], [], _, _, _, _, e => by simp at e
  | x :: xs, d :: ds, _, 0, _, ⟨F1, F2, rfl, p, r⟩, e => by
    simp at e; subst e
    exact ⟨x, F1, rfl, p, fun a h => List.mem_append_left _ h⟩
  | x :: xs, d :: ds, _, i + 1, _, ⟨F1, F2, rfl, p, r⟩, e => by
    obtain ⟨v, F3, h1, h2, h3⟩ := RL.get (i := i) r (by simpa using e)
    exact ⟨v, F3, by simpa using h1, h2, fun a h => List.mem_append_right _ (h3 a h)⟩
  | [], _ :: _, _, _, _, h, _ => h.elim
  | _ :: _, [], _, _, _, h, _ => h.elim
theorem RL.len {P : V → D → List Addr → Prop} : ∀ {xs : List V} {ds : List D} {F : List Addr}, RL P xs ds F → xs.length = ds.length
  | [], [], _, _ => rfl
  | x :: xs, d :: ds, _, ⟨F1, F2, _, p, r⟩ => by simp [RL.len r]
  | [], _ :: _, _, h => h.elim
  | _ :: _, [], _, h => h.elim
theorem RL.atI {P : V → D → List Addr → Prop} {xs : List V} {ds : List D} {F : List Addr} {i : Int} {d : D} (r : RL P xs ds F) (h : atL ds i = some d) : ∃ v F1, L2.atI xs i = some v ∧ P v d F1 ∧ ∀ a ∈ F1, a ∈ F := by
  unfold atL L2.atI at h
  unfold L2.atI
  rw [r.len]
  cases e : L2.ixN ds.length i with
  | none => rw [e] at h; cases h
  | some j => rw [e] at h; exact r.get h
theorem RK.look {P : V → D → List Addr → Prop} : ∀ {ks : List (Key × V)} {ds : List (D × D)} {F : List Addr} {k : Key} {d : D}, RK P ks ds F → Rf.look (kD k) ds = some d → ∃ v F1, valV ks k = some v ∧ P v d F1 ∧ ∀ a ∈ F1, a ∈ F
  | [], [], _, _, _, _, e => by simp [Rf.look] at e
  | (j, x) :: xs, (c, d) :: ds, _, k, d', ⟨ec, F1, F2, rfl, p, r⟩, e => by
    subst ec
    simp only [Rf.look, keyEq_kD] at e
    by_cases hj : j = k
    · rw [if_pos (by simpa using hj)] at e
      cases e
      exact ⟨x, F1, valV_pos hj, p, fun a h => List.mem_append_left _ h⟩
    · rw [if_neg (by simpa using hj)] at e
      obtain ⟨v, F3, h1, h2, h3⟩ := RK.look r e
      exact ⟨v, F3, by rw [valV_neg hj]; exact h1, h2, fun a h => List.mem_append_right _ (h3 a h)⟩
  | [], _ :: _, _, _, _, h, _ => h.elim
  | _ :: _, [], _, _, _, h, _ => h.elim
end
section
variable {K : PySem.W.Frag} {Φ : Calls} {W : Wx} {X : Cx} {T T' T1 T2 T3 : Ty1} {pos : Pos} {t u : Ow} {H0 G H : Hp}
/-- a place in what a slot owns -/
theorem s_subB {a b : Expr} {ea eb : E} {r : Nat} {t0 : Ow} (hK : X.K = K) (hu : X.A.units + 65 < cLine) (ha : PE X a (tEvB K Φ W ea T T1 t)) (hb : PE X b (tEvD K Φ W eb T1 T1)) (w : WOk W) (hp : pur eb = true) (hpa : pur ea = true) (hs : PlainIx b)
    (hr : rootE ea = some r) (e0 : T1[r]? = some t0) (hd : t0 ≠ .dead) (hc : child t ≠ .dead) : PE X (.Subscript a b pos) (tEvB K Φ W (.sub ea eb) T T1 (child t)) := by
  refine ((pe_ix (pos := pos) ix_seq ha hb hs).orr (pe_dget (pos := pos) (by omega) ha hb hs)).wk fun σ H Q ⟨H0, G, ρ, F, I, q⟩ => ?_
  have pp : ∀ {H2 : Hp}, Same H H2 → pur (.sub ea eb) = true → Same H H2 := fun s _ => s
  have q := sub_ev q
  -- both parts
  have both : ∀ {Z : V → V → Hp → Prop}, (Pst W H0 (ev Φ ea ρ) fun p => Pst W H0 (ev Φ eb p.2) fun q => ev Φ ea ρ = .ok p → ∀ v u G2 H2 F2 Fa, GS H0 G G2 → Same H H2 → SInv K H0 G2 H2 σ q.2 T1 F2 → R K G2 H2 t v p.1 Fa → (∀ a ∈ Fa, a ∈ F2 r) → Fz K H2 u q.1 → Z v u H2) →
      tEvB K Φ W ea T T1 t σ H fun x H1 => tEvD K Φ W eb T1 T1 σ H1 fun y H2 => Z x y H2 := fun h => by
    refine ⟨H0, G, ρ, F, I, h.imp w (Same.refl _) fun p e1 k v G1 H1 F1 Fa g1 s1 I1 r1 _ o1 => ⟨H0, G1, p.2, F1, I1, k.imp w (Same.refl _) fun q e2 k u G2 H2 F2 g2 s2 I2 f2 => ?_⟩⟩
    obtain ⟨d0, hd0⟩ := root_ev ea hr e1
    have z1 := ev_pur ea hpa e1
    have z2 := ev_pur eb hp e2
    have S := s2 hp
    obtain ⟨v1, w1, q1⟩ := I1.sl r t0 d0 e0 hd (by rw [z1]; exact hd0)
    obtain ⟨v2, w2, q2⟩ := I2.sl r t0 d0 e0 hd (by rw [z2, z1]; exact hd0)
    rw [w1] at w2; cases w2
    have eF : F1 r = F2 r := q1.uniq S q2
    have o2 : ∀ a ∈ Fa, a ∈ F2 r := fun a ha => by rw [← eF]; exact o1 r hr a ha
    exact k e1 v u G2 H2 F2 Fa (g1.trans g2) ((s1 hpa).trans S) I2 (r1.mono g2.same (fun a ha => (I2.fr r a (o2 a ha)).2.1) fun a ha => sameSome S (r1.gn a ha).2) o2 f2
  by_cases hx : ∃ p kvs, ev Φ ea ρ = .ok p ∧ p.1 = .dict kvs
  · obtain ⟨p0, kvs, e1, e2⟩ := hx
    refine .inr (both (q.imp w (Same.refl _) fun p e1' k => k.imp w (Same.refl _) fun r' e3 k _ v u G2 H2 F2 Fa g s I2 r1 o1 f2 => ?_))
    rw [e1] at e1'; have z := ok_inj e1'; subst z
    rw [e2] at r1 k
    by_cases hk : isKey r'.1 = true
    · obtain ⟨key, ek, rfl⟩ := isKey_inv hk f2
      rw [ek] at k hk
      have k : Pst W H0 (if isKey (kD key) then (match look (kD key) kvs with | some v => Res.ok v | none => .stk) else .stk) _ := k
      rw [if_pos hk] at k
      cases hl : look (kD key) kvs with
      | none => rw [hl] at k; exact k.elim
      | some d =>
        rw [hl] at k
        have done : ∀ {x : Addr} {ks : List (Key × V)} {y : V} {Fc : List Addr}, H2 x = some (.dK ks) → valV ks key = some y → R K G2 H2 (child t) y d Fc → (∀ a ∈ Fc, a ∈ F2 r) → ∃ a v, V.ref x = .ref a ∧ DGet H2 a (kV key) (some v) ∧ Q v H2 := fun {x ks y Fc} hh h1 h2 h3 =>
          ⟨x, y, rfl, by rw [← h1]; exact DGet.k hh, k y G2 H2 F2 Fc g (fun _ => s) I2 h2 (fun z => by rw [show rootE (.sub ea eb) = rootE ea from rfl, hr] at z; cases z) fun i z a ha => by rw [show rootE (.sub ea eb) = rootE ea from rfl, hr] at z; cases z; exact h3 a ha⟩
        cases t with
        | fz =>
          cases r1.2 with
          | dct hh fk =>
            obtain ⟨y, h1, h2⟩ := look_some fk hl
            exact done (I2.gh _ _ hh) h1 (.ofFz h2) (by simp)
        | bot => exact r1.elim
        | lst c =>
          rcases r1 with ⟨_, _, _, _, _, e, _⟩ | ⟨rfl, ef, f, n⟩
          · cases e
          · cases f with
            | dct hh fk =>
              obtain ⟨y, h1, h2⟩ := look_some fk hl
              exact done (I2.gh _ _ hh) h1 (.ofFz h2) (by simp)
        | dct c =>
          obtain ⟨x, ks, ds, F', rfl, e, rfl, hg, hh, rr⟩ := r1
          cases e
          obtain ⟨y, Fc, h1, h2, h3⟩ := rr.look hl
          exact done hh h1 h2 fun a ha => o1 a (by simp [h3 a ha])
        | tup c => exact absurd rfl hc
        | tn => exact absurd rfl hc
        | tc _ _ => exact absurd rfl hc
        | dead => exact absurd rfl hc
    · exfalso
      have k : Pst W H0 (if isKey r'.1 then (match look r'.1 kvs with | some v => Res.ok v | none => .stk) else .stk) _ := k
      rw [if_neg hk] at k; exact k
  · refine .inl (both (q.imp w (Same.refl _) fun p e1 k => k.imp w (Same.refl _) fun r' e3 k _ v u G2 H2 F2 Fa g s I2 r1 o1 f2 => ?_))
    have done : ∀ {d : D} {y : V} {Fc : List Addr}, R K G2 H2 (child t) y d Fc → (∀ a ∈ Fc, a ∈ F2 r) → Pst W H0 (Res.ok d) (fun d => ∀ v G' H' F' Fv, GS H0 G G' → (pur (.sub ea eb) = true → Same H H') → SInv K H0 G' H' σ r'.2 T1 F' → R K G' H' (child t) v d Fv → (rootE (.sub ea eb) = none → Own H0 F' Fv) → (∀ i, rootE (.sub ea eb) = some i → ∀ a ∈ Fv, a ∈ F' i) → Q v H') → Q y H2 := fun {d y Fc} h2 h3 k =>
      k y G2 H2 F2 Fc g (fun _ => s) I2 h2 (fun z => by rw [show rootE (.sub ea eb) = rootE ea from rfl, hr] at z; cases z) fun i z a ha => by rw [show rootE (.sub ea eb) = rootE ea from rfl, hr] at z; cases z; exact h3 a ha
    -- the value is frozen: as in s_sub
    have frozen : Fz K G2 v p.1 → child t = .fz → rIx X.K v u H2 Q := fun f ec => by
      obtain ⟨d, ρ1⟩ := p
      obtain ⟨c, ρ2⟩ := r'
      have fin : ∀ {d : D} {y : V}, Fz K G2 y d → R K G2 H2 (child t) y d [] := fun f => by rw [ec]; exact ⟨rfl, f⟩
      cases d with
      | list ds =>
        cases c <;> try (exact (k : False).elim)
        rename_i i
        cases f2
        cases f with
        | lst hh fa =>
          have k : Pst W H0 (match atL ds i with | some d => Res.ok d | none => .stk) _ := k
          cases hl : atL ds i with
          | none => rw [hl] at k; exact k.elim
          | some d =>
            rw [hl] at k
            obtain ⟨y, h1, h2⟩ := atL_get fa hl
            exact .inl ⟨_, _, i, y, rfl, rfl, .inl (.inl (I2.gh _ _ hh)), h1, done (fin h2) (by simp) k⟩
      | tuple ds =>
        cases c <;> try (exact (k : False).elim)
        rename_i i
        cases f2
        cases f with
        | tup hh fa =>
          have k : Pst W H0 (match atL ds i with | some d => Res.ok d | none => .stk) _ := k
          cases hl : atL ds i with
          | none => rw [hl] at k; exact k.elim
          | some d =>
            rw [hl] at k
            obtain ⟨y, h1, h2⟩ := atL_get fa hl
            exact .inr (.inl ⟨_, _, i, y, rfl, rfl, by rw [hK]; exact seqT I2.gh hh, h1, done (fin h2) (by simp) k⟩)
      | str z =>
        cases c <;> try (exact (k : False).elim)
        rename_i i
        cases f2
        cases f with
        | str _ hz =>
          have k : Pst W H0 (if 0 ≤ i ∧ i < z.length ∧ i < 2 ^ 63 then (match z.cps[i.toNat]? with | some c => Res.ok (D.str ⟨#[c]⟩) | none => .stk) else .stk) _ := k
          split at k
          · rename_i hi
            cases hl : z.cps[i.toNat]? with
            | none => rw [hl] at k; exact k.elim
            | some c =>
              rw [hl] at k
              refine .inr (.inr ⟨z, i, c, rfl, rfl, len_line hz, ?_, done (fin (.str _ (show (1 : Nat) ≤ 16777216 by decide))) (by simp) k⟩)
              have : i = ((i.toNat : Nat) : Int) := (Int.toNat_of_nonneg hi.1).symm
              rw [this]
              refine atI_nat ?_
              rw [Array.getElem?_toList]; exact hl
          · exact k.elim
      | dict kvs => exact absurd ⟨_, kvs, e1, rfl⟩ hx
      | _ => exact (k : False).elim
    cases t with
    | fz => exact frozen r1.2 rfl
    | bot => exact r1.elim
    | lst c =>
      rcases r1 with ⟨x, xs, ds, F', rfl, e, rfl, hg, hh, rr⟩ | ⟨rfl, ef, f, n⟩
      · obtain ⟨d, ρ1⟩ := p
        obtain ⟨c', ρ2⟩ := r'
        cases e
        cases c' <;> try (exact (k : False).elim)
        rename_i i
        cases f2
        have k : Pst W H0 (match atL ds i with | some d => Res.ok d | none => .stk) _ := k
        cases hl : atL ds i with
        | none => rw [hl] at k; exact k.elim
        | some d =>
          rw [hl] at k
          obtain ⟨y, Fc, h1, h2, h3⟩ := rr.atI hl
          exact .inl ⟨x, xs, i, y, rfl, rfl, .inl (.inl hh), h1, done h2 (fun a ha => o1 a (by simp [h3 a ha])) k⟩
      · exact frozen f rfl
    | dct c =>
      obtain ⟨x, ks, ds, F', rfl, e, rfl, hg, hh, rr⟩ := r1
      exact absurd ⟨p, ds, e1, e⟩ hx
    | tup c => exact absurd rfl hc
    | tn => exact absurd rfl hc
    | tc _ _ => exact absurd rfl hc
    | dead => exact absurd rfl hc
end
end Rf
end

section
/-! Rf2j: slices; displays; calls of the program's own. -/
namespace Rf
open PySem PySem.Spec PyProof.Rows L2
section
variable {K : PySem.W.Frag} {Φ : Calls} {W : Wx} {X : Cx} {T T' T1 T2 T3 : Ty1} {pos : Pos} {t u : Ow} {H0 G H : Hp}
/-! slices -/
/-- one end of a slice: not written, or an int -/
def tEnd (K : PySem.W.Frag) (Φ : Calls) (W : Wx) (e : E) (T T' : Ty1) : TO := fun σ H Q => ∃ H0 G ρ F, SInv K H0 G H σ ρ T F ∧ Pst W H0 (ev Φ e ρ) fun q => Pst W H0 (endD e q.1) fun o =>
  ∀ G' H' F', GS H0 G G' → (pur e = true → Same H H') → SInv K H0 G' H' σ q.2 T' F' → Q o H'
theorem _root_.L2.PO.wk {X : Cx} {e : Option Expr} {t t' : TO} (h : PO X e t) (i : ∀ σ H Q, t' σ H Q → t σ H Q) : PO X e t' := ⟨fun pins s σ H Q I q => h.run pins s σ H Q I (i σ H Q q)⟩
theorem e_none : PO X none (tEnd K Φ W .nil T T) := by
  refine po_none.wk fun σ H Q ⟨H0, G, ρ, F, I, q⟩ => ?_
  exact q G H F (.refl _ _) (fun _ => Same.refl H) I
theorem e_some {x : Expr} {e : E} (h : PE X x (tEvD K Φ W e T T')) (w : WOk W) (hn : e ≠ .nil) : PO X (some x) (tEnd K Φ W e T T') := by
  refine (po_some h).wk fun σ H Q ⟨H0, G, ρ, F, I, q⟩ => ⟨H0, G, ρ, F, I, q.imp w (Same.refl _) fun p e1 k v G1 H1 F1 g1 s1 I1 f => ?_⟩
  obtain ⟨d, ρ1⟩ := p
  cases d with
  | int i =>
    cases f
    cases e <;> first | exact absurd rfl hn | exact ⟨i, rfl, k G1 H1 F1 g1 s1 I1⟩
  | _ => cases e <;> first | exact absurd rfl hn | exact (k : False).elim
theorem slc_ev {a l h : E} {ρ : Env} {H0 : Hp} {k : D × Env → Prop} (q : Pst W H0 (ev Φ (.slc a l h) ρ) k) :
    Pst W H0 (ev Φ a ρ) fun p => Pst W H0 (ev Φ l p.2) fun q => Pst W H0 (endD l q.1) fun lo => Pst W H0 (ev Φ h q.2) fun r => Pst W H0 (endD h r.1) fun hi => Pst W H0 (slcD p.1 lo hi) fun d => k (d, r.2) := by
  simp only [ev] at q
  exact q.bind.map fun p _ q => q.bind.map fun r _ q => q.bind.map fun lo _ q => q.bind.map fun s _ q => q.bind.map fun hi _ q => q.bind
theorem FzA.cut {xs : List V} {ds : List D} (f : FzA K G xs ds) (lo hi : Option Int) : FzA K G (cutV xs lo hi) (cutL ds lo hi) := by
  unfold cutV cutL
  rw [f.len]
  exact (f.drop _).take _
theorem cutL_all {α : Type} {xs : List α} {lo hi : Option Int} (h1 : HT.sIx xs.length 0 lo = 0) (h2 : HT.sIx xs.length xs.length hi = xs.length) : cutL xs lo hi = xs := by
  unfold cutL
  rw [show sIx xs.length 0 lo = 0 from h1, show sIx xs.length xs.length hi = xs.length from h2]
  simp
theorem cutS_len (z : Str) (lo hi : Option Int) : (cutS z lo hi).length ≤ z.length := by
  show (List.toArray _).size ≤ z.cps.size
  rw [List.size_toArray, List.length_take, List.length_drop, Array.length_toList]
  omega
theorem s_slc {a : Expr} {l h : Option Expr} {ea el eh : E} {p2 : Pos} (hK : X.K = K) (ha : PE X a (tEvC K Φ W ea T T1)) (hl : PO X l (tEnd K Φ W el T1 T2)) (hh : PO X h (tEnd K Φ W eh T2 T3)) (w : WOk W) (pl : pur el = true) (ph : pur eh = true) (ht : OkT t) :
    PE X (.Subscript a (.Slice l h none p2) pos) (tEv K Φ W (.slc ea el eh) T T3 t) := by
  refine (pe_slice (pos := pos) (p2 := p2) (sl_list.or (sl_tupA.or sl_str)) ha hl hh).wk fun σ H Q ⟨H0, G, ρ, F, I, q⟩ => ?_
  refine ⟨H0, G, ρ, F, I, (slc_ev q).imp w (Same.refl _) fun p _ k v G1 H1 F1 g1 s1 I1 f1 => ?_⟩
  refine ⟨H0, G1, p.2, F1, I1, k.imp w (Same.refl _) fun q _ k => k.imp w (Same.refl _) fun lo _ k G2 H2 F2 g2 s2 I2 => ?_⟩
  refine ⟨H0, G2, q.2, F2, I2, k.imp w (Same.refl _) fun r _ k => k.imp w (Same.refl _) fun hi _ k G3 H3 F3 g3 s3 I3 => ?_⟩
  have S : Same H1 H3 := (s2 pl).trans (s3 ph)
  have f3 : RFl K G3 H3 v p.1 := f1.same (g2.same.trans g3.same) S
  have g := (g1.trans g2).trans g3
  have pp : pur (E.slc ea el eh) = true → Same H H3 := fun z => by
    have z : (pur ea && pur el && pur eh) = true := z
    simp only [Bool.and_eq_true] at z
    exact (s1 z.1.1).trans S
  obtain ⟨d, ρ1⟩ := p
  cases d with
  | list ds =>
    obtain ⟨x, xs, rfl, hx, fa⟩ := f3.list I3.gh
    refine .inl ⟨x, xs, rfl, .inl (.inl hx), fun p np => ?_⟩
    obtain ⟨G4, Fv, g4, I4, r4, o4⟩ := I3.newL (fa.cut lo hi) np ht
    exact k _ G4 _ F3 Fv (g.trans g4) (fun z => (pp z).trans (same_upd np)) I4 r4 o4
  | tuple ds =>
    obtain ⟨x, xs, rfl, hx, fa⟩ := f3.tuple
    refine .inr (.inl ⟨x, xs, rfl, by rw [hK]; exact seqT I3.gh hx, fun ⟨e1, e2⟩ => ?_, fun _ p np => ?_⟩)
    · have e : cutL ds lo hi = ds := cutL_all (by rw [← fa.len]; exact e1) (by rw [← fa.len]; exact e2)
      refine k _ G3 H3 F3 [] g pp I3 (ht.of ?_ rfl) (.nil _ _)
      rw [e]; exact .tup hx fa
    · obtain ⟨g4, I4, f4⟩ := I3.newT (fa.cut lo hi) np
      exact k _ _ _ F3 [] (g.trans g4) (fun z => (pp z).trans (same_upd np)) I4 (ht.of f4 rfl) (.nil _ _)
  | str z =>
    have f := f3.fz (by simp) (by simp)
    cases f with
    | str _ hz => exact .inr (.inr ⟨z, rfl, len_line hz, k _ G3 H3 F3 [] g pp I3 (ht.of (.str _ (Nat.le_trans (cutS_len z lo hi) hz)) rfl) (.nil _ _)⟩)
  | _ => exact (k : False).elim

/-! displays -/
theorem RT.allFz : ∀ {t : Ow} {xs : List V} {ds : List D} {F : List Addr}, allFz t = true → RT K G H t xs ds F → F = [] ∧ FzA K G xs ds
  | .tn, _, _, _, _, h => by obtain ⟨rfl, rfl, rfl⟩ := h; exact ⟨rfl, .nil⟩
  | .tc a r, _, _, _, e, h => by
    obtain ⟨x, xr, d, dr, F1, F2, rfl, rfl, rfl, p, q⟩ := h
    simp only [Rf.allFz, Bool.and_eq_true, Bool.or_eq_true, beq_iff_eq] at e
    obtain ⟨e1, e2⟩ := RT.allFz e.2 q
    rcases e.1 with rfl | rfl
    · exact ⟨by rw [p.1, e1]; rfl, .cons p.2 e2⟩
    · exact p.elim
  | .bot, _, _, _, _, h => h.elim
  | .fz, _, _, _, _, h => h.elim
  | .lst _, _, _, _, _, h => h.elim
  | .dct _, _, _, _, _, h => h.elim
  | .tup _, _, _, _, _, h => h.elim
  | .dead, _, _, _, _, h => h.elim
theorem RT.rl {j : Ow} : ∀ {t : Ow} {xs : List V} {ds : List D} {F : List Addr}, allSub0 t j = true → RT K G H t xs ds F → RL (R K G H j) xs ds F
  | .tn, _, _, _, _, h => by obtain ⟨rfl, rfl, rfl⟩ := h; rfl
  | .tc a r, _, _, _, e, h => by
    obtain ⟨x, xr, d, dr, F1, F2, rfl, rfl, rfl, p, q⟩ := h
    simp only [allSub0, Bool.and_eq_true] at e
    exact ⟨F1, F2, rfl, R.sub0 e.1 p, RT.rl e.2 q⟩
  | .bot, _, _, _, _, h => h.elim
  | .fz, _, _, _, _, h => h.elim
  | .lst _, _, _, _, _, h => h.elim
  | .dct _, _, _, _, _, h => h.elim
  | .tup _, _, _, _, _, h => h.elim
  | .dead, _, _, _, _, h => h.elim
theorem RT.len : ∀ {t : Ow} {xs : List V} {ds : List D} {F : List Addr}, RT K G H t xs ds F → xs.length = ds.length
  | .tn, _, _, _, h => by obtain ⟨rfl, rfl, rfl⟩ := h; rfl
  | .tc a r, _, _, _, h => by
    obtain ⟨x, xr, d, dr, F1, F2, rfl, rfl, rfl, p, q⟩ := h
    simp [RT.len q]
  | .bot, _, _, _, h => h.elim
  | .fz, _, _, _, h => h.elim
  | .lst _, _, _, _, h => h.elim
  | .dct _, _, _, _, h => h.elim
  | .tup _, _, _, _, h => h.elim
  | .dead, _, _, _, h => h.elim
/-- a new place besides what is held -/
theorem Own.new {F : Nat → List Addr} {σ : L2.St} {ρ : Env} {Fv : List Addr} (I : SInv K H0 G H σ ρ T F) (o : Own H0 F Fv) (hv : ∀ a ∈ Fv, (H a).isSome = true) {p : Addr} (hp : H p = none) : Own H0 F (p :: Fv) := by
  refine ⟨List.nodup_cons.mpr ⟨fun q => ?_, o.nd⟩, fun a ha => ?_, fun i a ha q => ?_⟩
  · have := hv p q
    rw [hp] at this; cases this
  · rcases List.mem_cons.mp ha with rfl | ha
    · exact I.h0.free hp
    · exact o.fr a ha
  · rcases List.mem_cons.mp ha with rfl | ha
    · have := (I.fr i a q).2.2
      rw [hp] at this; cases this
    · exact o.dj i a ha q
theorem tup_ev {e : E} {ρ : Env} : ev Φ (.tup e) ρ = ev Φ e ρ := rfl
theorem s_tupF {es : List Expr} {e : E} {x1 : Nat} (h : PA X es (tEvL K Φ W e T T' t)) (w : WOk W) (hz : allFz t = true) (hl : es.length ≤ line) (hw : ∀ ρ p, ev Φ e ρ = .ok p → ∃ ds, p.1 = .tuple ds ∧ ds.length = es.length) : PE X (.Tuple es x1 pos) (tEv K Φ W (.tup e) T T' .fz) := by
  refine (pe_tup (pos := pos) (x1 := x1) h).wk fun σ H Q ⟨H0, G, ρ, F, I, q⟩ => ⟨H0, G, ρ, F, I, q.imp w (Same.refl _) fun p e1 k ds e2 vs G1 H1 F1 Fv g1 s1 I1 r1 o1 => ?_⟩
  obtain ⟨ds', e3, hlen⟩ := hw ρ p e1
  rw [e2] at e3; cases e3
  obtain ⟨e4, f⟩ := RT.allFz hz r1
  refine ⟨by rw [f.len, hlen]; exact len_line hl, fun y ny => ?_⟩
  obtain ⟨g4, I4, f4⟩ := I1.newT f ny
  exact k _ _ _ F1 [] (g1.trans g4) (fun z => (s1 z).trans (same_upd ny)) I4 ⟨rfl, by rw [e2]; exact f4⟩ (.nil _ _)
theorem s_tupO {es : List Expr} {e : E} {x1 : Nat} (h : PA X es (tEvL K Φ W e T T' t)) (w : WOk W) (hl : es.length ≤ line) (hw : ∀ ρ p, ev Φ e ρ = .ok p → ∃ ds, p.1 = .tuple ds ∧ ds.length = es.length) : PE X (.Tuple es x1 pos) (tEv K Φ W (.tup e) T T' (.tup t)) := by
  refine (pe_tup (pos := pos) (x1 := x1) h).wk fun σ H Q ⟨H0, G, ρ, F, I, q⟩ => ⟨H0, G, ρ, F, I, q.imp w (Same.refl _) fun p e1 k ds e2 vs G1 H1 F1 Fv g1 s1 I1 r1 o1 => ?_⟩
  obtain ⟨ds', e3, hlen⟩ := hw ρ p e1
  rw [e2] at e3; cases e3
  refine ⟨by rw [r1.len, hlen]; exact len_line hl, fun y ny => ?_⟩
  have r2 := r1.mono (H' := upd H1 y (.tup vs)) (Same.refl G1) (fun a ha => (r1.gn a ha).1) fun a ha => upd_ne (isSome_ne ny (r1.gn a ha).2)
  exact k (.ref y) G1 _ F1 (y :: Fv) g1 (fun z => (s1 z).trans (same_upd ny)) (I1.grow (same_upd ny)) ⟨y, vs, ds, Fv, rfl, e2, rfl, I1.gh.free ny, upd_same, r2⟩ (o1.new I1 (fun a ha => (r1.gn a ha).2) ny)
theorem lst_ev {e : E} {ρ : Env} {H0 : Hp} {k : D × Env → Prop} (h : Pst W H0 (ev Φ (.lst e) ρ) k) : Pst W H0 (ev Φ e ρ) fun p => ∃ ds, p.1 = .tuple ds ∧ k (.list ds, p.2) := by
  simp only [ev] at h
  refine h.bind.map fun p _ h => ?_
  obtain ⟨d, ρ1⟩ := p
  cases d <;> first | exact ⟨_, rfl, h⟩ | exact (h : False).elim
theorem s_lst {es : List Expr} {e : E} (h : PA X es (tEvL K Φ W e T T' t)) (w : WOk W) (hl : es.length ≤ line) (hw : ∀ ρ p, ev Φ e ρ = .ok p → ∃ ds, p.1 = .tuple ds ∧ ds.length = es.length) : PE X (.List es pos) (tEv K Φ W (.lst e) T T' (.lst (lstT t))) := by
  refine (pe_lst (pos := pos) h).wk fun σ H Q ⟨H0, G, ρ, F, I, q⟩ => ⟨H0, G, ρ, F, I, (lst_ev q).imp w (Same.refl _) fun p e1 ⟨ds0, e0, k⟩ ds e2 vs G1 H1 F1 Fv g1 s1 I1 r1 o1 => ?_⟩
  rw [e0] at e2; cases e2
  obtain ⟨ds', e3, hlen⟩ := hw ρ p e1
  rw [e0] at e3; cases e3
  refine ⟨by rw [r1.len, hlen]; exact len_line hl, fun y ny => ?_⟩
  by_cases hs : allSub0 t (joinAll t) = true
  · have r2 := r1.mono (H' := upd H1 y (.lst vs)) (Same.refl G1) (fun a ha => (r1.gn a ha).1) fun a ha => upd_ne (isSome_ne ny (r1.gn a ha).2)
    refine k (.ref y) G1 _ F1 (y :: Fv) g1 (fun z => (s1 z).trans (same_upd ny)) (I1.grow (same_upd ny)) ?_ (o1.new I1 (fun a ha => (r1.gn a ha).2) ny)
    unfold lstT; rw [if_pos hs]
    exact .inl ⟨y, vs, _, Fv, rfl, rfl, rfl, I1.gh.free ny, upd_same, r2.rl hs⟩
  · have f := r1.frz I1.gh Fv fun _ q => q
    have I2 : SInv K H0 (frzG G1 H1 Fv) H1 σ p.2 T' F1 := I1.mono (frzG_same I1.gh Fv) (frzG_le I1.gh Fv) (Same.refl H1) fun i a ha => frzG_none (fun q => o1.dj i a q ha) (I1.fr i a ha).2.1
    have g2 : GS H0 G1 (frzG G1 H1 Fv) := ⟨frzG_same I1.gh Fv, fun a h1 h2 => frzG_none (fun q => by rw [o1.fr a q] at h1; cases h1) h2⟩
    obtain ⟨G4, Fw, g4, I4, r4, o4⟩ := I2.newL f ny .lst
    refine k (.ref y) G4 _ F1 Fw ((g1.trans g2).trans g4) (fun z => (s1 z).trans (same_upd ny)) I4 ?_ o4
    unfold lstT; rw [if_neg hs]
    exact r4

/-! calls -/
/-- how the exceptions of the program are told: class, what stands in it -/
structure XS where
  cls : Nat → Value
  ok : Nat → List D → Option Addr → Hp → Prop
/-- what a def promises: what the data say -/
def spD (K : PySem.W.Frag) (xs : XS) (Φ : Calls) (f : Nat) (n : Nat) (t : Ow) : Sp := fun vs H Q E => vs.length = n ∧ ∃ G ds, Same G H ∧ FzA K G vs ds ∧
  Pst (fun c as H0 => ∀ ox H', Same H0 H' → xs.ok c as ox H' → E (xs.cls c) ox H') H (Φ f ds) fun d => ∀ v G' H' Fv, GS H G G' → Same G' H' → Same H H' → R K G' H' t v d Fv → Fv.Nodup → (∀ a ∈ Fv, H a = none) → Q v H'
/-- W is what E says of the program's exceptions -/
def WOf (xs : XS) (W : Wx) (E : XK) : Prop := ∀ c as H, W c as H → ∀ ox H', Same H H' → xs.ok c as ox H' → E (xs.cls c) ox H'
theorem call_ev {f : Nat} {es : E} {ρ : Env} {H0 : Hp} {k : D × Env → Prop} (h : Pst W H0 (ev Φ (.call f es) ρ) k) : Pst W H0 (ev Φ es ρ) fun p => ∃ ds, p.1 = .tuple ds ∧ Pst W H0 (Φ f ds) fun d => k (d, p.2) := by
  simp only [ev] at h
  refine h.bind.map fun p _ h => ?_
  obtain ⟨d, ρ1⟩ := p
  cases d <;> first | exact ⟨_, rfl, h.bind.bind⟩ | exact (h : False).elim
theorem call_rd {xs : XS} {Ex : XK} {f n : Nat} {es : E} {t : Ow} (w : WOk W) (hW : WOf xs W Ex) {σ : L2.St} {H : Hp} {Q : VK} (h : tEv K Φ W (.call f es) T T' t σ H Q) (hn : ∀ ρ p ds, ev Φ es ρ = .ok p → p.1 = .tuple ds → ds.length = n) :
    tEvF K Φ W es T T' σ H fun vs H1 => spD K xs Φ f n t (vs ++ []) H1 Q Ex := by
  obtain ⟨H0, G, ρ, F, I, q⟩ := h
  refine ⟨H0, G, ρ, F, I, (call_ev q).imp w (Same.refl _) fun p e1 ⟨ds0, e0, k⟩ ds e2 vs G1 H1 F1 g1 s1 I1 f1 => ?_⟩
  rw [e0] at e2; cases e2
  rw [List.append_nil]
  refine ⟨by rw [f1.len]; exact hn ρ p _ e1 e0, G1, _, I1.gh, f1, ?_⟩
  cases hd : Φ f ds with
  | stk => rw [hd] at k; exact k.elim
  | exn c as =>
    rw [hd] at k
    exact fun ox H' s x => hW c as H0 k ox H' (I1.h0.trans s) x
  | ok d =>
    rw [hd] at k
    refine fun v G2 H2 Fv g2 gh2 s2 r2 nd2 fr2 => k v G2 H2 F1 Fv (g1.trans ⟨g2.same, fun a h1 h2 => g2.no a (by rw [sameSome I1.h0 h1]; exact h1) h2⟩) (fun z => (s1 z).trans s2) (I1.mono g2.same gh2 s2 fun i a ha => g2.no a (I1.fr i a ha).2.2 (I1.fr i a ha).2.1) r2 ⟨nd2, fun a ha => I1.h0.free (fr2 a ha), fun i a ha q => ?_⟩
    have := (I1.fr i a q).2.2
    rw [fr2 a ha] at this; cases this
end
end Rf
end

section
/-! Rf2k: built-in functions by data. -/
namespace Rf
open PySem PySem.Spec PyProof.Rows L2
theorem ins_perm (a : Int) : ∀ l : List Int, (ins a l).Perm (a :: l)
  | [] => .refl _
  | b :: r => by
    unfold ins
    split
    · exact .refl _
    · exact ((ins_perm a r).cons b).trans (.swap a b r)
theorem srt_perm : ∀ l : List Int, (srt l).Perm l
  | [] => .refl _
  | a :: r => (ins_perm a (srt r)).trans ((srt_perm r).cons a)
theorem ins_sorted (a : Int) : ∀ {l : List Int}, l.Pairwise (· ≤ ·) → (ins a l).Pairwise (· ≤ ·)
  | [], _ => by simp [ins]
  | b :: r, h => by
    unfold ins
    rw [List.pairwise_cons] at h
    split
    · rename_i hab
      refine List.pairwise_cons.mpr ⟨fun x hx => ?_, List.pairwise_cons.mpr h⟩
      rcases List.mem_cons.mp hx with rfl | hx
      · exact hab
      · exact Int.le_trans hab (h.1 x hx)
    · rename_i hab
      refine List.pairwise_cons.mpr ⟨fun x hx => ?_, ins_sorted a h.2⟩
      rcases List.mem_cons.mp ((ins_perm a r).mem_iff.mp hx) with rfl | hx
      · omega
      · exact h.1 x hx
theorem srt_sorted : ∀ l : List Int, (srt l).Pairwise (· ≤ ·)
  | [] => by simp [srt]
  | a :: r => ins_sorted a (srt_sorted r)
theorem sorted_uniq : ∀ {a b : List Int}, a.Perm b → a.Pairwise (· ≤ ·) → b.Pairwise (· ≤ ·) → a = b
  | [], b, p, _, _ => by rw [List.nil_perm.mp p]
  | x :: a, [], p, _, _ => by have := p.length_eq; simp at this
  | x :: a, y :: b, p, ha, hb => by
    rw [List.pairwise_cons] at ha hb
    have h1 : x ≤ y := by
      rcases List.mem_cons.mp (p.mem_iff.mpr (List.mem_cons_self (a := y) (l := b))) with e | h
      · omega
      · exact ha.1 y h
    have h2 : y ≤ x := by
      rcases List.mem_cons.mp (p.mem_iff.mp (List.mem_cons_self (a := x) (l := a))) with e | h
      · omega
      · exact hb.1 x h
    have e : x = y := by omega
    subst e
    rw [sorted_uniq ((List.perm_cons x).mp p) ha.2 hb.2]
theorem mx_spec : ∀ (r : List Int) (a : Int), (mx a r ∈ a :: r) ∧ ∀ y ∈ a :: r, y ≤ mx a r
  | [], a => by simp [mx]
  | b :: r, a => by
    unfold mx
    obtain ⟨h1, h2⟩ := mx_spec r (if a < b then b else a)
    constructor
    · rcases List.mem_cons.mp h1 with e | h
      · rw [e]; split <;> simp
      · simp [h]
    · intro y hy
      have h0 := h2 (if a < b then b else a) (by simp)
      rcases List.mem_cons.mp hy with rfl | hy
      · split at h0 <;> rename_i q <;> simp [q] at h0 ⊢ <;> omega
      · rcases List.mem_cons.mp hy with rfl | hy
        · split at h0 <;> rename_i q <;> simp [q] at h0 ⊢ <;> omega
        · exact h2 y (by simp [hy])
theorem mn_spec : ∀ (r : List Int) (a : Int), (mn a r ∈ a :: r) ∧ ∀ y ∈ a :: r, mn a r ≤ y
  | [], a => by simp [mn]
  | b :: r, a => by
    unfold mn
    obtain ⟨h1, h2⟩ := mn_spec r (if b < a then b else a)
    constructor
    · rcases List.mem_cons.mp h1 with e | h
      · rw [e]; split <;> simp
      · simp [h]
    · intro y hy
      have h0 := h2 (if b < a then b else a) (by simp)
      rcases List.mem_cons.mp hy with rfl | hy
      · split at h0 <;> rename_i q <;> simp [q] at h0 ⊢ <;> omega
      · rcases List.mem_cons.mp hy with rfl | hy
        · split at h0 <;> rename_i q <;> simp [q] at h0 ⊢ <;> omega
        · exact h2 y (by simp [hy])

/-- values that are looked at, their items frozen -/
inductive RFs (K : PySem.W.Frag) (G H : Hp) : List V → List D → Prop
  | nil : RFs K G H [] []
  | cons {v : V} {vs : List V} {d : D} {ds : List D} : RFl K G H v d → RFs K G H vs ds → RFs K G H (v :: vs) (d :: ds)
section
variable (K : PySem.W.Frag) (Φ : Calls) (W : Wx)
def tEvCs (e : E) (T T' : Ty1) : TA := fun σ H Q => ∃ H0 G ρ F, SInv K H0 G H σ ρ T F ∧ Pst W H0 (ev Φ e ρ) fun q =>
  ∀ ds, q.1 = .tuple ds → ∀ vs G' H' F', GS H0 G G' → (pur e = true → Same H H') → SInv K H0 G' H' σ q.2 T' F' → RFs K G' H' vs ds → Q vs H'
end
section
variable {K : PySem.W.Frag} {Φ : Calls} {W : Wx} {X : Cx} {T T' T1 T2 T3 : Ty1} {pos : Pos} {t u : Ow} {H0 G G' H H' : Hp}
theorem RFs.same {vs : List V} {ds : List D} (h : RFs K G H vs ds) (g : Same G G') (s : Same H H') : RFs K G' H' vs ds := by
  induction h with
  | nil => exact .nil
  | cons a _ ih => exact .cons (a.same g s) ih
theorem c_nil : PA X [] (tEvCs K Φ W .nil T T) := by
  refine pa_nil.wk fun σ H Q ⟨H0, G, ρ, F, I, q⟩ => ?_
  exact q [] rfl [] G H F (.refl _ _) (fun _ => Same.refl H) I .nil
theorem c_cons {x : Expr} {xs : List Expr} {e es : E} (h : PE X x (tEvC K Φ W e T T1)) (hs : PA X xs (tEvCs K Φ W es T1 T2)) (w : WOk W) (ns : NoStar x) (hp : pur es = true) : PA X (x :: xs) (tEvCs K Φ W (.cons e es) T T2) := by
  refine (pa_cons h hs (ns _ _)).wk fun σ H Q ⟨H0, G, ρ, F, I, q⟩ => ⟨H0, G, ρ, F, I, (cons_ev q).imp w (Same.refl _) fun p _ k v G1 H1 F1 g1 s1 I1 r1 => ?_⟩
  refine ⟨H0, G1, p.2, F1, I1, k.imp w (Same.refl _) fun q _ ⟨ds, e2, k⟩ es' e3 vs G2 H2 F2 g2 s2 I2 r2 => ?_⟩
  rw [e2] at e3; cases e3
  refine k _ rfl (v :: vs) G2 H2 F2 (g1.trans g2) (fun z => ?_) I2 (.cons (r1.same g2.same (s2 hp)) r2)
  simp only [pur, Bool.and_eq_true] at z
  exact (s1 z.1).trans (s2 z.2)
/-- what a built-in function asks and gives, by data -/
def rBi (K : PySem.W.Frag) (b : Bi) : List V → Hp → VK → Prop := fun vs H Q => ∃ G ds d, Same G H ∧ RFs K G H vs ds ∧ biD b ds = .ok d ∧
  (∀ v, Fz K G v d → notL d = true → Q v H) ∧ ∀ xs es, d = .list es → FzA K G xs es → ∀ p, H p = none → Q (.ref p) (upd H p (.lst xs))
theorem bi_ev {b : Bi} {es : E} {ρ : Env} {H0 : Hp} {k : D × Env → Prop} (h : Pst W H0 (ev Φ (.bi b es) ρ) k) : Pst W H0 (ev Φ es ρ) fun p => ∃ ds, p.1 = .tuple ds ∧ Pst W H0 (biD b ds) fun d => k (d, p.2) := by
  simp only [ev] at h
  refine h.bind.map fun p _ h => ?_
  obtain ⟨d, ρ1⟩ := p
  cases d <;> first | exact ⟨_, rfl, h.bind.bind⟩ | exact (h : False).elim
theorem biD_noexn {b : Bi} {ds : List D} {c : Nat} {as : List D} : biD b ds ≠ .exn c as := by
  unfold biD
  split <;> (try split) <;> (try simp) <;> (try split) <;> (try simp) <;> (unfold reprD <;> split <;> (try split) <;> simp)
theorem bi_rd {b : Bi} {es : E} (w : WOk W) (ht : OkT t) {σ : L2.St} {H : Hp} {Q : VK} (h : tEv K Φ W (.bi b es) T T' t σ H Q) :
    tEvCs K Φ W es T T' σ H fun vs H1 => rBi K b vs H1 Q := by
  obtain ⟨H0, G, ρ, F, I, q⟩ := h
  refine ⟨H0, G, ρ, F, I, (bi_ev q).imp w (Same.refl _) fun p e1 ⟨ds0, e0, k⟩ ds e2 vs G1 H1 F1 g1 s1 I1 f1 => ?_⟩
  rw [e0] at e2; cases e2
  cases hd : biD b ds with
  | stk => rw [hd] at k; exact k.elim
  | exn c as => exact absurd hd biD_noexn
  | ok d =>
    rw [hd] at k
    refine ⟨G1, ds, d, I1.gh, f1, hd, fun v f n => k v G1 H1 F1 [] g1 s1 I1 (ht.of f n) (.nil _ _), fun xs es e f p np => ?_⟩
    subst e
    obtain ⟨G4, Fw, g4, I4, r4, o4⟩ := I1.newL f np ht
    exact k _ G4 _ F1 Fw (g1.trans g4) (fun z => (s1 z).trans (same_upd np)) I4 r4 o4
theorem RFs.one {vs : List V} {d : D} (h : RFs K G H vs [d]) : ∃ v, vs = [v] ∧ RFl K G H v d := by
  cases h with | cons a b => cases b; exact ⟨_, rfl, a⟩
theorem RFs.pair {vs : List V} {d e : D} (h : RFs K G H vs [d, e]) : ∃ v u, vs = [v, u] ∧ RFl K G H v d ∧ RFl K G H u e := by
  cases h with | cons a b => obtain ⟨u, rfl, c⟩ := b.one; exact ⟨_, u, rfl, a, c⟩
theorem RFl.scr {v : V} {ns : List Int} (h : RFl K G H v (.scr ns)) : ∃ a, v = .ref a ∧ SqL K G a (ns.map V.int) := by
  have q := h.fz (by simp) (by simp); cases q with | scr a => exact ⟨_, rfl, a⟩
theorem bi_len (hK : X.K = K) : CallR X (.builtin "len") (rBi K .len) := by
  intro pins s σ H vs us Q I r ⟨G, ds, d, hs, f, e, kv, kl⟩
  unfold biD at e
  split at e <;> (try (rename_i h; cases h)) <;> first | (cases e; done) | skip
  all_goals obtain ⟨v, rfl, fo⟩ := f.one
  · rw [← ok_inj e] at kv
    obtain ⟨a, xs, rfl, hx, fa⟩ := fo.list hs
    exact call_len_seq pins s σ H _ us Q I r ⟨a, xs, rfl, .inl (.inl (.inl hx)), by rw [fa.len]; exact kv _ (.int _) rfl⟩
  · rw [← ok_inj e] at kv
    obtain ⟨a, xs, rfl, hx, fa⟩ := fo.tuple
    exact call_len_seq pins s σ H _ us Q I r ⟨a, xs, rfl, .inr (by rw [hK]; exact seqT hs hx), by rw [fa.len]; exact kv _ (.int _) rfl⟩
  · rw [← ok_inj e] at kv
    obtain ⟨a, xs, rfl, hx, fa⟩ := fo.dict hs
    exact call_lenD pins s σ H _ us Q I r ⟨a, xs, rfl, hx, by rw [fa.len]; exact kv _ (.int _) rfl⟩
  · rw [← ok_inj e] at kv
    obtain ⟨a, rfl, hx⟩ := fo.scr
    exact call_len_seq pins s σ H _ us Q I r ⟨a, _, rfl, .inl (by rw [hK]; exact hs.seq hx), by rw [List.length_map]; exact kv _ (.int _) rfl⟩
  · rw [← ok_inj e] at kv
    have fo := fo.fz (by simp) (by simp)
    cases fo with
    | str _ hz => exact call_len_str pins s σ H _ us Q I r ⟨_, rfl, len_line hz, kv _ (.int _) rfl⟩
theorem bi_list (hK : X.K = K) : CallR X (.type "list") (rBi K .list) := by
  intro pins s σ H vs us Q I r ⟨G, ds, d, hs, f, e, kv, kl⟩
  unfold biD at e
  split at e <;> (try (rename_i h; cases h)) <;> first | (cases e; done) | skip
  all_goals obtain ⟨v, rfl, fo⟩ := f.one
  · have e := ok_inj e; subst e
    obtain ⟨a, xs, rfl, hx, fa⟩ := fo.list hs
    exact call_list_of pins s σ H _ us Q I r ⟨a, xs, rfl, .inl (.inl (.inl hx)), fun p np => kl xs _ rfl fa p np⟩
  · have e := ok_inj e; subst e
    obtain ⟨a, xs, rfl, hx, fa⟩ := fo.tuple
    exact call_list_of pins s σ H _ us Q I r ⟨a, xs, rfl, .inr (by rw [hK]; exact seqT hs hx), fun p np => kl xs _ rfl fa p np⟩
theorem each_of {G H : Hp} {s : Shared} {pins : List (Addr × Obj)} {σ : L2.St} (I : L2.Inv X pins σ H s) : ∀ {xs : List V} {us : List Value} {ds : List D}, Vals xs us → FzA X.K G xs ds → Same G H → ds.all (shpB 9) = true →
    PySem.W.EachIs (fun u d => ∃ x, RelV x u ∧ Fz X.K G x d) us ds ∧ PySem.W.EachIs (fun u d => ∃ as, Reads s.heap u (cast d) as) us ds
  | _, _, _, .nil, .nil, _, _ => ⟨.nil, .nil⟩
  | _, _, _, .cons r rs, .cons f fs, h, q => by
    rw [List.all_cons, Bool.and_eq_true] at q
    obtain ⟨e1, e2⟩ := each_of I rs fs h q.2
    obtain ⟨dp, _, _⟩ := (f.same h).dp q.1
    exact ⟨.cons ⟨_, r, f⟩ e1, .cons (Dp.reads I _ _ _ dp r) e2⟩
theorem each_back {G : Hp} : ∀ {us : List Value} {ds : List D}, PySem.W.EachIs (fun u d => ∃ x, RelV x u ∧ Fz K G x d) us ds → ∃ xs, Vals xs us ∧ FzA K G xs ds
  | _, _, .nil => ⟨[], .nil, .nil⟩
  | _, _, .cons ⟨x, r, f⟩ t => by
    obtain ⟨xs, r2, f2⟩ := each_back t
    exact ⟨x :: xs, .cons r r2, .cons f f2⟩
theorem dep_of {G : Hp} : ∀ {xs : List V} {ds : List D}, FzA K G xs ds → ds.all (shpB 9) = true → ∀ b ∈ ds, PyData.depth (cast b) ≤ 10
  | _, _, .nil, _, b, hb => by cases hb
  | _, _, .cons f fs, q, b, hb => by
    rw [List.all_cons, Bool.and_eq_true] at q
    rcases List.mem_cons.mp hb with rfl | hb
    · exact (f.dp q.1).2.2
    · exact dep_of fs q.2 b hb
theorem sdOk_alike {ds : List D} (h : sdOk ds = true) : PySem.W.AllAlike (ds.map cast) ∧ PySem.W.Sortable (ds.map cast) ∧ ds.all (shpB 9) = true := by
  simp only [sdOk, Bool.and_eq_true, Bool.or_eq_true] at h
  obtain ⟨⟨h1, h2⟩, h3⟩ := h
  refine ⟨fun a ha b hb => ?_, ?_, h1⟩
  · obtain ⟨x, hx, rfl⟩ := List.mem_map.mp ha
    obtain ⟨y, hy, rfl⟩ := List.mem_map.mp hb
    exact List.all_eq_true.mp (List.all_eq_true.mp h2 x hx) y hy
  · rcases h3 with h3 | h3
    · refine .inl fun d hd => ?_
      obtain ⟨x, hx, rfl⟩ := List.mem_map.mp hd
      have := List.all_eq_true.mp h3 x hx
      cases x with
      | tuple es =>
        cases es with
        | nil => cases this
        | cons a r => exact ⟨cast a, cast.castA r, rfl⟩
      | _ => cases this
    · refine .inr fun d hd => ?_
      obtain ⟨x, hx, rfl⟩ := List.mem_map.mp hd
      have := List.all_eq_true.mp h3 x hx
      cases x <;> first | (cases this; done) | (refine ⟨by simp [cast], fun xs => by simp [cast]⟩)
theorem bi_sorted (hK : X.K = K) (hu : X.A.units + 65 < cLine) : CallR X (.builtin "sorted") (rBi K .sorted) := by
  intro pins s σ H vs us Q I r ⟨G, ds, d, hs, f, e, kv, kl⟩
  unfold biD at e
  split at e <;> (try (rename_i h; cases h)) <;> first | (cases e; done) | skip
  obtain ⟨v, rfl, fo⟩ := f.one
  split at e
  · rename_i ns hn
    have e := ok_inj e; subst e
    obtain ⟨a, xs, rfl, hx, fa⟩ := fo.list hs
    have hxs := fa.ints hn
    subst hxs
    refine cr_sortedI pins s σ H _ us Q I r ⟨a, ns, rfl, .inl (.inl hx), fun ns' p hp hq np => ?_⟩
    rw [sorted_uniq (hp.trans (srt_perm ns).symm) hq (srt_sorted ns)]
    exact kl _ _ rfl (.intsV _) p np
  · subst hK
    rename_i ds _ _
    by_cases ok : sdOk ds = true
    · rw [if_pos ok] at e
      have e := ok_inj e; subst e
      obtain ⟨hal, hk, hsh⟩ := sdOk_alike ok
      obtain ⟨a, xs, rfl, hx, fa⟩ := fo.list hs
      obtain ⟨its, rv, hl, hz⟩ := I.list (.inl (.inl hx))
      obtain ⟨u, rfl, ru⟩ := vals1 r
      obtain rfl : u = Value.ref a := ru
      obtain ⟨e1, e2⟩ := each_of I rv fa hs hsh
      have hlen : ds.length = xs.length := fa.len.symm
      refine PySem.W.sorted_data (enc := cast) hl.isList e1 e2 hal hk (by rw [hlen]; exact hz) (fun b hb => ?_) fun out h1 h2 => ?_
      · have := dep_of fa hsh b hb
        omega
      obtain ⟨ys, r2, f2⟩ := each_back h2
      obtain ⟨ep, he'⟩ := PyProof.Rows.sortedAll_at s.heap its out.toArray
      have hly : ys.length ≤ sizeLine := by
        rw [r2.length, h1, hlen]; exact hz
      exact ⟨.ref _, upd H (s.heap.objs.size + 1) (.lst ys), I.laid (t' := s.toks) (fun _ _ => PyProof.Rows.sortedAll_old) (Nat.le_succ _) ⟨hly, out, ep, r2, he'⟩, rfl, kl _ _ rfl f2 _ (I.hok.fresh (Nat.le_succ _))⟩
    · rw [if_neg ok] at e; cases e
theorem bi_sum (hK : X.K = K) (hc : X.calm = true) : CallR X (.builtin "sum") (rBi K .sum) := by
  intro pins s σ H vs us Q I r ⟨G, ds, d, hs, f, e, kv, kl⟩
  unfold biD at e
  split at e <;> (try (rename_i h; cases h)) <;> first | (cases e; done) | skip
  obtain ⟨v, rfl, fo⟩ := f.one
  split at e
  · rename_i ns hn
    rw [← ok_inj e] at kv
    obtain ⟨a, xs, rfl, hx, fa⟩ := fo.list hs
    have hxs := fa.ints hn
    subst hxs
    exact cr_sum hc pins s σ H _ us Q I r ⟨a, ns, rfl, .inl (.inl hx), kv _ (.int _) rfl⟩
  · cases e
theorem bi_max (hK : X.K = K) (hc : X.calm = true) : CallR X (.builtin "max") (rBi K .max) := by
  intro pins s σ H vs us Q I r ⟨G, ds, d, hs, f, e, kv, kl⟩
  unfold biD at e
  split at e <;> (try (rename_i h; cases h)) <;> first | (cases e; done) | skip
  · obtain ⟨v, rfl, fo⟩ := f.one
    split at e
    · rename_i m ns hn
      rw [← ok_inj e] at kv
      obtain ⟨a, xs, rfl, hx, fa⟩ := fo.list hs
      have hxs := fa.ints hn
      subst hxs
      refine cr_max hc pins s σ H _ us Q I r ⟨a, m :: ns, rfl, .inl (.inl hx), by simp, fun y hy hm => ?_⟩
      obtain ⟨h1, h2⟩ := mx_spec ns m
      have e : y = mx m ns := Int.le_antisymm (h2 y hy) (hm _ h1)
      rw [e]; exact kv _ (.int _) rfl
    · cases e
  · obtain ⟨v, u, rfl, f1, f2⟩ := f.pair
    rw [← ok_inj e] at kv
    have e1 := f1.int; have e2 := f2.int; subst e1; subst e2
    exact call_max2 hc pins s σ H _ us Q I r ⟨_, _, rfl, kv _ (.int _) rfl⟩
theorem bi_min (hK : X.K = K) (hc : X.calm = true) : CallR X (.builtin "min") (rBi K .min) := by
  intro pins s σ H vs us Q I r ⟨G, ds, d, hs, f, e, kv, kl⟩
  unfold biD at e
  split at e <;> (try (rename_i h; cases h)) <;> first | (cases e; done) | skip
  · obtain ⟨v, rfl, fo⟩ := f.one
    split at e
    · rename_i m ns hn
      rw [← ok_inj e] at kv
      obtain ⟨a, xs, rfl, hx, fa⟩ := fo.list hs
      have hxs := fa.ints hn
      subst hxs
      refine cr_min hc pins s σ H _ us Q I r ⟨a, m :: ns, rfl, .inl (.inl hx), by simp, fun y hy hm => ?_⟩
      obtain ⟨h1, h2⟩ := mn_spec ns m
      have e : y = mn m ns := Int.le_antisymm (hm _ h1) (h2 y hy)
      rw [e]; exact kv _ (.int _) rfl
    · cases e
  · obtain ⟨v, u, rfl, f1, f2⟩ := f.pair
    rw [← ok_inj e] at kv
    have e1 := f1.int; have e2 := f2.int; subst e1; subst e2
    exact call_min2 hc pins s σ H _ us Q I r ⟨_, _, rfl, kv _ (.int _) rfl⟩
theorem bi_all (hK : X.K = K) (hc : X.calm = true) : CallR X (.builtin "all") (rBi K .all) := by
  intro pins s σ H vs us Q I r ⟨G, ds, d, hs, f, e, kv, kl⟩
  unfold biD at e
  split at e <;> (try (rename_i h; cases h)) <;> first | (cases e; done) | skip
  obtain ⟨v, rfl, fo⟩ := f.one
  split at e
  · rename_i ns hn
    rw [← ok_inj e] at kv
    obtain ⟨a, xs, rfl, hx, fa⟩ := fo.list hs
    have hxs := fa.bools hn
    subst hxs
    exact cr_all hc pins s σ H _ us Q I r ⟨a, ns, rfl, .inl (.inl hx), kv _ (.bl _) rfl⟩
  · cases e
theorem bi_any (hK : X.K = K) (hc : X.calm = true) : CallR X (.builtin "any") (rBi K .any) := by
  intro pins s σ H vs us Q I r ⟨G, ds, d, hs, f, e, kv, kl⟩
  unfold biD at e
  split at e <;> (try (rename_i h; cases h)) <;> first | (cases e; done) | skip
  obtain ⟨v, rfl, fo⟩ := f.one
  split at e
  · rename_i ns hn
    rw [← ok_inj e] at kv
    obtain ⟨a, xs, rfl, hx, fa⟩ := fo.list hs
    have hxs := fa.bools hn
    subst hxs
    exact cr_any hc pins s σ H _ us Q I r ⟨a, ns, rfl, .inl (.inl hx), kv _ (.bl _) rfl⟩
  · cases e
theorem bi_int : CallR X (.type "int") (rBi K .int) := by
  intro pins s σ H vs us Q I r ⟨G, ds, d, hs, f, e, kv, kl⟩
  unfold biD at e
  split at e <;> (try (rename_i h; cases h)) <;> first | (cases e; done) | skip
  all_goals obtain ⟨v, rfl, fo⟩ := f.one
  all_goals rw [← ok_inj e] at kv
  · have e1 := fo.int; subst e1
    exact call_int1 pins s σ H _ us Q I r (.inl ⟨_, rfl, kv _ (.int _) rfl⟩)
  · have e1 := fo.bool; subst e1
    exact call_int1 pins s σ H _ us Q I r (.inr ⟨_, rfl, kv _ (.int _) rfl⟩)
theorem bi_abs : CallR X (.builtin "abs") (rBi K .abs) := by
  intro pins s σ H vs us Q I r ⟨G, ds, d, hs, f, e, kv, kl⟩
  unfold biD at e
  split at e <;> (try (rename_i h; cases h)) <;> first | (cases e; done) | skip
  obtain ⟨v, rfl, fo⟩ := f.one
  rw [← ok_inj e] at kv
  have e1 := fo.int; subst e1
  exact call_abs pins s σ H _ us Q I r ⟨_, rfl, kv _ (.int _) rfl⟩
/-- repr, where no repr is under way -/
theorem bi_repr (hK : X.K = K) (hg : X.A.guards = some []) (hu : X.A.units + 65 < cLine) : CallR X (.builtin "repr") (rBi K .repr) := by
  subst hK
  intro pins s σ H vs us Q I r ⟨G, ds, d, hs, f, e, kv, kl⟩
  have key : ∀ {x : D} {v : V} {a : Addr}, v = .ref a → Fz X.K H v x → reprOk x = true → d = .str (PyData.shown (cast x)) → ∀ {u : Value}, RelV v u → wpAny (model X.prog X.w) X.A (call (.builtin "repr") [u]) (EP X pins σ Q) X.xe s := by
    intro x v a hv fx ok hd u ru
    subst hv
    simp only [reprOk, Bool.and_eq_true, decide_eq_true_eq] at ok
    obtain ⟨dp, cl, dep⟩ := fx.dp ok.1.1
    obtain ⟨as, rd⟩ := Dp.reads I _ _ _ dp ru
    cases (show u = Value.ref a from ru)
    have hz : (PyData.shown (cast x)).length ≤ sizeLine := Nat.le_trans ok.2 (by rw [sizeLine_eq]; decide)
    exact repr_of_reads' rd ok.1.2 (PyData.noDict_hsm (PyData.hasDict_of_canLay _ cl)) hg (by omega) (fun _ _ e => e) (fun h' u tk hk => ⟨.str _, H, I.kept hk, ⟨u, rfl⟩, kv (.str _) (by rw [hd]; exact .str _ ok.2) (by rw [hd]; rfl)⟩) hz
  rcases ds with _ | ⟨x, _ | ⟨y, z⟩⟩
  · cases e
  · obtain ⟨v, rfl, fx⟩ := f.one
    obtain ⟨u, rfl, ru⟩ := vals1 r
    have e : reprD x = .ok d := e
    clear f
    cases x with
    | list ds =>
      obtain ⟨h1, h2⟩ := if_ok (show (if reprOk (.list ds) then Res.ok (D.str (PyData.shown (cast (.list ds)))) else .stk) = _ from e)
      obtain ⟨a, xs, rfl, _, _⟩ := fx.list hs
      exact key rfl (fx.all hs) h1 h2.symm ru
    | tuple ds =>
      obtain ⟨h1, h2⟩ := if_ok (show (if reprOk (.tuple ds) then Res.ok (D.str (PyData.shown (cast (.tuple ds)))) else .stk) = _ from e)
      obtain ⟨a, xs, rfl, _, _⟩ := fx.tuple
      exact key rfl (fx.all hs) h1 h2.symm ru
    | _ => cases e
  · cases x <;> (try cases y) <;> cases e
theorem bi_gcd : CallR X (.builtin "math.gcd") (rBi K .gcd) := by
  intro pins s σ H vs us Q I r ⟨G, ds, d, hs, f, e, kv, kl⟩
  unfold biD at e
  split at e <;> (try (rename_i h; cases h)) <;> first | (cases e; done) | skip
  obtain ⟨v, u, rfl, f1, f2⟩ := f.pair
  rw [← ok_inj e] at kv
  have e1 := f1.int; have e2 := f2.int; subst e1; subst e2
  exact cr_gcd pins s σ H _ us Q I r ⟨_, _, rfl, kv _ (.int _) rfl⟩
end
end Rf
end

section
/-! Rf2l: methods of lists and dicts by data; those that change a slot's own list. -/
namespace Rf
open PySem PySem.Spec PyProof.Rows L2
section
variable {K : PySem.W.Frag} {Φ : Calls} {W : Wx} {X : Cx} {T T' T1 T2 T3 : Ty1} {pos : Pos} {t u : Ow} {H0 G G' H H' : Hp}
/-- what the layer wants to know of a method's call as it is written -/
structure MOk (X : Cx) (o : Expr) (name : Str) (es : List Expr) (apos cpos : Pos) : Prop where
  base : attributeBase o name X.env (eval o X.env) = eval o X.env
  few : ((backTo cpos (starEach es X.env)).all (fun x => !x.1) && (backToKw cpos (keywordEach [] X.env)).all (fun x => x.1.isSome)
      && decide (es.length + ([] : List Keyword).length + (if ([] : List Keyword).isEmpty then 0 else 1) < 30)) = true
  line : (apos.endLine == cpos.line) = true
  plain : (backTo cpos (starEach es.tail X.env)).any (·.1) = false
  stars : ∀ e r, es = e :: r → starEach (e :: r) X.env = (false, eval e X.env) :: starEach r X.env
/-- a slot's own thing is changed in place -/
theorem SInv.mut {F : Nat → List Addr} {σ : L2.St} {ρ : Env} (I : SInv K H0 G H σ ρ T F) {i : Nat} {a : Addr} {o : HO} {v : V} {d : D} {t : Ow} {Fv : List Addr} (hi : i < ρ.length) (ha : a ∈ F i) (hv : σ[i]? = some (some v)) (r : R K G (upd H a o) t v d Fv) (nd : Fv.Nodup)
    (fr : ∀ b ∈ Fv, H0 b = none) (dj : ∀ j b, j ≠ i → b ∈ Fv → b ∉ F j) : SInv K H0 G (upd H a o) σ (ρ.set i (some d)) (T.set i t) (setF F i Fv) where
  gh := fun b x e => by
    rw [upd_ne (fun z => by subst z; rw [(I.fr i b ha).2.1] at e; cases e)]; exact I.gh b x e
  h0 := fun b x e => by
    rw [upd_ne (fun z => by subst z; rw [(I.fr i b ha).1] at e; cases e)]; exact I.h0 b x e
  ls := by simp [I.ls]
  lt := by simp [I.lt]
  sl := fun j u e e1 e2 e3 => by
    by_cases hj : j = i
    · subst hj
      rw [List.getElem?_set_self (by rw [I.lt]; exact hi)] at e1
      rw [List.getElem?_set_self hi] at e3
      cases e1; cases e3
      refine ⟨v, hv, ?_⟩
      unfold setF; rw [if_pos rfl]; exact r
    · rw [List.getElem?_set_ne (Ne.symm hj)] at e1 e3
      obtain ⟨w, h1, h2⟩ := I.sl j u e e1 e2 e3
      refine ⟨w, h1, ?_⟩
      unfold setF; rw [if_neg hj]
      exact h2.mono (Same.refl G) (fun b hb => (I.fr j b hb).2.1) fun b hb => upd_ne fun z => hj (I.dj j i b hb (z ▸ ha))
  nd := fun j => by
    unfold setF; split
    · exact nd
    · exact I.nd j
  dj := fun j k b h1 h2 => by
    unfold setF at h1 h2
    split at h1 <;> split at h2
    · rename_i p q; rw [p, q]
    · rename_i p q; exact absurd h2 (dj k b q h1)
    · rename_i p q; exact absurd h1 (dj j b p h2)
    · exact I.dj j k b h1 h2
  fr := fun j b h => by
    unfold setF at h
    split at h
    · exact ⟨fr b h, r.gn b h⟩
    · refine ⟨(I.fr j b h).1, (I.fr j b h).2.1, ?_⟩
      by_cases hb : b = a
      · subst hb; rw [upd_same]; rfl
      · rw [upd_ne hb]; exact (I.fr j b h).2.2
theorem mt_ev {m : Mt} {i : Nat} {es : E} {ρ : Env} {H0 : Hp} {k : D × Env → Prop} (hm : m.chg = true) (h : Pst W H0 (ev Φ (.mt m (.var i) es) ρ) k) :
    ∃ x, ρ[i]? = some (some x) ∧ mtOn m x = true ∧ Pst W H0 (ev Φ es ρ) fun p => ∃ ds, p.1 = .tuple ds ∧ Pst W H0 (mtM m x ds) fun q => k (q.1, p.2.set i (some q.2)) := by
  simp only [ev] at h
  obtain ⟨x, e, h⟩ := getS_inv h.bind.bind
  refine ⟨x, e, ?_⟩
  have h : Pst W H0 (if mtOn m x = true then _ else _) k := h
  by_cases hx : mtOn m x = true
  · rw [if_pos hx] at h
    refine ⟨hx, h.bind.map fun p _ h => ?_⟩
    obtain ⟨d, ρ1⟩ := p
    cases d <;> first | exact (h : False).elim | skip
    refine ⟨_, rfl, ?_⟩
    have h : Pst W H0 (if m.chg = true then _ else _) k := h
    rw [if_pos hm] at h
    exact h.bind
  · rw [if_neg hx] at h; exact h.elim
theorem RL.app {P : V → D → List Addr → Prop} : ∀ {xs ys : List V} {ds es : List D} {F F' : List Addr}, RL P xs ds F → RL P ys es F' → RL P (xs ++ ys) (ds ++ es) (F ++ F')
  | [], _, [], _, _, _, h, q => by subst h; exact q
  | x :: xs, _, d :: ds, _, _, _, ⟨F1, F2, rfl, p, r⟩, q => ⟨F1, F2 ++ _, by rw [List.append_assoc], p, r.app q⟩
  | [], _, _ :: _, _, _, _, h, _ => h.elim
  | _ :: _, _, [], _, _, _, h, _ => h.elim
theorem mtOn_list {m : Mt} {x : D} (hm : m.chg = true) (h : mtOn m x = true) : ∃ ds, x = .list ds := by
  cases m <;> simp [Mt.chg] at hm <;> cases x <;> simp [mtOn] at h <;> exact ⟨_, rfl⟩
/-- a slot's own list -/
theorem R.own {c : Ow} {v : V} {ds : List D} {F : List Addr} (r : R K G H (.lst c) v (.list ds) F) : ∃ a xs F', v = .ref a ∧ F = a :: F' ∧ G a = none ∧ H a = some (.lst xs) ∧ RL (R K G H c) xs ds F' := by
  rcases r with ⟨a, xs, ds', F', rfl, e, rfl, hg, hh, r⟩ | ⟨z, e, f, n⟩
  · cases e; exact ⟨a, xs, F', rfl, rfl, hg, hh, r⟩
  · simp [notL] at n
/-- x.append(e), x a slot's own list -/
theorem s_append {o a : Expr} {i : Nat} {e : E} {c j : Ow} {apos cpos : Pos} (hK : X.K = K) (ho : PE X o (tVar i)) (ha : PE X a (tEv K Φ W e T T1 t)) (w : WOk W) (ns : NoStar a) (m : MOk X o "append" [a] apos cpos) (hp : pur e = true)
    (e0 : T[i]? = some (.lst c)) (e1 : T1[i]? = some (.lst c)) (h1 : sub1 (.lst c) (.lst j) = true) (h2 : sub1 t j = true) : PE X (.Call (.Attribute o "append" apos) [a] [] cpos) (tEv K Φ W (.mt .append (.var i) (.cons e .nil)) T (T1.set i (.lst j)) .fz) := by
  refine (pe_bm PySem.F.plainAttrs_list PySem.F.slot_list_append PySem.F.type_list_append mt_append ho (pa_cons ha pa_nil (ns _ _)) m.base m.few m.line (m.stars _ _ rfl) m.plain).wk fun σ H Q ⟨H0, G, ρ, F, I, q⟩ => ?_
  obtain ⟨x, ex, hx, q⟩ := mt_ev (by rfl) q
  obtain ⟨ds, rfl⟩ := mtOn_list (by rfl) hx
  obtain ⟨v, hv, r⟩ := I.sl i _ _ e0 (by simp) ex
  obtain ⟨x, xs, F', rfl, eF, hg, hh, rl⟩ := r.own
  refine ⟨_, hv, .inl ⟨rfl, xs, by rw [hK]; exact .inl (.inl hh)⟩, ?_⟩
  refine ⟨H0, G, ρ, F, I, (cons_ev q).imp w (Same.refl _) fun p ep k v G1 H1 F1 Fv g1 s1 I1 r1 o1 => ?_⟩
  have hρ := ev_pur e hp ep
  have ex1 : p.2[i]? = some (some (.list ds)) := by rw [hρ]; exact ex
  obtain ⟨es, ee, ds2, e2, k⟩ := k
  cases ee; cases e2
  -- the list is taken as one of j, then the item
  obtain ⟨G2, F2, g2, I2, l2, n2, _⟩ := I1.weakAt e1 h1
  have r2 := r1.mono (H' := H1) g2.same (fun b hb => by rw [n2 b (o1.dj i b hb)]; exact (r1.gn b hb).1) fun _ _ => rfl
  have o2 : Own H0 F2 Fv := ⟨o1.nd, o1.fr, fun y b hb q => o1.dj y b hb (l2 y b q)⟩
  obtain ⟨G3, Fw, g3, I3, r3, o3⟩ := R.weakT I2 r2 o2 h2
  have hi1 : i < T1.length := (List.getElem?_eq_some_iff.mp e1).1
  obtain ⟨v3, hv3, rr⟩ := I3.sl i (.lst j) _ (by rw [List.getElem?_set_self hi1]) (by simp) ex1
  rw [hv] at hv3; cases hv3
  obtain ⟨x', xs', F3, ev', eF3, hg3, hh3, rl3⟩ := rr.own
  cases ev'
  have k : Pst W H0 (if ds.length < line then Res.ok (D.none, D.list (ds ++ [p.1])) else .stk) _ := k
  split at k
  · rename_i hlen
    have nd3 := I3.nd i
    rw [eF3] at nd3
    have hx3 : ∀ b ∈ F3, b ≠ x := fun b hb z => by subst z; exact (List.nodup_cons.mp nd3).1 hb
    have hw3 : ∀ b ∈ Fw, b ≠ x := fun b hb z => by subst z; exact o3.dj i b hb (by rw [eF3]; simp)
    have len3 := rl3.len
    refine ⟨x, xs', v, rfl, rfl, hh3, by rw [len3, sizeLine_eq]; exact hlen, ?_⟩
    have rn : R K G3 (upd H1 x (.lst (xs' ++ [v]))) (.lst j) (.ref x) (.list (ds ++ [p.1])) (x :: (F3 ++ Fw)) :=
      .inl ⟨x, _, _, F3 ++ Fw, rfl, rfl, rfl, hg3, upd_same, (rl3.mono fun v d F1 q r => r.mono (Same.refl _) (fun b hb => (r.gn b hb).1) fun b hb => upd_ne (hx3 b (q b hb))).app
        ⟨Fw, [], by simp, r3.mono (Same.refl _) (fun b hb => (r3.gn b hb).1) fun b hb => upd_ne (hw3 b hb), rfl⟩⟩
    have I4 := I3.mut (by rw [← I3.lt, List.length_set]; exact hi1) (by rw [eF3]; simp) hv rn ?_ ?_ ?_
    · rw [List.set_set] at I4
      exact k .non G3 _ _ [] ((g1.trans g2).trans g3) (fun z => by cases z) I4 ⟨rfl, .non⟩ (.nil _ _)
    · rw [← List.cons_append]
      refine List.nodup_append.mpr ⟨nd3, o3.nd, fun b hb c hc z => ?_⟩
      subst z
      exact o3.dj i b hc (by rw [eF3]; exact hb)
    · intro b hb
      rcases List.mem_cons.mp hb with rfl | hb
      · exact (I3.fr i b (by rw [eF3]; simp)).1
      · rcases List.mem_append.mp hb with hb | hb
        · exact (I3.fr i b (by rw [eF3]; simp [hb])).1
        · exact o3.fr b hb
    · intro y b hy hb hc
      rcases List.mem_cons.mp hb with rfl | hb
      · exact hy (I3.dj y i b hc (by rw [eF3]; simp))
      · rcases List.mem_append.mp hb with hb | hb
        · exact hy (I3.dj y i b hc (by rw [eF3]; simp [hb]))
        · exact o3.dj y b hb hc
  · exact (k : False).elim
/-- a slot's own list of frozen items: any other such list may stand in its place -/
theorem SInv.mutF {F : Nat → List Addr} {σ : L2.St} {ρ : Env} (I : SInv K H0 G H σ ρ T F) {i : Nat} {c : Ow} {ds : List D} {v : V} (e0 : T[i]? = some (.lst c)) (hc : c = .fz ∨ c = .bot) (ex : ρ[i]? = some (some (.list ds))) (hv : σ[i]? = some (some v)) :
    ∃ x xs, v = .ref x ∧ H x = some (.lst xs) ∧ FzA K G xs ds ∧ ∀ xs' ds', FzA K G xs' ds' → SInv K H0 G (upd H x (.lst xs')) σ (ρ.set i (some (.list ds'))) (T.set i (.lst .fz)) (setF F i [x]) := by
  obtain ⟨w, hw, r⟩ := I.sl i _ _ e0 (by simp) ex
  rw [hv] at hw; cases hw
  obtain ⟨x, xs, F', rfl, eF, hg, hh, rl⟩ := r.own
  have f : FzA K G xs ds := by
    rcases hc with rfl | rfl
    · exact rl.fz.2
    · exact (RL.fz (H := H) (rl.mono fun _ _ _ _ p => p.elim)).2
  refine ⟨x, xs, rfl, hh, f, fun xs' ds' f' => ?_⟩
  have hi : i < ρ.length := (List.getElem?_eq_some_iff.mp ex).1
  refine I.mut hi (by rw [eF]; simp) hv (.inl ⟨x, xs', ds', [], rfl, rfl, rfl, hg, upd_same, f'.rl⟩) (by simp) (fun b hb => ?_) fun j b hj hb q => ?_
  · have e : b = x := by simpa using hb
    subst e
    exact (I.fr i b (by rw [eF]; simp)).1
  · have e : b = x := by simpa using hb
    subst e
    exact hj (I.dj j i b q (by rw [eF]; simp))
theorem FzA.dropLast : ∀ {xs : List V} {ds : List D}, FzA K G xs ds → FzA K G xs.dropLast ds.dropLast := fun {xs ds} f => by
  rw [List.dropLast_eq_take, List.dropLast_eq_take, f.len]
  exact f.take _
/-- x.pop() -/
theorem s_pop {o : Expr} {i : Nat} {c : Ow} {apos cpos : Pos} (hK : X.K = K) (ho : PE X o (tVar i)) (hb : attributeBase o "pop" X.env (eval o X.env) = eval o X.env) (hl : (apos.endLine == cpos.line) = true)
    (e0 : T[i]? = some (.lst c)) (hc : c = .fz ∨ c = .bot) : PE X (.Call (.Attribute o "pop" apos) [] [] cpos) (tEv K Φ W (.mt .pop (.var i) .nil) T (T.set i (.lst .fz)) .fz) := by
  refine (pe_bm0 PySem.F.plainAttrs_list PySem.F.slot_list_pop PySem.F.type_list_pop mt_pop ho hb hl).wk fun σ H Q ⟨H0, G, ρ, F, I, q⟩ => ?_
  obtain ⟨x, ex, hx, q⟩ := mt_ev (by rfl) q
  obtain ⟨ds, rfl⟩ := mtOn_list (by rfl) hx
  obtain ⟨v, hv, _⟩ := I.sl i _ _ e0 (by simp) ex
  obtain ⟨x, xs, rfl, hh, f, mk⟩ := I.mutF e0 hc ex hv
  refine ⟨_, hv, .inl ⟨rfl, xs, by rw [hK]; exact .inl (.inl hh)⟩, ?_⟩
  obtain ⟨es, ee, q⟩ := q
  cases ee
  have q : Pst W H0 (match ds[ds.length - 1]? with | some x => Res.ok (x, D.list ds.dropLast) | none => .stk) _ := q
  cases hl : ds[ds.length - 1]? with
  | none => rw [hl] at q; exact q.elim
  | some d =>
    rw [hl] at q
    obtain ⟨y, h1, h2⟩ := f.get hl
    exact ⟨x, xs, y, rfl, rfl, hh, by rw [f.len]; exact h1, q y G _ _ [] (.refl _ _) (fun z => by cases z) (mk _ _ f.dropLast) ⟨rfl, h2⟩ (.nil _ _)⟩
/-- x.pop(0) -/
theorem s_pop0 {o a : Expr} {i : Nat} {c : Ow} {apos cpos : Pos} (hK : X.K = K) (ho : PE X o (tVar i)) (ha : PE X a (tC (.int 0))) (ns : NoStar a) (m : MOk X o "pop" [a] apos cpos)
    (e0 : T[i]? = some (.lst c)) (hc : c = .fz ∨ c = .bot) : PE X (.Call (.Attribute o "pop" apos) [a] [] cpos) (tEv K Φ W (.mt .pop (.var i) (.cons (.lit (.int 0)) .nil)) T (T.set i (.lst .fz)) .fz) := by
  refine (pe_bm PySem.F.plainAttrs_list PySem.F.slot_list_pop PySem.F.type_list_pop mt_popAt ho (pa_cons ha pa_nil (ns _ _)) m.base m.few m.line (m.stars _ _ rfl) m.plain).wk fun σ H Q ⟨H0, G, ρ, F, I, q⟩ => ?_
  obtain ⟨x, ex, hx, q⟩ := mt_ev (by rfl) q
  obtain ⟨ds, rfl⟩ := mtOn_list (by rfl) hx
  obtain ⟨v, hv, _⟩ := I.sl i _ _ e0 (by simp) ex
  obtain ⟨x, xs, rfl, hh, f, mk⟩ := I.mutF e0 hc ex hv
  refine ⟨_, hv, .inl ⟨rfl, xs, by rw [hK]; exact .inl (.inl hh)⟩, ?_⟩
  obtain ⟨es, ee, q⟩ := q
  cases ee
  cases ds with
  | nil => exact (q : False).elim
  | cons d r =>
    cases f with
    | @cons y ys _ _ f1 f2 =>
      exact ⟨x, y :: ys, 0, 0, y, rfl, rfl, hh, by decide, by decide, (ixN_seq (j := 0) (by unfold L2.ixN; simp)).1, rfl, q y G _ _ [] (.refl _ _) (fun z => by cases z) (mk _ _ f2) ⟨rfl, f1⟩ (.nil _ _)⟩
end
end Rf
end

section
/-! Rf2m: what is walked, by data. -/
namespace Rf
open PySem PySem.Spec PyProof.Rows L2
/-- J walks the data ds, as long as what B has stands; the items are frozen in G -/
structure ItOk (K : PySem.W.Frag) (B G : Hp) (J : It) (ds : List D) : Prop where
  go : ∀ i H, Same B H → i < ds.length → J.go i H
  stop : ∀ i H, Same B H → ds.length ≤ i → J.stop i H
  yld : ∀ i H x H', Same B H → J.yld i H x H' → ∀ d, ds[i]? = some d → (H' = H ∧ Fz K G x d) ∨ ∃ p xs es, H p = none ∧ H' = upd H p (.tup xs) ∧ x = .ref p ∧ d = .tuple es ∧ FzA K G xs es
def Bs (fr : Bool) (G H : Hp) : Hp := if fr then G else H
theorem Bs.le {fr : Bool} {G H : Hp} (s : Same G H) : Same (Bs fr G H) H := by
  unfold Bs; split
  · exact s
  · exact Same.refl H
theorem Bs.ge {fr : Bool} {G H : Hp} (s : Same G H) : Same G (Bs fr G H) := by
  unfold Bs; split
  · exact Same.refl G
  · exact s
/-- a value that is walked: frozen, or looked at -/
def InP (K : PySem.W.Frag) (fr : Bool) (G H : Hp) (v : V) (d : D) : Prop := if fr then Fz K G v d else RFl K G H v d
section
variable {K : PySem.W.Frag} {Φ : Calls} {W : Wx} {X : Cx} {T T' T1 T2 T3 : Ty1} {pos : Pos} {t u : Ow} {H0 G G' H H' : Hp} {fr : Bool}
theorem InP.list {v : V} {ds : List D} (h : InP K fr G H v (.list ds)) (s : Same G H) : ∃ a xs, v = .ref a ∧ Bs fr G H a = some (.lst xs) ∧ FzA K G xs ds := by
  unfold InP at h
  unfold Bs
  cases fr with
  | true => rw [if_pos rfl] at h ⊢; cases h with | lst a b => exact ⟨_, _, rfl, a, b⟩
  | false => rw [if_neg (by decide)] at h ⊢; exact h.list s
theorem InP.fz {v : V} {d : D} (h : InP K fr G H v d) (h1 : ∀ ds, d ≠ .list ds) (h2 : ∀ ds, d ≠ .dict ds) : Fz K G v d := by
  unfold InP at h
  split at h
  · exact h
  · exact h.fz h1 h2
theorem InP.int {v : V} {i : Int} (h : InP K fr G H v (.int i)) : v = .int i := by
  have q := h.fz (by simp) (by simp); cases q; rfl
theorem it_list {a : Addr} {xs : List V} {ds : List D} {B : Hp} (h : B a = some (.lst xs)) (f : FzA K G xs ds) : ItOk K B G (Itl K a) ds where
  go := fun i H s hi => by
    obtain ⟨v, h1, _⟩ := f.get (List.getElem?_eq_getElem hi)
    exact ⟨xs, v, .inl (.inl (s _ _ h)), h1⟩
  stop := fun i H s hi => ⟨xs, .inl (.inl (s _ _ h)), by rw [f.len]; exact hi⟩
  yld := fun i H x H' s ⟨e, q⟩ d hd => by
    obtain ⟨v, h1, h2⟩ := f.get hd
    have := q xs (.inl (.inl (s _ _ h)))
    rw [h1] at this; cases this
    exact .inl ⟨e, h2⟩
theorem it_scr {a : Addr} {ns : List Int} {B : Hp} (h : SqL K B a (ns.map V.int)) : ItOk K B G (Itl K a) (ns.map .int) where
  go := fun i H s hi => by
    rw [List.length_map] at hi
    exact ⟨ns.map V.int, .int ns[i], s.seq h, by simp [hi]⟩
  stop := fun i H s hi => ⟨ns.map V.int, s.seq h, by simpa using hi⟩
  yld := fun i H x H' s ⟨e, q⟩ d hd => by
    obtain ⟨v, h1, h2⟩ := (FzA.intsV (K := K) (G := G) ns).get hd
    have := q _ (s.seq h)
    rw [h1] at this; cases this
    exact .inl ⟨e, h2⟩
theorem it_tup {a : Addr} {xs : List V} {ds : List D} {B : Hp} (h : SqT K B a xs) (f : FzA K G xs ds) : ItOk K B G (Itt K a) ds where
  go := fun i H s hi => by
    obtain ⟨v, h1, _⟩ := f.get (List.getElem?_eq_getElem hi)
    exact ⟨xs, v, seqT s h, h1⟩
  stop := fun i H s hi => ⟨xs, seqT s h, by rw [f.len]; exact hi⟩
  yld := fun i H x H' s ⟨e, q⟩ d hd => by
    obtain ⟨v, h1, h2⟩ := f.get hd
    have := q xs (seqT s h)
    rw [h1] at this; cases this
    exact .inl ⟨e, h2⟩
theorem rng_len : ∀ (n : Nat) (lo : Int), (rng lo n).length = n
  | 0, _ => rfl
  | n + 1, lo => by simp [rng, rng_len n]
theorem rng_get : ∀ (n : Nat) (lo : Int) (i : Nat), i < n → (rng lo n)[i]? = some (.int (lo + i))
  | 0, _, _, h => by omega
  | n + 1, lo, 0, _ => by simp [rng]
  | n + 1, lo, i + 1, h => by
    simp only [rng, List.getElem?_cons_succ]
    rw [rng_get n (lo + 1) i (by omega)]
    congr 2; push_cast; omega
theorem it_rng {lo : Int} {n : Nat} {B : Hp} : ItOk K B G (Itr lo n) (rng lo n) where
  go := fun i H _ hi => by rw [rng_len] at hi; exact hi
  stop := fun i H _ hi => by rw [rng_len] at hi; exact hi
  yld := fun i H x H' _ ⟨e, q⟩ d hd => by
    have hi : i < n := by have := (List.getElem?_eq_some_iff.mp hd).1; rwa [rng_len] at this
    rw [rng_get n lo i hi] at hd
    cases hd
    exact .inl ⟨e, by rw [q]; exact .int _⟩
theorem rngC_len (c : Int) : ∀ (n : Nat) (lo : Int), (rngC lo c n).length = n
  | 0, _ => rfl
  | n + 1, lo => by simp [rngC, rngC_len c n]
theorem rngC_get (c : Int) : ∀ (n : Nat) (lo : Int) (i : Nat), i < n → (rngC lo c n)[i]? = some (.int (lo + i * c))
  | 0, _, _, h => by omega
  | n + 1, lo, 0, _ => by simp [rngC]
  | n + 1, lo, i + 1, h => by
    simp only [rngC, List.getElem?_cons_succ]
    rw [rngC_get c n (lo + c) i (by omega)]
    congr 2; push_cast; rw [Int.add_mul]; omega
theorem it_rngC {lo c : Int} {n : Nat} {B : Hp} : ItOk K B G (Itc lo c n) (rngC lo c n) where
  go := fun i H _ hi => by rw [rngC_len] at hi; exact hi
  stop := fun i H _ hi => by rw [rngC_len] at hi; exact hi
  yld := fun i H x H' _ ⟨e, q⟩ d hd => by
    have hi : i < n := by have := (List.getElem?_eq_some_iff.mp hd).1; rwa [rngC_len] at this
    rw [rngC_get c n lo i hi] at hd
    cases hd
    exact .inl ⟨e, by rw [q]; exact .int _⟩
theorem enum_len : ∀ (ds : List D) (k : Nat), (enum k ds).length = ds.length
  | [], _ => rfl
  | _ :: r, k => by simp [enum, enum_len r]
theorem enum_get : ∀ (ds : List D) (k i : Nat) (d : D), ds[i]? = some d → (enum k ds)[i]? = some (.tuple [.int ((k + i : Nat) : Int), d])
  | [], _, _, _, h => by simp at h
  | e :: r, k, 0, d, h => by simp at h; subst h; simp [enum]
  | e :: r, k, i + 1, d, h => by
    simp only [enum, List.getElem?_cons_succ]
    rw [enum_get r (k + 1) i d (by simpa using h)]
    congr 4; omega
theorem it_enum {a : Addr} {xs : List V} {ds : List D} {B : Hp} (h : B a = some (.lst xs)) (f : FzA K G xs ds) : ItOk K B G (Ite K a) (enum 0 ds) where
  go := fun i H s hi => by
    rw [enum_len] at hi
    obtain ⟨v, h1, _⟩ := f.get (List.getElem?_eq_getElem hi)
    exact ⟨xs, v, .inl (.inl (s _ _ h)), h1⟩
  stop := fun i H s hi => ⟨xs, .inl (.inl (s _ _ h)), by rw [f.len]; rwa [enum_len] at hi⟩
  yld := fun i H x H' s ⟨p, y, e1, e2, e3, q⟩ d hd => by
    have hi : i < ds.length := by have := (List.getElem?_eq_some_iff.mp hd).1; rwa [enum_len] at this
    rw [enum_get ds 0 i _ (List.getElem?_eq_getElem hi)] at hd
    cases hd
    obtain ⟨v, h1, h2⟩ := f.get (List.getElem?_eq_getElem hi)
    have := q xs (.inl (.inl (s _ _ h)))
    rw [h1] at this; cases this
    exact .inr ⟨p, _, _, e2, e3, e1, rfl, by rw [Nat.zero_add]; exact .cons (.int _) (.cons h2 .nil)⟩
theorem zip_len : ∀ (as bs : List D), (zipD as bs).length = min as.length bs.length
  | [], _ => by simp [zipD]
  | _ :: _, [] => by simp [zipD]
  | _ :: as, _ :: bs => by simp [zipD, zip_len as bs]
theorem zip_get : ∀ (as bs : List D) (i : Nat) (a b : D), as[i]? = some a → bs[i]? = some b → (zipD as bs)[i]? = some (.tuple [a, b])
  | [], _, _, _, _, h, _ => by simp at h
  | _ :: _, [], _, _, _, _, h => by simp at h
  | x :: as, y :: bs, 0, _, _, h, k => by simp at h k; subst h; subst k; simp [zipD]
  | x :: as, y :: bs, i + 1, _, _, h, k => by
    simp only [zipD, List.getElem?_cons_succ]
    exact zip_get as bs i _ _ (by simpa using h) (by simpa using k)
theorem it_zip {a b : Addr} {xs ys : List V} {ds es : List D} {B : Hp} (h : B a = some (.lst xs)) (f : FzA K G xs ds) (h' : B b = some (.lst ys)) (f' : FzA K G ys es) : ItOk K B G (Itz K a b) (zipD ds es) where
  go := fun i H s hi => by
    rw [zip_len] at hi
    obtain ⟨v, h1, _⟩ := f.get (List.getElem?_eq_getElem (show i < ds.length by omega))
    obtain ⟨u, h2, _⟩ := f'.get (List.getElem?_eq_getElem (show i < es.length by omega))
    exact ⟨xs, ys, v, u, .inl (.inl (s _ _ h)), .inl (.inl (s _ _ h')), h1, h2⟩
  stop := fun i H s hi => ⟨xs, ys, .inl (.inl (s _ _ h)), .inl (.inl (s _ _ h')), by rw [zip_len] at hi; rw [f.len, f'.len]; omega⟩
  yld := fun i H x H' s ⟨p, y, z, e1, e2, e3, q, q'⟩ d hd => by
    have hi : i < min ds.length es.length := by have := (List.getElem?_eq_some_iff.mp hd).1; rwa [zip_len] at this
    have i1 : i < ds.length := by omega
    have i2 : i < es.length := by omega
    rw [zip_get ds es i _ _ (List.getElem?_eq_getElem i1) (List.getElem?_eq_getElem i2)] at hd
    cases hd
    obtain ⟨v, h1, h2⟩ := f.get (List.getElem?_eq_getElem i1)
    obtain ⟨u, k1, k2⟩ := f'.get (List.getElem?_eq_getElem i2)
    have := q xs (.inl (.inl (s _ _ h)))
    rw [h1] at this; cases this
    have := q' ys (.inl (.inl (s _ _ h')))
    rw [k1] at this; cases this
    exact .inr ⟨p, _, _, e2, e3, e1, rfl, .cons h2 (.cons k2 .nil)⟩
end
end Rf
end

section
/-! Rf2n: walks as readings; list comprehensions. -/
namespace Rf
open PySem PySem.Spec PyProof.Rows L2
section
variable (K : PySem.W.Frag) (Φ : Calls) (W : Wx)
def tEvP (fr : Bool) (e : E) (T T' : Ty1) : TE := fun σ H Q => ∃ H0 G ρ F, SInv K H0 G H σ ρ T F ∧ Pst W H0 (ev Φ e ρ) fun q =>
  ∀ v G' H' F', GS H0 G G' → (pur e = true → Same H H') → SInv K H0 G' H' σ q.2 T' F' → InP K fr G' H' v q.1 → Q v H'
/-- what is walked -/
def tIt (fr : Bool) (e : E) (T T' : Ty1) : TI := fun σ H R => ∃ H0 G ρ F, SInv K H0 G H σ ρ T F ∧ Pst W H0 (ev Φ e ρ) fun q => Pst W H0 (itemsD q.1) fun ds =>
  ∀ J G' H' F', GS H0 G G' → (pur e = true → Same H H') → SInv K H0 G' H' σ q.2 T' F' → ItOk K (Bs fr G' H') G' J ds → R J H'
end
inductive InPs (K : PySem.W.Frag) (fr : Bool) (G H : Hp) : List V → List D → Prop
  | nil : InPs K fr G H [] []
  | cons {v : V} {vs : List V} {d : D} {ds : List D} : InP K fr G H v d → InPs K fr G H vs ds → InPs K fr G H (v :: vs) (d :: ds)
section
variable (K : PySem.W.Frag) (Φ : Calls) (W : Wx)
def tEvPs (fr : Bool) (e : E) (T T' : Ty1) : TA := fun σ H Q => ∃ H0 G ρ F, SInv K H0 G H σ ρ T F ∧ Pst W H0 (ev Φ e ρ) fun q =>
  ∀ ds, q.1 = .tuple ds → ∀ vs G' H' F', GS H0 G G' → (pur e = true → Same H H') → SInv K H0 G' H' σ q.2 T' F' → InPs K fr G' H' vs ds → Q vs H'
end
section
variable {K : PySem.W.Frag} {Φ : Calls} {W : Wx} {X : Cx} {T T' T1 T2 T3 : Ty1} {pos : Pos} {t u : Ow} {H0 G G' H H' : Hp} {fr : Bool}
theorem p_ofC {x : Expr} {e : E} (h : PE X x (tEvC K Φ W e T T')) (w : WOk W) : PE X x (tEvP K Φ W false e T T') := by
  refine h.wk fun σ H Q ⟨H0, G, ρ, F, I, q⟩ => ⟨H0, G, ρ, F, I, q.imp w (Same.refl _) fun p _ k v G' H' F' g s I' r => ?_⟩
  exact k v G' H' F' g s I' (by unfold InP; rw [if_neg (by decide)]; exact r)
theorem p_ofF {x : Expr} {e : E} (h : PE X x (tEv K Φ W e T T' .fz)) (w : WOk W) : PE X x (tEvP K Φ W true e T T') := by
  refine h.wk fun σ H Q ⟨H0, G, ρ, F, I, q⟩ => ⟨H0, G, ρ, F, I, q.imp w (Same.refl _) fun p _ k v G' H' F' Fv g s I' r _ => ?_⟩
  exact k v G' H' F' g s I' (by unfold InP; rw [if_pos rfl]; exact r.2)
theorem ps_ofC {xs : List Expr} {e : E} (h : PA X xs (tEvCs K Φ W e T T')) (w : WOk W) : PA X xs (tEvPs K Φ W false e T T') := by
  refine h.wk fun σ H Q ⟨H0, G, ρ, F, I, q⟩ => ⟨H0, G, ρ, F, I, q.imp w (Same.refl _) fun p _ k ds e vs G' H' F' g s I' r => ?_⟩
  refine k ds e vs G' H' F' g s I' ?_
  clear e
  induction r with
  | nil => exact .nil
  | cons a _ ih => exact .cons (by unfold InP; rw [if_neg (by decide)]; exact a) ih
theorem ps_ofF {xs : List Expr} {e : E} (h : PA X xs (tEvF K Φ W e T T')) (w : WOk W) : PA X xs (tEvPs K Φ W true e T T') := by
  refine h.wk fun σ H Q ⟨H0, G, ρ, F, I, q⟩ => ⟨H0, G, ρ, F, I, q.imp w (Same.refl _) fun p _ k ds e vs G' H' F' g s I' r => ?_⟩
  refine k ds e vs G' H' F' g s I' ?_
  clear e k
  induction ds generalizing vs with
  | nil => cases r; exact .nil
  | cons d ds ih => cases r with | cons a b => exact .cons (by unfold InP; rw [if_pos rfl]; exact a) (ih _ b)
theorem InPs.one {vs : List V} {d : D} (h : InPs K fr G H vs [d]) : ∃ v, vs = [v] ∧ InP K fr G H v d := by
  cases h with | cons a b => cases b; exact ⟨_, rfl, a⟩
theorem InPs.pair {vs : List V} {d e : D} (h : InPs K fr G H vs [d, e]) : ∃ v u, vs = [v, u] ∧ InP K fr G H v d ∧ InP K fr G H u e := by
  cases h with | cons a b => obtain ⟨u, rfl, c⟩ := b.one; exact ⟨_, u, rfl, a, c⟩
theorem InPs.three {vs : List V} {d e f : D} (h : InPs K fr G H vs [d, e, f]) : ∃ v u x, vs = [v, u, x] ∧ InP K fr G H v d ∧ InP K fr G H u e ∧ InP K fr G H x f := by
  cases h with | cons a b => obtain ⟨u, x, rfl, c, y⟩ := b.pair; exact ⟨_, u, x, rfl, a, c, y⟩
/-- a list, a tuple, the script -/
theorem i_val {x tg : Expr} {e : E} (hK : X.K = K) (h : PE X x (tEvP K Φ W fr e T T')) (w : WOk W) : PI X tg x (tIt K Φ W fr e T T') := by
  refine ((pi_list (tg := tg) h).orr (pi_tup (tg := tg) h)).wk fun σ H R ⟨H0, G, ρ, F, I, q⟩ => ?_
  by_cases hx : ∃ p ds, ev Φ e ρ = .ok p ∧ p.1 = .tuple ds
  · obtain ⟨p0, ds, e1, e2⟩ := hx
    refine .inr ⟨H0, G, ρ, F, I, q.imp w (Same.refl _) fun p e1' k v G1 H1 F1 g s I1 r => ?_⟩
    rw [e1] at e1'; have z := ok_inj e1'; subst z
    rw [e2] at r k
    have f := r.fz (by simp) (by simp)
    cases f with
    | tup a b => exact ⟨_, rfl, ⟨_, by rw [hK]; exact seqT I1.gh a⟩, by rw [hK]; exact k _ G1 H1 F1 g s I1 (it_tup (seqT (Bs.ge I1.gh) a) b)⟩
  · refine .inl ⟨H0, G, ρ, F, I, q.imp w (Same.refl _) fun p e1 k v G1 H1 F1 g s I1 r => ?_⟩
    obtain ⟨d, ρ1⟩ := p
    cases d with
    | list ds =>
      obtain ⟨a, xs, rfl, hx, f⟩ := r.list I1.gh
      exact ⟨a, rfl, ⟨xs, by rw [hK]; exact .inl (.inl (Bs.le I1.gh _ _ hx))⟩, by rw [hK]; exact k _ G1 H1 F1 g s I1 (it_list hx f)⟩
    | tuple ds => exact absurd ⟨_, ds, e1, rfl⟩ hx
    | scr ns =>
      have f := r.fz (by simp) (by simp)
      cases f with
      | scr a => exact ⟨_, rfl, ⟨_, by rw [hK]; exact I1.gh.seq a⟩, by rw [hK]; exact k _ G1 H1 F1 g s I1 (it_scr ((Bs.ge I1.gh).seq a))⟩
    | _ => exact (k : False).elim
theorem i_ev {b : Bi} {es : E} {ρ : Env} {k : List D → Env → Prop} (h : Pst W H0 (ev Φ (.bi b es) ρ) fun q => Pst W H0 (itemsD q.1) fun ds => k ds q.2) :
    Pst W H0 (ev Φ es ρ) fun p => ∃ as, p.1 = .tuple as ∧ ∃ d, biD b as = .ok d ∧ Pst W H0 (itemsD d) fun ds => k ds p.2 := by
  refine (bi_ev h).map fun p _ ⟨as, e, h⟩ => ⟨as, e, ?_⟩
  cases hd : biD b as with
  | ok d => rw [hd] at h; exact ⟨d, rfl, h⟩
  | stk => rw [hd] at h; exact h.elim
  | exn c as => exact absurd hd biD_noexn
theorem i_range1 {fr2 : Bool} {tg a : Expr} {es : E} {p : Pos} (hg : Gl X "range") (hm : X.mg "range" = none) (ha : PA X [a] (tEvPs K Φ W fr es T T')) (w : WOk W) (ns : NoStar a) (hn : ∀ ρ p as, ev Φ es ρ = .ok p → p.1 = .tuple as → as.length = 1) :
    PI X tg (.Call (.Name "range" p) [a] [] pos) (tIt K Φ W fr2 (.bi .range es) T T') := by
  refine (pi_range1 (tg := tg) (p := p) (pos := pos) hg hm ha (by rw [ns]; rfl)).wk fun σ H R ⟨H0, G, ρ, F, I, q⟩ => ?_
  refine ⟨H0, G, ρ, F, I, (i_ev (b := .range) (k := fun ds ρ1 => ∀ J G' H' F', GS H0 G G' → (pur (.bi .range es) = true → Same H H') → SInv K H0 G' H' σ ρ1 T' F' → ItOk K (Bs fr2 G' H') G' J ds → R J H') q).imp w (Same.refl _) fun p e1 ⟨as, e2, d, hd, k⟩ ds e3 vs G1 H1 F1 g s I1 r => ?_⟩
  rw [e2] at e3; cases e3
  have hl := hn ρ p _ e1 e2
  match ds, hl with
  | [x], _ =>
    obtain ⟨v, rfl, r1⟩ := r.one
    obtain ⟨j, rfl⟩ : ∃ j, x = .int j := by cases x with | int j => exact ⟨j, rfl⟩ | _ => cases hd
    have e := r1.int; subst e
    obtain ⟨hz, e⟩ := if_ok (show (if rOk j && decide (j ≤ line) then Res.ok (D.list (rng 0 j.toNat)) else .stk) = _ from hd)
    subst e
    simp only [Bool.and_eq_true, rOk, decide_eq_true_eq] at hz
    exact ⟨j, rfl, hz.1.1, hz.1.2, k _ G1 H1 F1 g s I1 it_rng⟩
theorem i_range2 {fr2 : Bool} {tg a b : Expr} {es : E} {p : Pos} (hg : Gl X "range") (hm : X.mg "range" = none) (ha : PA X [a, b] (tEvPs K Φ W fr es T T')) (w : WOk W) (ns : NoStar a) (ns2 : NoStar b) (hn : ∀ ρ p as, ev Φ es ρ = .ok p → p.1 = .tuple as → as.length = 2) :
    PI X tg (.Call (.Name "range" p) [a, b] [] pos) (tIt K Φ W fr2 (.bi .range es) T T') := by
  refine (pi_range2 (tg := tg) (p := p) (pos := pos) hg hm ha (by rw [ns, ns2]; rfl) (by rw [ns2]; rfl)).wk fun σ H R ⟨H0, G, ρ, F, I, q⟩ => ?_
  refine ⟨H0, G, ρ, F, I, (i_ev (b := .range) (k := fun ds ρ1 => ∀ J G' H' F', GS H0 G G' → (pur (.bi .range es) = true → Same H H') → SInv K H0 G' H' σ ρ1 T' F' → ItOk K (Bs fr2 G' H') G' J ds → R J H') q).imp w (Same.refl _) fun p e1 ⟨as, e2, d, hd, k⟩ ds e3 vs G1 H1 F1 g s I1 r => ?_⟩
  rw [e2] at e3; cases e3
  have hl := hn ρ p _ e1 e2
  match ds, hl with
  | [x, y], _ =>
    obtain ⟨v, u, rfl, r1, r2⟩ := r.pair
    obtain ⟨i, rfl⟩ : ∃ j, x = .int j := by cases x with | int j => exact ⟨j, rfl⟩ | _ => cases hd
    obtain ⟨j, rfl⟩ : ∃ j, y = .int j := by cases y with | int j => exact ⟨j, rfl⟩ | _ => cases hd
    have e := r1.int; subst e
    have e := r2.int; subst e
    obtain ⟨hz, e⟩ := if_ok (show (if rOk i && rOk j && decide (j - i ≤ line) then Res.ok (D.list (rng i (j - i).toNat)) else .stk) = _ from hd)
    subst e
    simp only [Bool.and_eq_true, rOk, decide_eq_true_eq] at hz
    exact ⟨i, j, rfl, ⟨hz.1.1.1, hz.1.1.2, hz.1.2.1, hz.1.2.2⟩, k _ G1 H1 F1 g s I1 it_rng⟩
theorem i_enum {a : Expr} {es : E} {p tpos : Pos} {elts : List Expr} {kk : Nat} (hK : X.K = K) (hg : Gl X "enumerate") (hm : X.mg "enumerate" = none) (ha : PA X [a] (tEvPs K Φ W fr es T T')) (w : WOk W) (ns : NoStar a) (hn : ∀ ρ p as, ev Φ es ρ = .ok p → p.1 = .tuple as → as.length = 1) :
    PI X (.Tuple elts kk tpos) (.Call (.Name "enumerate" p) [a] [] pos) (tIt K Φ W fr (.bi .enumerate es) T T') := by
  refine (pi_enum (elts := elts) (kk := kk) (tpos := tpos) (p := p) (pos := pos) hg hm ha (by rw [ns]; rfl)).wk fun σ H R ⟨H0, G, ρ, F, I, q⟩ => ?_
  refine ⟨H0, G, ρ, F, I, (i_ev (b := .enumerate) (k := fun ds ρ1 => ∀ J G' H' F', GS H0 G G' → (pur (.bi .enumerate es) = true → Same H H') → SInv K H0 G' H' σ ρ1 T' F' → ItOk K (Bs fr G' H') G' J ds → R J H') q).imp w (Same.refl _) fun p e1 ⟨as, e2, d, hd, k⟩ ds e3 vs G1 H1 F1 g s I1 r => ?_⟩
  rw [e2] at e3; cases e3
  have hl := hn ρ p _ e1 e2
  match ds, hl with
  | [x], _ =>
    obtain ⟨v, rfl, r1⟩ := r.one
    obtain ⟨ds, rfl⟩ : ∃ j, x = .list j := by cases x with | list j => exact ⟨j, rfl⟩ | _ => cases hd
    have e := ok_inj (show Res.ok (D.list (enum 0 ds)) = _ from hd); subst e
    obtain ⟨a, xs, rfl, hx, f⟩ := r1.list I1.gh
    exact ⟨a, xs, rfl, by rw [hK]; exact .inl (.inl (Bs.le I1.gh _ _ hx)), by rw [hK]; exact k _ G1 H1 F1 g s I1 (it_enum hx f)⟩
theorem i_zip {a b : Expr} {es : E} {p tpos : Pos} {elts : List Expr} {kk : Nat} (hK : X.K = K) (hg : Gl X "zip") (hm : X.mg "zip" = none) (ha : PA X [a, b] (tEvPs K Φ W fr es T T')) (w : WOk W) (ns : NoStar a) (ns2 : NoStar b) (hn : ∀ ρ p as, ev Φ es ρ = .ok p → p.1 = .tuple as → as.length = 2) :
    PI X (.Tuple elts kk tpos) (.Call (.Name "zip" p) [a, b] [] pos) (tIt K Φ W fr (.bi .zip es) T T') := by
  refine (pi_zip (elts := elts) (kk := kk) (tpos := tpos) (p := p) (pos := pos) hg hm ha (by rw [ns]) (by rw [ns2]; rfl)).wk fun σ H R ⟨H0, G, ρ, F, I, q⟩ => ?_
  refine ⟨H0, G, ρ, F, I, (i_ev (b := .zip) (k := fun ds ρ1 => ∀ J G' H' F', GS H0 G G' → (pur (.bi .zip es) = true → Same H H') → SInv K H0 G' H' σ ρ1 T' F' → ItOk K (Bs fr G' H') G' J ds → R J H') q).imp w (Same.refl _) fun p e1 ⟨as, e2, d, hd, k⟩ ds e3 vs G1 H1 F1 g s I1 r => ?_⟩
  rw [e2] at e3; cases e3
  have hl := hn ρ p _ e1 e2
  match ds, hl with
  | [x, y], _ =>
    obtain ⟨v, u, rfl, r1, r2⟩ := r.pair
    obtain ⟨ds, rfl⟩ : ∃ j, x = .list j := by cases x with | list j => exact ⟨j, rfl⟩ | _ => cases hd
    obtain ⟨es, rfl⟩ : ∃ j, y = .list j := by cases y with | list j => exact ⟨j, rfl⟩ | _ => cases hd
    have e := ok_inj (show Res.ok (D.list (zipD ds es)) = _ from hd); subst e
    obtain ⟨a, xs, rfl, hx, f⟩ := r1.list I1.gh
    obtain ⟨b, ys, rfl, hy, f'⟩ := r2.list I1.gh
    exact ⟨a, b, xs, ys, rfl, by rw [hK]; exact .inl (.inl (Bs.le I1.gh _ _ hx)), by rw [hK]; exact .inl (.inl (Bs.le I1.gh _ _ hy)), by rw [hK]; exact k _ G1 H1 F1 g s I1 (it_zip hx f hy f')⟩

/-! targets of names -/
/-- a target takes a frozen value -/
def tBind (K : PySem.W.Frag) (tg : E) (T T' : Ty1) : TG := fun v σ H Q => ∃ H0 G ρ F d, SInv K H0 G H σ ρ T F ∧ Fz K G v d ∧ ∃ ρ', bindN tg d ρ = .ok ρ' ∧ ∀ σ' F', SInv K H0 G H σ' ρ' T' F' → σ'.length = σ.length → Q σ' H
end
end Rf
end

section
/-! Rf2o: targets. -/
namespace Rf
open PySem PySem.Spec PyProof.Rows L2
theorem _root_.L2.PG.wk {X : Cx} {e : Expr} {t t' : TG} (h : PG X e t) (i : ∀ v σ H Q, t' v σ H Q → t v σ H Q) : PG X e t' := ⟨fun pins s σ H v u Q I r q => h.run pins s σ H v u Q I r (i v σ H Q q)⟩
theorem _root_.L2.PGs.wk {X : Cx} {e : List Expr} {t t' : TGs} (h : PGs X e t) (i : ∀ v σ H Q, t' v σ H Q → t v σ H Q) : PGs X e t' := ⟨fun pins s σ H v u Q I r q => h.run pins s σ H v u Q I r (i v σ H Q q)⟩
theorem _root_.L2.PG.orr {X : Cx} {e : Expr} {t t' : TG} (h : PG X e t) (h' : PG X e t') : PG X e (fun v σ H Q => t v σ H Q ∨ t' v σ H Q) :=
  ⟨fun pins s σ H v u Q I r q => q.elim (h.run pins s σ H v u Q I r) (h'.run pins s σ H v u Q I r)⟩
theorem pset_or {X : Cx} {t t' : TSet} (h : PSet X t) (h' : PSet X t') : PSet X (fun o i v H Q => t o i v H Q ∨ t' o i v H Q) :=
  fun pins s σ H o i v ov iv u Q I r1 r2 r3 q => q.elim (h pins s σ H o i v ov iv u Q I r1 r2 r3) (h' pins s σ H o i v ov iv u Q I r1 r2 r3)
/-- a tuple's parts, of a frozen tuple or of one held -/
def RU (K : PySem.W.Frag) (G H : Hp) (t : Ow) (vs : List V) (ds : List D) (Fv : List Addr) : Prop := (t = .fz ∧ Fv = [] ∧ FzA K G vs ds) ∨ RT K G H t vs ds Fv
section
variable (K : PySem.W.Frag) (Φ : Calls) (W : Wx)
def tTg (tg : E) (t : Ow) (T T' : Ty1) : TG := fun v σ H Q => ∃ H0 G ρ F Fv d, SInv K H0 G H σ ρ T F ∧ R K G H t v d Fv ∧ Own H0 F Fv ∧ Pst W H0 (asgn Φ tg d ρ) fun ρ' =>
  ∀ σ' G' H' F', GS H0 G G' → (∀ is, tgs tg = some is → H' = H ∧ ∀ j, j ∉ is → σ'[j]? = σ[j]?) → SInv K H0 G' H' σ' ρ' T' F' → Q σ' H'
def tTgs (tg : E) (t : Ow) (T T' : Ty1) : TGs := fun vs σ H Q => ∃ H0 G ρ F Fv ds, SInv K H0 G H σ ρ T F ∧ RU K G H t vs ds Fv ∧ Own H0 F Fv ∧ Pst W H0 (asgn Φ tg (.tuple ds) ρ) fun ρ' =>
  ∀ σ' G' H' F', GS H0 G G' → (∀ is, tgs tg = some is → H' = H ∧ ∀ j, j ∉ is → σ'[j]? = σ[j]?) → SInv K H0 G' H' σ' ρ' T' F' → Q σ' H'
end
section
variable {K : PySem.W.Frag} {Φ : Calls} {W : Wx} {X : Cx} {T T' T1 T2 T3 : Ty1} {pos : Pos} {t u : Ow} {H0 G G' H H' : Hp}
theorem g_name {x : Str} {i : Nat} (h : PG X (.Name x pos) (gName i)) (hi : i < T.length) : PG X (.Name x pos) (tTg K Φ W (.var i) t T (T.set i t)) := by
  refine h.wk fun v σ H Q ⟨H0, G, ρ, F, Fv, d, I, r, o, q⟩ => ?_
  have q : Pst W H0 (if i < ρ.length then Res.ok (ρ.set i (some d)) else .stk) _ := q
  have hr : i < ρ.length := by rw [← I.lt]; exact hi
  rw [if_pos hr] at q
  refine q _ G H _ (.refl _ _) (fun is e => ⟨rfl, fun j hj => ?_⟩) (I.set hr r o)
  cases e
  exact List.getElem?_set_ne fun z => hj (by simp [z])
theorem g_nil (ht : t = .tn ∨ t = .fz) : PGs X [] (tTgs K Φ W .nil t T T) := by
  refine pgs_nil.wk fun vs σ H Q ⟨H0, G, ρ, F, Fv, ds, I, r, o, q⟩ => ?_
  have e : vs = [] ∧ ds = [] := by
    rcases r with ⟨_, _, r⟩ | r
    · cases ds with
      | nil => cases r; exact ⟨rfl, rfl⟩
      | cons d ds => exact (q : False).elim
    · rcases ht with rfl | rfl
      · exact ⟨r.1, r.2.1⟩
      · exact r.elim
  obtain ⟨rfl, rfl⟩ := e
  exact ⟨rfl, q σ G H F (.refl _ _) (fun _ _ => ⟨rfl, fun _ _ => rfl⟩) I⟩
def NoStarT (X : Cx) (x : Expr) : Prop := ∀ xs, (assignEach (x :: xs) X.env) = (false, assign x X.env) :: assignEach xs X.env
theorem asgn_cons {a es : E} {d : D} {ds : List D} {ρ : Env} {k : Env → Prop} (h : Pst W H0 (asgn Φ (.cons a es) (.tuple (d :: ds)) ρ) k) : Pst W H0 (asgn Φ a d ρ) fun ρ1 => Pst W H0 (asgn Φ es (.tuple ds) ρ1) k := h.bind
/-- held besides: as if it had been there from the start -/
noncomputable def plus (H0 H : Hp) (Fb : List Addr) : Hp := open Classical in fun a => if a ∈ Fb then H a else H0 a
theorem plus_in {a : Addr} {Fb : List Addr} (h : a ∈ Fb) : plus H0 H Fb a = H a := by unfold plus; rw [if_pos h]
theorem plus_out {a : Addr} {Fb : List Addr} (h : a ∉ Fb) : plus H0 H Fb a = H0 a := by unfold plus; rw [if_neg h]
section
variable {σ σ' : L2.St} {ρ ρ' : Env} {F F' : Nat → List Addr} {Fa Fb : List Addr}
theorem Own.under (ob : Own H0 F Fb) : Same H0 (plus H0 H Fb) := fun a o e => by
  rw [plus_out fun q => by rw [ob.fr a q] at e; cases e]; exact e
theorem SInv.plus (I : SInv K H0 G H σ ρ T F) (ob : Own H0 F Fb) : SInv K (Rf.plus H0 H Fb) G H σ ρ T F :=
  ⟨I.gh, fun a o e => by
    by_cases h : a ∈ Fb
    · rw [plus_in h] at e; exact e
    · rw [plus_out h] at e; exact I.h0 a o e, I.ls, I.lt, I.sl, I.nd, I.dj, fun i a h => ⟨by rw [plus_out fun q => ob.dj i a q h]; exact (I.fr i a h).1, (I.fr i a h).2⟩⟩
theorem Own.plus (oa : Own H0 F Fa) (n : ∀ a ∈ Fa, a ∉ Fb) : Own (Rf.plus H0 H Fb) F Fa := ⟨oa.nd, fun a h => by rw [plus_out (n a h)]; exact oa.fr a h, oa.dj⟩
theorem SInv.unplus (ob : Own H0 F Fb) (J : SInv K (Rf.plus H0 H Fb) G' H' σ' ρ' T' F') : SInv K H0 G' H' σ' ρ' T' F' :=
  ⟨J.gh, ob.under.trans J.h0, J.ls, J.lt, J.sl, J.nd, J.dj, fun i a h => ⟨ob.under.free (J.fr i a h).1, (J.fr i a h).2⟩⟩
theorem GS.unplus (ob : Own H0 F Fb) (g : GS (Rf.plus H0 H Fb) G G') : GS H0 G G' := ⟨g.same, fun a h1 h2 => g.no a (by rw [sameSome ob.under h1]; exact h1) h2⟩
/-- what is held stays -/
theorem SInv.kept (ob : Own H0 F Fb) (gn : ∀ a ∈ Fb, G a = none ∧ (H a).isSome = true) (J : SInv K (Rf.plus H0 H Fb) G' H' σ' ρ' T' F') (g : GS (Rf.plus H0 H Fb) G G') :
    (∀ a ∈ Fb, G' a = none) ∧ (∀ a ∈ Fb, H' a = H a) ∧ Own H0 F' Fb := by
  have hs : ∀ a ∈ Fb, (Rf.plus H0 H Fb a).isSome = true := fun a ha => by rw [plus_in ha]; exact (gn a ha).2
  refine ⟨fun a ha => g.no a (hs a ha) (gn a ha).1, fun a ha => (sameSome J.h0 (hs a ha)).trans (plus_in ha), ob.nd, ob.fr, fun i a ha q => ?_⟩
  have := hs a ha
  rw [(J.fr i a q).1] at this; cases this
end
theorem RU.gn {vs : List V} {ds : List D} {Fv : List Addr} (r : RU K G H t vs ds Fv) : ∀ a ∈ Fv, G a = none ∧ (H a).isSome = true := by
  rcases r with ⟨_, rfl, _⟩ | r
  · simp
  · exact r.gn
theorem RU.mono {vs : List V} {ds : List D} {Fv : List Addr} (r : RU K G H t vs ds Fv) (g : Same G G') (n : ∀ a ∈ Fv, G' a = none) (e : ∀ a ∈ Fv, H' a = H a) : RU K G' H' t vs ds Fv := by
  rcases r with ⟨e1, e2, f⟩ | r
  · exact .inl ⟨e1, e2, f.same g⟩
  · exact .inr (r.mono g n e)
theorem g_cons {x : Expr} {xs : List Expr} {a es : E} {t1 t2 : Ow} (h1 : PG X x (tTg K Φ W a t1 T T1)) (h2 : PGs X xs (tTgs K Φ W es t2 T1 T2)) (w : WOk W) (ns : NoStarT X x) (ht : t = .tc t1 t2 ∨ (t = .fz ∧ t1 = .fz ∧ t2 = .fz)) :
    PGs X (x :: xs) (tTgs K Φ W (.cons a es) t T T2) := by
  refine (pgs_cons h1 h2 (by rw [ns]; rfl)).wk fun vs σ H Q ⟨H0, G, ρ, F, Fv, ds, I, r, o, q⟩ => ?_
  obtain ⟨v, vr, d, dr, Fa, Fb, e1, e2, e3, ra, rb⟩ : ∃ v vr d dr Fa Fb, vs = v :: vr ∧ ds = d :: dr ∧ Fv = Fa ++ Fb ∧ R K G H t1 v d Fa ∧ RU K G H t2 vr dr Fb := by
    rcases ht with rfl | ⟨rfl, rfl, rfl⟩
    · rcases r with ⟨e, _⟩ | r
      · cases e
      · obtain ⟨x, xr, d, dr, F1, F2, rfl, rfl, rfl, p, q⟩ := r
        exact ⟨x, xr, d, dr, F1, F2, rfl, rfl, rfl, p, .inr q⟩
    · rcases r with ⟨_, e, r⟩ | r
      · cases ds with
        | nil => exact (q : False).elim
        | cons d ds => cases r with | cons a b => exact ⟨_, _, d, ds, [], [], rfl, rfl, e, ⟨rfl, a⟩, .inl ⟨rfl, rfl, b⟩⟩
      · exact r.elim
  subst e1; subst e2; subst e3
  have nd := List.nodup_append.mp o.nd
  have oa : Own H0 F Fa := ⟨nd.1, fun b hb => o.fr b (by simp [hb]), fun i b hb => o.dj i b (by simp [hb])⟩
  have ob : Own H0 F Fb := ⟨nd.2.1, fun b hb => o.fr b (by simp [hb]), fun i b hb => o.dj i b (by simp [hb])⟩
  refine ⟨v, vr, rfl, ?_⟩
  refine ⟨plus H0 H Fb, G, ρ, F, Fa, d, I.plus ob, ra, oa.plus fun b hb hc => nd.2.2 b hb b hc rfl, (asgn_cons q).imp w ob.under fun ρ1 _ q1 σ' G' H' F' g p J => ?_⟩
  obtain ⟨k1, k2, k3⟩ := SInv.kept ob (fun b hb => rb.gn b hb) J g
  refine ⟨H0, G', ρ1, F', Fb, dr, J.unplus ob, rb.mono g.same k1 k2, k3, q1.imp w (Same.refl _) fun ρ2 _ q2 σ2 G2 H2 F2 g2 p2 I2 => ?_⟩
  refine q2 σ2 G2 H2 F2 ((g.unplus ob).trans g2) (fun is e => ?_) I2
  obtain ⟨ia, ea, ib, eb, rfl⟩ : ∃ ia, tgs a = some ia ∧ ∃ ib, tgs es = some ib ∧ is = ia ++ ib := by
    simp only [tgs, Option.bind_eq_bind, Option.bind_eq_some_iff] at e
    obtain ⟨ia, e1, ib, e2, e3⟩ := e
    exact ⟨ia, e1, ib, e2, (Option.some.inj e3).symm⟩
  obtain ⟨a1, a2⟩ := p ia ea
  obtain ⟨b1, b2⟩ := p2 ib eb
  exact ⟨b1.trans a1, fun j hj => (b2 j fun z => hj (by simp [z])).trans (a2 j fun z => hj (by simp [z]))⟩
/-- a, b, .. = a tuple (or a list) -/
theorem g_tup {es : List Expr} {e : E} {k : Nat} {u : Ow} (hK : X.K = K) (hc : X.calm = true) (h : PGs X es (tTgs K Φ W e u T T')) (w : WOk W) (hu : u = .fz ∨ t = .tup u)
    (hn : (assignEach es X.env).length = es.length) (hst : (assignEach es X.env).findIdx? (·.1) = none) (hl : lenE e = es.length) :
    PG X (.Tuple es k pos) (tTg K Φ W (.tup e) t T T') := by
  refine ((pg_tup (k := k) (pos := pos) hc h hn hst).orr (pg_unl (k := k) (pos := pos) hc h hn hst)).wk fun v σ H Q ⟨H0, G, ρ, F, Fv, d, I, r, o, q⟩ => ?_
  have cut : ∀ {ds : List D} {k : Env → Prop}, Pst W H0 (if ds.length = lenE e then asgn Φ e (.tuple ds) ρ else .stk) k → ds.length = es.length ∧ Pst W H0 (asgn Φ e (.tuple ds) ρ) k := fun {ds k} p => by
    split at p
    · rename_i h; exact ⟨h.trans hl, p⟩
    · exact p.elim
  rcases hu with rfl | rfl
  · obtain ⟨G2, g2, I2, f⟩ := I.frz r o
    cases d with
    | tuple ds =>
      obtain ⟨ql, q⟩ := cut (ds := ds) q
      cases f with
      | tup a b =>
        refine .inl ⟨_, _, rfl, by rw [hK]; exact seqT I2.gh a, by rw [b.len]; exact ql, H0, G2, ρ, F, [], ds, I2, .inl ⟨rfl, rfl, b⟩, .nil _ _, ?_⟩
        exact q.imp w (Same.refl _) fun ρ' _ k σ' G' H' F' g p J => k σ' G' H' F' (g2.trans g) p J
    | list ds =>
      obtain ⟨ql, q⟩ := cut (ds := ds) q
      cases f with
      | lst a b =>
        refine .inr ⟨_, _, rfl, by rw [hK]; exact .inl (.inl (I2.gh _ _ a)), by rw [b.len]; exact ql, H0, G2, ρ, F, [], ds, I2, .inl ⟨rfl, rfl, b⟩, .nil _ _, ?_⟩
        exact q.imp w (Same.refl _) fun ρ' _ k σ' G' H' F' g p J => k σ' G' H' F' (g2.trans g) p J
    | _ => exact (q : False).elim
  · obtain ⟨a, xs, ds, F', rfl, rfl, rfl, hg, hh, rt⟩ := r
    obtain ⟨ql, q⟩ := cut (ds := ds) q
    have nd := List.nodup_cons.mp o.nd
    exact .inl ⟨a, xs, rfl, by rw [hK]; exact .inl (.inl hh), by rw [rt.len]; exact ql, H0, G, ρ, F, F', ds, I, .inr rt, ⟨nd.2, fun b hb => o.fr b (by simp [hb]), fun i b hb => o.dj i b (by simp [hb])⟩, q⟩
/-! ### o[k] = v -/
theorem RL.set {P : V → D → List Addr → Prop} {v : V} {d : D} {Fv : List Addr} (p : P v d Fv) : ∀ {xs : List V} {ds : List D} {F : List Addr} {j : Nat}, RL P xs ds F → F.Nodup → Fv.Nodup → (∀ a ∈ Fv, a ∉ F) → j < ds.length →
    ∃ Fn, RL P (xs.set j v) (ds.set j d) Fn ∧ Fn.Nodup ∧ ∀ a ∈ Fn, a ∈ F ∨ a ∈ Fv
  | [], [], _, _, _, _, _, _, h => by simp at h
  | x :: xs, y :: ds, F, 0, r, n1, n2, n3, _ => by
    obtain ⟨F1, F2, rfl, a, b⟩ := r
    have nd := List.nodup_append.mp n1
    refine ⟨Fv ++ F2, ⟨Fv, F2, rfl, p, b⟩, List.nodup_append.mpr ⟨n2, nd.2.1, fun c hc e he z => n3 c hc (by rw [z]; simp [he])⟩, fun c hc => ?_⟩
    rcases List.mem_append.mp hc with hc | hc
    · exact .inr hc
    · exact .inl (by simp [hc])
  | x :: xs, y :: ds, F, j + 1, r, n1, n2, n3, h => by
    obtain ⟨F1, F2, rfl, a, b⟩ := r
    have nd := List.nodup_append.mp n1
    obtain ⟨Fn, r, m1, m2⟩ := RL.set p b nd.2.1 n2 (fun c hc z => n3 c hc (by simp [z])) (by simpa using h)
    refine ⟨F1 ++ Fn, ⟨F1, Fn, rfl, a, r⟩, List.nodup_append.mpr ⟨nd.1, m1, fun c hc e he z => ?_⟩, fun c hc => ?_⟩
    · subst z
      rcases m2 c he with h1 | h1
      · exact nd.2.2 c hc c h1 rfl
      · exact n3 c h1 (by simp [hc])
    · rcases List.mem_append.mp hc with hc | hc
      · exact .inl (by simp [hc])
      · rcases m2 c hc with h1 | h1
        · exact .inl (by simp [h1])
        · exact .inr h1
  | [], _ :: _, _, _, r, _, _, _, _ => r.elim
  | _ :: _, [], _, _, r, _, _, _, _ => r.elim
theorem FzK.any {k : Key} : ∀ {ks : List (Key × V)} {ds : List (D × D)}, FzK K G ks ds → (ks.any fun p => decide (p.1 = k)) = ds.any fun p => keyEq p.1 (kD k)
  | [], [], _ => rfl
  | (j, v) :: ks, _ :: ds, h => by
    cases h with
    | cons a b => simp only [List.any_cons]; rw [FzK.any b, keyEq_kD]
theorem FzK.map {k : Key} {v : V} {d : D} (f : Fz K G v d) : ∀ {ks : List (Key × V)} {ds : List (D × D)}, FzK K G ks ds → FzK K G (ks.map fun kv => if kv.1 = k then (kv.1, v) else kv) (ds.map fun p => if keyEq p.1 (kD k) = true then (p.1, d) else p)
  | [], [], _ => .nil
  | (j, w) :: ks, _ :: ds, h => by
    cases h with
    | cons a b =>
      simp only [List.map_cons, keyEq_kD, decide_eq_true_eq]
      by_cases e : j = k
      · rw [if_pos e, if_pos e]; exact .cons f (by simpa only [keyEq_kD, decide_eq_true_eq] using FzK.map f b)
      · rw [if_neg e, if_neg e]; exact .cons a (by simpa only [keyEq_kD, decide_eq_true_eq] using FzK.map f b)
theorem FzK.appd : ∀ {ks ls : List (Key × V)} {ds es : List (D × D)}, FzK K G ks ds → FzK K G ls es → FzK K G (ks ++ ls) (ds ++ es)
  | [], _, [], _, _, q => q
  | (_, _) :: ks, _, _ :: ds, _, h, q => by cases h with | cons a b => exact .cons a (b.appd q)
theorem FzK.put {k : Key} {v : V} {d : D} {ks : List (Key × V)} {ds : List (D × D)} (h : FzK K G ks ds) (f : Fz K G v d) : FzK K G (putK ks k v) (Rf.put (kD k) d ds) := by
  unfold putK Rf.put
  rw [h.any]
  split
  · exact h.map f
  · exact h.appd (.cons f .nil)
theorem asgn_sub {i : Nat} {ek : E} {d : D} {ρ : Env} {k : Env → Prop} (h : Pst W H0 (asgn Φ (.sub (.var i) ek) d ρ) k) :
    ∃ o, ρ[i]? = some (some o) ∧ Pst W H0 (ev Φ ek ρ) fun p => Pst W H0 (putD o p.1 d) fun o' => k (p.2.set i (some o')) := by
  simp only [asgn] at h
  obtain ⟨o, e, h⟩ := getS_inv h.bind
  exact ⟨o, e, h.bind.map fun p _ h => h.bind⟩
theorem g_subL {o kx : Expr} {i : Nat} {ek : E} {c j : Ow} (hK : X.K = K) (ho : PE X o (tVar i)) (hk : PE X kx (tEvD K Φ W ek T T)) (w : WOk W) (hp : pur ek = true)
    (ha : ∀ v, assign (.Subscript o kx pos) X.env v = (do
      let ov ← holding [v] (eval o X.env)
      let iv ← holding [v, ov] (eval kx X.env)
      standAt pos
      holding [v, ov, iv] (setItem ov iv v)
      release [v, ov, iv] []))
    (e1 : T[i]? = some (.lst c)) (h1 : sub1 (.lst c) (.lst j) = true) (h2 : sub1 t j = true) : PG X (.Subscript o kx pos) (tTg K Φ W (.sub (.var i) ek) t T (T.set i (.lst j))) := by
  refine (pg_sub ho hk set_list ha).wk fun v σ H Q ⟨H0, G, ρ, F, Fv, d, I, r, ow, q⟩ => ?_
  obtain ⟨od, ex, q⟩ := asgn_sub q
  obtain ⟨ov, hv, _⟩ := I.sl i _ _ e1 (by simp) ex
  refine ⟨ov, hv, plus H0 H Fv, G, ρ, F, I.plus ow, q.imp w ow.under fun p ep k kv G1 H1 F1 g s I1 fk => ?_⟩
  obtain ⟨k1, k2, ow1⟩ := SInv.kept ow r.gn I1 g
  have J1 := I1.unplus ow
  have g' := g.unplus ow
  have r1 := r.mono g.same k1 k2
  have hρ := ev_pur ek hp ep
  obtain ⟨x, ρp⟩ := p
  have hρ : ρp = ρ := hρ
  subst hρ
  cases od with
  | list ds =>
    cases x with
    | int ix =>
      have k : Pst W H0 (match L2.ixN ds.length ix with | some j => Res.ok (D.list (ds.set j d)) | none => .stk) _ := k
      cases hj : L2.ixN ds.length ix with
      | none => rw [hj] at k; exact k.elim
      | some jj =>
        rw [hj] at k
        obtain ⟨G2, F2, g2, I2, l2, n2, _⟩ := J1.weakAt e1 h1
        have r2 := r1.mono (H' := H1) g2.same (fun b hb => by rw [n2 b (ow1.dj i b hb)]; exact (r1.gn b hb).1) fun _ _ => rfl
        have o2 : Own H0 F2 Fv := ⟨ow1.nd, ow1.fr, fun y b hb q => ow1.dj y b hb (l2 y b q)⟩
        obtain ⟨G3, Fw, g3, I3, r3, o3⟩ := R.weakT I2 r2 o2 h2
        have hi1 : i < T.length := (List.getElem?_eq_some_iff.mp e1).1
        obtain ⟨v3, hv3, rr⟩ := I3.sl i (.lst j) _ (by rw [List.getElem?_set_self hi1]) (by simp) ex
        rw [hv] at hv3; cases hv3
        obtain ⟨y, xs', F3, rfl, eF3, hg3, hh3, rl3⟩ := rr.own
        have nd3 := I3.nd i
        rw [eF3] at nd3
        have nd3' := List.nodup_cons.mp nd3
        have hx3 : ∀ b ∈ F3, b ≠ y := fun b hb z => by subst z; exact nd3'.1 hb
        have hw3 : ∀ b ∈ Fw, b ≠ y := fun b hb z => by subst z; exact o3.dj i b hb (by rw [eF3]; simp)
        have len3 := rl3.len
        have hjl : jj < ds.length := by
          unfold L2.ixN at hj
          split at hj
          · split at hj
            · have := Option.some.inj hj; omega
            · cases hj
          · split at hj
            · have := Option.some.inj hj; omega
            · cases hj
        cases fk
        obtain ⟨Fn, rn, nn, mn⟩ := RL.set (P := R K G3 (upd H1 y (.lst (xs'.set jj v))) j) (r3.mono (Same.refl _) (fun b hb => (r3.gn b hb).1) fun b hb => upd_ne (hw3 b hb))
          (rl3.mono fun v d F1 q r => r.mono (Same.refl _) (fun b hb => (r.gn b hb).1) fun b hb => upd_ne (hx3 b (q b hb))) nd3'.2 o3.nd (fun b hb hc => o3.dj i b hb (by rw [eF3]; simp [hc])) hjl
        have I4 := I3.mut (by rw [← I3.lt, List.length_set]; exact hi1) (by rw [eF3]; simp) hv (t := .lst j) (d := .list (ds.set jj d)) (Fv := y :: Fn) (.inl ⟨y, _, _, Fn, rfl, rfl, rfl, hg3, upd_same, rn⟩) (List.nodup_cons.mpr ⟨fun hb => ?_, nn⟩) (fun b hb => ?_) fun z b hz hb hc => ?_
        · refine ⟨y, xs', ix, jj, rfl, rfl, hh3, by rw [len3]; exact hj, ?_⟩
          rw [List.set_set] at I4
          exact k σ G3 _ _ ((g'.trans g2).trans g3) (fun is e => by simp [tgs] at e) I4
        · rcases mn y hb with h | h
          · exact hx3 y h rfl
          · exact hw3 y h rfl
        · rcases List.mem_cons.mp hb with rfl | hb
          · exact (I3.fr i b (by rw [eF3]; simp)).1
          · rcases mn b hb with hb | hb
            · exact (I3.fr i b (by rw [eF3]; simp [hb])).1
            · exact o3.fr b hb
        · rcases List.mem_cons.mp hb with rfl | hb
          · exact hz (I3.dj z i b hc (by rw [eF3]; simp))
          · rcases mn b hb with hb | hb
            · exact hz (I3.dj z i b hc (by rw [eF3]; simp [hb]))
            · exact o3.dj z b hb hc
    | _ => exact (k : False).elim
  | dict kvs =>
    obtain ⟨v1, hv1, rr⟩ := J1.sl i _ _ e1 (by simp) ex
    rcases rr with ⟨_, _, _, _, _, e, _⟩ | ⟨z, e, f, n⟩
    · cases e
    · cases n
  | _ => exact (k : False).elim
theorem R.ownD {c : Ow} {v : V} {d : D} {F : List Addr} (r : R K G H (.dct c) v d F) : ∃ a ks ds F', v = .ref a ∧ d = .dict ds ∧ F = a :: F' ∧ G a = none ∧ H a = some (.dK ks) ∧ RK (R K G H c) ks ds F' := r
theorem g_subD {o kx : Expr} {i : Nat} {ek : E} {c : Ow} (hu : X.A.units + 65 < cLine) (ho : PE X o (tVar i)) (hk : PE X kx (tEvD K Φ W ek T T)) (w : WOk W) (hp : pur ek = true)
    (ha : ∀ v, assign (.Subscript o kx pos) X.env v = (do
      let ov ← holding [v] (eval o X.env)
      let iv ← holding [v, ov] (eval kx X.env)
      standAt pos
      holding [v, ov, iv] (setItem ov iv v)
      release [v, ov, iv] []))
    (e1 : T[i]? = some (.dct c)) (h1 : sub1 (.dct c) (.dct .fz) = true) (h2 : sub1 t .fz = true) : PG X (.Subscript o kx pos) (tTg K Φ W (.sub (.var i) ek) t T (T.set i (.dct .fz))) := by
  refine (pg_sub ho hk (set_dict (by omega)) ha).wk fun v σ H Q ⟨H0, G, ρ, F, Fv, d, I, r, ow, q⟩ => ?_
  obtain ⟨od, ex, q⟩ := asgn_sub q
  obtain ⟨ov, hv, _⟩ := I.sl i _ _ e1 (by simp) ex
  refine ⟨ov, hv, plus H0 H Fv, G, ρ, F, I.plus ow, q.imp w ow.under fun p ep k kv G1 H1 F1 g s I1 fk => ?_⟩
  obtain ⟨k1, k2, ow1⟩ := SInv.kept ow r.gn I1 g
  have J1 := I1.unplus ow
  have g' := g.unplus ow
  have r1 := r.mono g.same k1 k2
  have hρ := ev_pur ek hp ep
  obtain ⟨x, ρp⟩ := p
  have hρ : ρp = ρ := hρ
  subst hρ
  obtain ⟨G2, F2, g2, I2, l2, n2, _⟩ := J1.weakAt e1 h1
  have r2 := r1.mono (H' := H1) g2.same (fun b hb => by rw [n2 b (ow1.dj i b hb)]; exact (r1.gn b hb).1) fun _ _ => rfl
  have o2 : Own H0 F2 Fv := ⟨ow1.nd, ow1.fr, fun y b hb q => ow1.dj y b hb (l2 y b q)⟩
  obtain ⟨G3, g3, I3, f3⟩ := I2.frz r2 o2
  have hi1 : i < T.length := (List.getElem?_eq_some_iff.mp e1).1
  obtain ⟨v3, hv3, rr⟩ := I3.sl i (.dct .fz) _ (by rw [List.getElem?_set_self hi1]) (by simp) ex
  rw [hv] at hv3; cases hv3
  obtain ⟨y, ks, ds, F3, rfl, rfl, eF3, hg3, hh3, rk3⟩ := rr.ownD
  obtain ⟨rfl, fk3⟩ := RK.fz rk3
  have k : Pst W H0 (if isKey x && decide (ds.length < line) then Res.ok (D.dict (put x d ds)) else .stk) _ := k
  split at k
  · rename_i hc
    simp only [Bool.and_eq_true, decide_eq_true_eq] at hc
    obtain ⟨kk, rfl, rfl⟩ := isKey_inv hc.1 fk
    have I4 := I3.mut (o := .dK (putK ks kk v)) (by rw [← I3.lt, List.length_set]; exact hi1) (by rw [eF3]; simp) hv (t := .dct .fz) (d := .dict (put (kD kk) d ds)) (Fv := [y]) ⟨y, _, _, [], rfl, rfl, rfl, hg3, upd_same, (fk3.put f3).rk⟩ (by simp) (fun b hb => ?_) fun z b hz hb hc => ?_
    · refine ⟨y, _, rfl, .k hh3 (by rw [fk3.len, sizeLine_eq]; exact hc.2), ?_⟩
      rw [List.set_set] at I4
      exact k σ G3 _ _ ((g'.trans g2).trans g3) (fun is e => by simp [tgs] at e) I4
    · have e : b = y := by simpa using hb
      subst e
      exact (I3.fr i b (by rw [eF3]; simp)).1
    · have e : b = y := by simpa using hb
      subst e
      exact hz (I3.dj z i b hc (by rw [eF3]; simp))
  · exact (k : False).elim
end
end Rf
end

section
/-! Rf2p: comprehensions. -/
namespace Rf
open PySem PySem.Spec PyProof.Rows L2
theorem bind_asgn {Φ : Calls} : ∀ (tg : E) {is : List Nat} {d : D} {ρ : Env}, tgs tg = some is → asgn Φ tg d ρ = bindN tg d ρ
  | .var i, _, _, _, _ => rfl
  | .tup es, is, d, ρ, h => by
    cases d with
    | tuple ds => show (if _ then _ else _) = (if _ then _ else _); rw [bind_asgn es (d := .tuple ds) (ρ := ρ) (show tgs es = some is from h)]
    | list ds => show (if _ then _ else _) = (if _ then _ else _); rw [bind_asgn es (d := .tuple ds) (ρ := ρ) (show tgs es = some is from h)]
    | _ => rfl
  | .nil, is, d, ρ, h => by
    cases d with
    | tuple ds => cases ds <;> rfl
    | _ => rfl
  | .cons t r, is, d, ρ, h => by
    simp only [tgs, Option.bind_eq_bind, Option.bind_eq_some_iff] at h
    obtain ⟨ia, e1, ib, e2, _⟩ := h
    cases d with
    | tuple ds =>
      cases ds with
      | nil => rfl
      | cons d ds =>
        show (asgn Φ t d ρ >>= fun ρ1 => asgn Φ r (.tuple ds) ρ1) = (bindN t d ρ >>= fun ρ1 => bindN r (.tuple ds) ρ1)
        rw [bind_asgn t e1]
        congr 1
        funext ρ1
        exact bind_asgn r e2
    | _ => rfl
  | .lit _, _, _, _, h => by cases h
  | .lst _, _, _, _, h => by cases h
  | .dic _ _, _, _, _, h => by cases h
  | .neg _, _, _, _, h => by cases h
  | .not _, _, _, _, h => by cases h
  | .bin _ _ _, _, _, _, h => by cases h
  | .cmp _ _ _, _, _, _, h => by cases h
  | .cmp2 _ _ _ _ _, _, _, _, h => by cases h
  | .and _ _, _, _, _, h => by cases h
  | .or _ _, _, _, _, h => by cases h
  | .ite _ _ _, _, _, _, h => by cases h
  | .sub _ _, _, _, _, h => by cases h
  | .slc _ _ _, _, _, _, h => by cases h
  | .call _ _, _, _, _, h => by cases h
  | .bi _ _, _, _, _, h => by cases h
  | .isi _ _, _, _, _, h => by cases h
  | .mt _ _ _, _, _, _, h => by cases h
  | .comp _ _ _ _ _, _, _, _, h => by cases h
  | .dcomp _ _ _ _ _, _, _, _, h => by cases h
/-- names that a target does not store stay -/
theorem bind_out : ∀ (tg : E) {is : List Nat} {d : D} {ρ ρ' : Env}, tgs tg = some is → bindN tg d ρ = .ok ρ' → ∀ j, j ∉ is → ρ'[j]? = ρ[j]?
  | .var i, _, d, ρ, ρ', h, e, j, hj => by
    cases h
    obtain ⟨_, rfl⟩ := if_ok (show (if i < ρ.length then Res.ok (ρ.set i (some d)) else .stk) = _ from e)
    exact List.getElem?_set_ne fun z => hj (by simp [z])
  | .tup es, is, d, ρ, ρ', h, e, j, hj => by
    cases d with
    | tuple ds =>
      have e : (if ds.length = lenE es then bindN es (.tuple ds) ρ else .stk) = .ok ρ' := e
      split at e
      · exact bind_out es (d := .tuple ds) h e j hj
      · cases e
    | list ds =>
      have e : (if ds.length = lenE es then bindN es (.tuple ds) ρ else .stk) = .ok ρ' := e
      split at e
      · exact bind_out es (d := .tuple ds) h e j hj
      · cases e
    | _ => cases e
  | .nil, is, d, ρ, ρ', h, e, j, hj => by
    cases d with
    | tuple ds =>
      cases ds with
      | nil => rw [← ok_inj e]
      | cons _ _ => cases e
    | _ => cases e
  | .cons t r, is, d, ρ, ρ', h, e, j, hj => by
    simp only [tgs, Option.bind_eq_bind, Option.bind_eq_some_iff] at h
    obtain ⟨ia, e1, ib, e2, e3⟩ := h
    cases e3
    cases d with
    | tuple ds =>
      cases ds with
      | nil => cases e
      | cons d ds =>
        obtain ⟨ρ1, h1, h2⟩ := bind_ok_inv (show (bindN t d ρ >>= fun ρ1 => bindN r (.tuple ds) ρ1) = .ok ρ' from e)
        exact (bind_out r e2 h2 j fun z => hj (by simp [z])).trans (bind_out t e1 h1 j fun z => hj (by simp [z]))
    | _ => cases e
  | .lit _, _, _, _, _, h, _, _, _ => by cases h
  | .lst _, _, _, _, _, h, _, _, _ => by cases h
  | .dic _ _, _, _, _, _, h, _, _, _ => by cases h
  | .neg _, _, _, _, _, h, _, _, _ => by cases h
  | .not _, _, _, _, _, h, _, _, _ => by cases h
  | .bin _ _ _, _, _, _, _, h, _, _, _ => by cases h
  | .cmp _ _ _, _, _, _, _, h, _, _, _ => by cases h
  | .cmp2 _ _ _ _ _, _, _, _, _, h, _, _, _ => by cases h
  | .and _ _, _, _, _, _, h, _, _, _ => by cases h
  | .or _ _, _, _, _, _, h, _, _, _ => by cases h
  | .ite _ _ _, _, _, _, _, h, _, _, _ => by cases h
  | .sub _ _, _, _, _, _, h, _, _, _ => by cases h
  | .slc _ _ _, _, _, _, _, h, _, _, _ => by cases h
  | .call _ _, _, _, _, _, h, _, _, _ => by cases h
  | .bi _ _, _, _, _, _, h, _, _, _ => by cases h
  | .isi _ _, _, _, _, _, h, _, _, _ => by cases h
  | .mt _ _ _, _, _, _, _, h, _, _, _ => by cases h
  | .comp _ _ _ _ _, _, _, _, _, h, _, _, _ => by cases h
  | .dcomp _ _ _ _ _, _, _, _, _, h, _, _, _ => by cases h
theorem ckN_out : ∀ (tg : E) {is : List Nat} {T T' : Ty1}, tgs tg = some is → ckN tg T = some T' → T'.length = T.length ∧ ∀ j, j ∉ is → T'[j]? = T[j]?
  | .var i, _, T, T', h, e => by
    cases h
    have e : (if i < T.length then some (T.set i .fz) else none) = some T' := e
    split at e
    · cases e
      exact ⟨by simp, fun j hj => List.getElem?_set_ne fun z => hj (by simp [z])⟩
    · cases e
  | .tup es, is, T, T', h, e => ckN_out es h e
  | .nil, is, T, T', h, e => by cases e; exact ⟨rfl, fun _ _ => rfl⟩
  | .cons t r, is, T, T', h, e => by
    simp only [tgs, Option.bind_eq_bind, Option.bind_eq_some_iff] at h
    obtain ⟨ia, e1, ib, e2, e3⟩ := h
    cases e3
    simp only [ckN, Option.bind_eq_bind, Option.bind_eq_some_iff] at e
    obtain ⟨T1, h1, h2⟩ := e
    obtain ⟨a1, a2⟩ := ckN_out t e1 h1
    obtain ⟨b1, b2⟩ := ckN_out r e2 h2
    exact ⟨b1.trans a1, fun j hj => (b2 j fun z => hj (by simp [z])).trans (a2 j fun z => hj (by simp [z]))⟩
  | .lit _, _, _, _, h, _ => by cases h
  | .lst _, _, _, _, h, _ => by cases h
  | .dic _ _, _, _, _, h, _ => by cases h
  | .neg _, _, _, _, h, _ => by cases h
  | .not _, _, _, _, h, _ => by cases h
  | .bin _ _ _, _, _, _, h, _ => by cases h
  | .cmp _ _ _, _, _, _, h, _ => by cases h
  | .cmp2 _ _ _ _ _, _, _, _, h, _ => by cases h
  | .and _ _, _, _, _, h, _ => by cases h
  | .or _ _, _, _, _, h, _ => by cases h
  | .ite _ _ _, _, _, _, h, _ => by cases h
  | .sub _ _, _, _, _, h, _ => by cases h
  | .slc _ _ _, _, _, _, h, _ => by cases h
  | .call _ _, _, _, _, h, _ => by cases h
  | .bi _ _, _, _, _, h, _ => by cases h
  | .isi _ _, _, _, _, h, _ => by cases h
  | .mt _ _ _, _, _, _, h, _ => by cases h
  | .comp _ _ _ _ _, _, _, _, h, _ => by cases h
  | .dcomp _ _ _ _ _, _, _, _, h, _ => by cases h
theorem wipeD_len (ρ : Env) : ∀ vs : List Nat, (wipeD ρ vs).length = ρ.length
  | [] => rfl
  | v :: vs => by unfold wipeD; rw [List.length_set, wipeD_len ρ vs]
theorem wipeT_len (T : Ty1) : ∀ vs : List Nat, (wipeT T vs).length = T.length
  | [] => rfl
  | v :: vs => by unfold wipeT; rw [List.length_set, wipeT_len T vs]
theorem wipeD_out {ρ : Env} {j : Nat} : ∀ {vs : List Nat}, j ∉ vs → (wipeD ρ vs)[j]? = ρ[j]?
  | [], _ => rfl
  | v :: vs, h => by unfold wipeD; rw [List.getElem?_set_ne fun z => h (by simp [z])]; exact wipeD_out fun z => h (by simp [z])
theorem wipeT_out {ρ : Ty1} {j : Nat} : ∀ {vs : List Nat}, j ∉ vs → (wipeT ρ vs)[j]? = ρ[j]?
  | [], _ => rfl
  | v :: vs, h => by unfold wipeT; rw [List.getElem?_set_ne fun z => h (by simp [z])]; exact wipeT_out fun z => h (by simp [z])
theorem wipeD_in {ρ : Env} {j : Nat} : ∀ {vs : List Nat}, j ∈ vs → ∀ d, (wipeD ρ vs)[j]? ≠ some (some d)
  | v :: vs, h, d => by
    unfold wipeD
    by_cases e : v = j
    · subst e
      by_cases hl : v < (wipeD ρ vs).length
      · rw [List.getElem?_set_self hl]; simp
      · rw [List.getElem?_eq_none (by simpa using hl)]; simp
    · rw [List.getElem?_set_ne e]
      exact wipeD_in (by rcases List.mem_cons.mp h with h | h; exact absurd h.symm e; exact h) d
theorem wipe_out' {σ : L2.St} {j : Nat} : ∀ {vs : List Nat}, j ∉ vs → (wipe σ vs)[j]? = σ[j]?
  | [], _ => rfl
  | v :: vs, h => by unfold wipe; rw [List.getElem?_set_ne fun z => h (by simp [z])]; exact wipe_out' fun z => h (by simp [z])
theorem wipe_in {σ : L2.St} {j : Nat} : ∀ {vs : List Nat}, j ∈ vs → j < σ.length → (wipe σ vs)[j]? = some none
  | v :: vs, h, hl => by
    unfold wipe
    by_cases e : v = j
    · subst e; rw [List.getElem?_set_self (by rw [wipe_length]; exact hl)]
    · rw [List.getElem?_set_ne e]
      exact wipe_in (by rcases List.mem_cons.mp h with h | h; exact absurd h.symm e; exact h) hl
theorem wipe_ext {σ σ' : L2.St} {vs : List Nat} (hl : σ.length = σ'.length) (h : ∀ j, j ∉ vs → σ[j]? = σ'[j]?) : wipe σ vs = wipe σ' vs := by
  refine List.ext_getElem? fun j => ?_
  by_cases hj : j ∈ vs
  · by_cases hs : j < σ.length
    · rw [wipe_in hj hs, wipe_in hj (hl ▸ hs)]
    · rw [List.getElem?_eq_none (by rw [wipe_length]; omega), List.getElem?_eq_none (by rw [wipe_length]; omega)]
  · rw [wipe_out' hj, wipe_out' hj, h j hj]
section
variable {K : PySem.W.Frag} {Φ : Calls} {W : Wx} {X : Cx} {T T' T0 T1 T2 T3 : Ty1} {pos : Pos} {t u : Ow} {H0 G G' H H' : Hp} {σ σ2 : L2.St} {ρ ρ2 : Env} {F F2 : Nat → List Addr}
theorem SInv.wipe (I : SInv K H0 G H σ ρ T F) (own : List Nat) : SInv K H0 G H (L2.wipe σ own) (wipeD ρ own) (wipeT T own) F where
  gh := I.gh
  h0 := I.h0
  ls := by rw [wipe_length, wipeD_len]; exact I.ls
  lt := by rw [wipeT_len, wipeD_len]; exact I.lt
  sl := fun i t d e1 e2 e3 => by
    by_cases hi : i ∈ own
    · exact absurd e3 (wipeD_in hi d)
    · rw [wipeT_out hi] at e1
      rw [wipeD_out hi] at e3
      rw [wipe_out' hi]
      exact I.sl i t d e1 e2 e3
  nd := I.nd
  dj := I.dj
  fr := I.fr
/-- back out of a block -/
theorem SInv.unwipe {own : List Nat} {H0' : Hp} (I : SInv K H0 G H σ ρ T F) (J : SInv K H0' G' H' σ2 ρ2 T2 F2) (g : Same G G') (le : Same H0 H0') (hs : ∀ j, j ∉ own → σ2[j]? = σ[j]?) (hr : ∀ j, j ∉ own → ρ2[j]? = ρ[j]?) (ht : ∀ j, j ∉ own → T2[j]? = T[j]?) (ho : ownOk T own = true) :
    SInv K H0 G' H' σ ρ T (fun j => if j ∈ own then [] else F2 j) where
  gh := J.gh
  h0 := le.trans J.h0
  ls := I.ls
  lt := I.lt
  sl := fun i t d e1 e2 e3 => by
    by_cases hi : i ∈ own
    · obtain ⟨v, h1, h2⟩ := I.sl i t d e1 e2 e3
      refine ⟨v, h1, ?_⟩
      have q := List.all_eq_true.mp ho i hi
      rw [e1] at q
      rw [if_pos hi]
      cases t with
      | fz => exact ⟨rfl, h2.2.same g⟩
      | bot => exact h2.elim
      | dead => exact absurd rfl e2
      | _ => cases q
    · rw [if_neg hi, ← hs i hi]
      exact J.sl i t d (by rw [ht i hi]; exact e1) e2 (by rw [hr i hi]; exact e3)
  nd := fun j => by split; exact .nil; exact J.nd j
  dj := fun i j a h1 h2 => by
    split at h1
    · cases h1
    · split at h2
      · cases h2
      · exact J.dj i j a h1 h2
  fr := fun i a h => by
    split at h
    · cases h
    · exact ⟨le.free (J.fr i a h).1, (J.fr i a h).2⟩
/-- an object besides the slots is changed -/
theorem SInv.updO (I : SInv K H0 G H σ ρ T F) {p : Addr} {o : HO} (hG : G p = none) (h0 : H0 p = none) (hF : ∀ i, p ∉ F i) : SInv K H0 G (upd H p o) σ ρ T F where
  gh := fun a x e => by rw [upd_ne (fun z => by subst z; rw [hG] at e; cases e)]; exact I.gh a x e
  h0 := fun a x e => by rw [upd_ne (fun z => by subst z; rw [h0] at e; cases e)]; exact I.h0 a x e
  ls := I.ls
  lt := I.lt
  sl := fun i t d e1 e2 e3 => by
    obtain ⟨v, h1, h2⟩ := I.sl i t d e1 e2 e3
    exact ⟨v, h1, h2.mono (Same.refl G) (fun a ha => (I.fr i a ha).2.1) fun a ha => upd_ne fun z => hF i (z ▸ ha)⟩
  nd := I.nd
  dj := I.dj
  fr := fun i a h => ⟨(I.fr i a h).1, (I.fr i a h).2.1, by rw [upd_ne (fun (z : a = p) => hF i (z ▸ h))]; exact (I.fr i a h).2.2⟩
/-- nothing is told of an exception -/
def Wn : Wx := fun _ _ _ => False
theorem wn_ok : WOk Wn := ⟨fun _ h => h.elim⟩
end
theorem fmapR_len {α β : Type} {f : α → Res (Option β)} : ∀ {xs : List α} {ds : List β}, fmapR f xs = .ok ds → ds.length ≤ xs.length
  | [], _, h => by cases ok_inj (show Res.ok [] = _ from h); simp
  | a :: r, ds, h => by
    have h : (f a >>= fun b => fmapR f r >>= fun bs => Res.ok (match b with | some b => b :: bs | none => bs)) = .ok ds := h
    obtain ⟨o, _, h⟩ := bind_ok_inv h
    obtain ⟨bs, e, h⟩ := bind_ok_inv h
    have h1 := fmapR_len e
    have e := ok_inj h
    subst e
    cases o <;> simp <;> omega
theorem fmapR_take {α β : Type} {f : α → Res (Option β)} : ∀ {xs : List α} {ys ds : List β} {i : Nat} {d : α}, fmapR f xs = .ok ys → fmapR f (xs.take i) = .ok ds → xs[i]? = some d → ∃ o : Option β, f d = .ok o ∧ fmapR f (xs.take (i + 1)) = .ok (ds ++ o.toList)
  | [], _, _, _, _, _, _, h => by simp at h
  | a :: r, ys, ds, 0, d, h1, h2, h => by
    simp at h; subst h
    have h1 : (f a >>= fun b => fmapR f r >>= fun bs => Res.ok (match b with | some b => b :: bs | none => bs)) = .ok ys := h1
    obtain ⟨o, e1, h1⟩ := bind_ok_inv h1
    have h2 : Res.ok ([] : List β) = .ok ds := h2
    have e := ok_inj h2
    subst e
    refine ⟨o, e1, ?_⟩
    show (f a >>= fun b => fmapR f [] >>= fun bs => Res.ok (match b with | some b => b :: bs | none => bs)) = _
    rw [e1]
    cases o <;> rfl
  | a :: r, ys, ds, i + 1, d, h1, h2, h => by
    have h1 : (f a >>= fun b => fmapR f r >>= fun bs => Res.ok (match b with | some b => b :: bs | none => bs)) = .ok ys := h1
    have h2 : (f a >>= fun b => fmapR f (r.take i) >>= fun bs => Res.ok (match b with | some b => b :: bs | none => bs)) = .ok ds := h2
    obtain ⟨o, e1, h1⟩ := bind_ok_inv h1
    obtain ⟨ys', e2, h1⟩ := bind_ok_inv h1
    rw [e1] at h2
    obtain ⟨ds', e3, h2⟩ := bind_ok_inv (show (fmapR f (r.take i) >>= _) = _ from h2)
    obtain ⟨o', e4, e5⟩ := fmapR_take (xs := r) e2 e3 (by simpa using h)
    refine ⟨o', e4, ?_⟩
    show (f a >>= fun b => fmapR f (r.take (i + 1)) >>= fun bs => Res.ok (match b with | some b => b :: bs | none => bs)) = _
    rw [e1, e5]
    have e6 := ok_inj h2
    cases o with
    | none => show Res.ok _ = Res.ok _; rw [← e6]
    | some o => show Res.ok _ = Res.ok _; rw [← e6]; rfl
section
variable {K : PySem.W.Frag} {Φ : Calls} {W : Wx} {X : Cx} {T T' Ta Tm T0 T1 T2 T3 : Ty1} {pos : Pos} {t u : Ow} {H0 G G' H H' : Hp} {σ σ2 : L2.St} {ρ ρ2 : Env} {F F2 : Nat → List Addr}
/-- one item of a comprehension -/
def compF (Φ : Calls) (own : List Nat) (tg c elt : E) (ρ : Env) (d : D) : Res (Option D) := do
  let ρ1 ← bindN tg d (wipeD ρ own)
  let (t, ρ1) ← ev Φ c ρ1
  if truth t then do
    let (y, _) ← ev Φ elt ρ1
    .ok (some y)
  else .ok none
theorem noexn_ok {α : Type} {r : Res α} {k : α → Prop} (h : Pst W H0 r.noexn k) : ∃ a, r = .ok a ∧ k a := by
  cases r with
  | ok a => exact ⟨a, rfl, h⟩
  | exn c as => exact (h : False).elim
  | stk => exact (h : False).elim
theorem comp_ev {own : List Nat} {tg it c elt : E} {k : D × Env → Prop} (h : Pst W H0 (ev Φ (.comp own tg it c elt) ρ) k) :
    Pst W H0 (ev Φ it ρ) fun p => Pst W H0 (itemsD p.1) fun xs => xs.length ≤ line ∧ ∃ ds, fmapR (compF Φ own tg c elt p.2) xs = .ok ds ∧ k (.list ds, p.2) := by
  have h : Pst W H0 (ev Φ it ρ >>= fun p => itemsD p.1 >>= fun xs => if xs.length ≤ line then (fmapR (compF Φ own tg c elt p.2) xs).noexn >>= fun ds => Res.ok (D.list ds, p.2) else .stk) k := h
  refine h.bind.map fun p _ h => h.bind.map fun xs _ h => ?_
  split at h
  · rename_i hl
    obtain ⟨ds, e, h⟩ := noexn_ok h.bind
    exact ⟨hl, ds, e, h⟩
  · exact (h : False).elim
/-- what a turn starts with -/
theorem yld_in {B G1 : Hp} {J : It} {xs : List D} {i : Nat} {d : D} {x : V} {Fv : List Addr} (it : ItOk K B G1 J xs) (g1 : Same G1 G) (I : SInv K H0 G H σ ρ T F) (sB : Same B H) (hy : J.yld i H x H') (hd : xs[i]? = some d) (gn : ∀ a ∈ Fv, G a = none ∧ (H a).isSome = true) :
    ∃ G', GS H0 G G' ∧ SInv K H0 G' H' σ ρ T F ∧ Fz K G' x d ∧ Same H H' ∧ ∀ a ∈ Fv, G' a = none ∧ H' a = H a := by
  rcases it.yld i H x H' sB hy d hd with ⟨rfl, f⟩ | ⟨p, ys, es, hp, rfl, rfl, rfl, f⟩
  · exact ⟨G, .refl _ _, I, f.same g1, Same.refl _, fun a ha => ⟨(gn a ha).1, rfl⟩⟩
  · obtain ⟨a1, a2, a3⟩ := I.newT (f.same g1) hp
    exact ⟨_, a1, a2, a3, same_upd hp, fun a ha => ⟨by rw [upd_ne (isSome_ne hp (gn a ha).2)]; exact (gn a ha).1, upd_ne (isSome_ne hp (gn a ha).2)⟩⟩
theorem lc_rd {own : List Nat} {tg it c elt : E} {is : List Nat} (w : WOk W) (hs : subs Ta Tm = true) (ho : ownOk Tm own = true) (hi : tgs tg = some is) (hio : ∀ i ∈ is, i ∈ own) (hpc : pur c = true) (hpe : pur elt = true) (hN : ckN tg (wipeT Tm own) = some T0) {Q : VK}
    (h : tEv K Φ W (.comp own tg it c elt) T Tm (.lst t) σ H Q) : tLc (tIt K Φ W false it T Ta) (tTg K Φ Wn tg .fz (wipeT Tm own) T0) (tTst K Φ Wn c T0 T0) (tEv K Φ Wn elt T0 T0 t) own σ H Q := by
  obtain ⟨H0, G, ρ, F, I, q⟩ := h
  refine ⟨H0, G, ρ, F, I, (comp_ev q).imp w (Same.refl _) fun p ep q => q.imp w (Same.refl _) fun xs exs ⟨hlen, ys, eys, k⟩ J G1 H1 F1 g1 s1 I1 itk D hD => ?_⟩
  obtain ⟨G2, F2, g2, I2, _, _⟩ := I1.weak hs
  let Wv : Nat → Nat → Hp → Prop := fun i m H => m = xs.length - i ∧ i ≤ xs.length ∧ Same H1 H ∧ ∃ G F ds Fv acc, GS H0 G2 G ∧ SInv K H0 G H σ p.2 Tm F ∧ fmapR (compF Φ own tg c elt p.2) (xs.take i) = .ok ds ∧ H D = some (.lst acc) ∧ G D = none ∧ RL (R K G H t) acc ds Fv ∧ Own H0 F (D :: Fv)
  refine ⟨Wv, ⟨_, rfl, Nat.zero_le _, same_upd hD, G2, F2, [], [], [], .refl _ _, I2.grow (same_upd hD), rfl, upd_same, I2.gh.free hD, rfl, (Own.nil _ _).new I2 (by simp) hD⟩, fun i m H2 ⟨em, hi2, S, G3, F3, ds, Fv, acc, g3, I3, ed, hacc, hGD, rl, ow⟩ => ?_⟩
  have sB : Same (Bs false G1 H1) H2 := S
  by_cases hie : xs.length ≤ i
  · refine .inl ⟨itk.stop i H2 sB hie, ?_⟩
    have e : i = xs.length := by omega
    subst e
    rw [List.take_length, eys] at ed
    have e := ok_inj ed; subst e
    exact k (.ref D) G3 H2 F3 (D :: Fv) ((g1.trans g2).trans g3) (fun z => by
      simp only [pur, Bool.and_eq_true] at z
      exact (s1 z.1.1).trans S) I3 (.inl ⟨D, acc, _, Fv, rfl, rfl, rfl, hGD, hacc, rl⟩) ow
  · have hilt : i < xs.length := by omega
    refine .inr ⟨itk.go i H2 sB hilt, Wv (i + 1) (m - 1), fun H' hw => ⟨m - 1, by omega, hw⟩, fun x H3 hy => ?_⟩
    have hd : xs[i]? = some xs[i] := List.getElem?_eq_getElem hilt
    obtain ⟨o, eo, et⟩ := fmapR_take eys ed hd
    have gnD : ∀ a ∈ D :: Fv, G3 a = none ∧ (H2 a).isSome = true := fun a ha => by
      rcases List.mem_cons.mp ha with rfl | ha
      · exact ⟨hGD, by rw [hacc]; rfl⟩
      · exact rl.gn (fun _ _ _ r => r.gn) a ha
    obtain ⟨G4, g4, I4, fx, S4, n4⟩ := yld_in itk (g2.same.trans g3.same) I3 sB hy hd gnD
    obtain ⟨ρ5, e5, eo1⟩ := bind_ok_inv (show (bindN tg xs[i] (wipeD p.2 own) >>= fun ρ1 => ev Φ c ρ1 >>= fun q => if truth q.1 = true then ev Φ elt q.2 >>= fun y => Res.ok (some y.1) else .ok none) = _ from eo)
    obtain ⟨⟨tv, ρ6⟩, e6, eo2⟩ := bind_ok_inv eo1
    have z6 : ρ6 = ρ5 := ev_pur c hpc e6
    subst z6
    have gn4 : ∀ a ∈ D :: Fv, G4 a = none ∧ (H3 a).isSome = true := fun a ha => ⟨(n4 a ha).1, by rw [(n4 a ha).2]; exact (gnD a ha).2⟩
    refine ⟨plus H0 H3 (D :: Fv), G4, wipeD p.2 own, F3, [], xs[i], (I4.plus ow).wipe own, ⟨rfl, fx⟩, .nil _ _, ?_⟩
    rw [bind_asgn tg hi, e5]
    intro σ5 G5 H5 F5 g5 p5 I5
    obtain ⟨rfl, hσ⟩ := p5 is hi
    obtain ⟨hl0, ht0⟩ := ckN_out tg hi hN
    have hσ' : ∀ j, j ∉ own → σ5[j]? = σ[j]? := fun j hj => (hσ j fun z => hj (hio j z)).trans (wipe_out' hj)
    have hρ' : ∀ j, j ∉ own → ρ6[j]? = p.2[j]? := fun j hj => (bind_out tg hi e5 j fun z => hj (hio j z)).trans (wipeD_out hj)
    have hT' : ∀ j, j ∉ own → T0[j]? = Tm[j]? := fun j hj => (ht0 j fun z => hj (hio j z)).trans (wipeT_out hj)
    refine ⟨wipe_ext (by rw [I5.ls, ← I5.lt, hl0, wipeT_len, I4.lt, ← I4.ls]) hσ', ?_⟩
    -- back from a state of the block
    have back : ∀ {G7 H7 : Hp} {F7 : Nat → List Addr}, GS (plus H0 H5 (D :: Fv)) G4 G7 → SInv K (plus H0 H5 (D :: Fv)) G7 H7 σ5 ρ6 T0 F7 →
        SInv K H0 G7 H7 σ p.2 Tm (fun j => if j ∈ own then [] else F7 j) ∧ H7 D = some (.lst acc) ∧ G7 D = none ∧ RL (R K G7 H7 t) acc ds Fv ∧ Own H0 (fun j => if j ∈ own then [] else F7 j) (D :: Fv) := fun {G7 H7 F7} g7 J7 => by
      obtain ⟨k1, k2, k3⟩ := SInv.kept ow gn4 J7 g7
      have k2' : ∀ a ∈ D :: Fv, H7 a = H2 a := fun a ha => (k2 a ha).trans (n4 a ha).2
      refine ⟨I4.unwipe J7 g7.same ow.under hσ' hρ' hT' ho, by rw [k2' D (by simp)]; exact hacc, k1 D (by simp), ?_, k3.nd, k3.fr, fun j a ha q => ?_⟩
      · exact rl.mono fun v d Fa q r => r.mono (g4.same.trans g7.same) (fun a ha => k1 a (by simp [q a ha])) fun a ha => k2' a (by simp [q a ha])
      · split at q
        · cases q
        · exact k3.dj j a ha q
    refine ⟨_, G5, ρ6, F5, I5, ?_⟩
    rw [e6]
    intro G6 H6 F6 g6 s6 I6
    have s6 := s6 hpc
    have g56 := g5.trans g6
    by_cases htv : truth tv = true
    · rw [if_pos htv]
      rw [if_pos (show truth (tv, ρ6).1 = true from htv)] at eo2
      obtain ⟨⟨y, ρ7⟩, e7, eo3⟩ := bind_ok_inv eo2
      have e8 := ok_inj eo3
      subst e8
      have z7 : ρ7 = ρ6 := ev_pur elt hpe e7
      subst z7
      refine ⟨_, G6, ρ7, F6, I6, ?_⟩
      rw [e7]
      intro v G7 H7 F7 Fy g7 s7 I7 ry oy
      have s7 := s7 hpe
      obtain ⟨J8, a1, a2, a3, a4⟩ := back (g56.trans g7) I7
      refine ⟨acc, a1, ?_, ?_⟩
      · rw [rl.len, sizeLine_eq]
        have h1 := fmapR_len ed
        rw [List.length_take] at h1
        have h2 : xs.length ≤ 16777216 := hlen
        omega
      have hDF : ∀ j, D ∉ (fun j => if j ∈ own then [] else F7 j) j := fun j q => a4.dj j D (by simp) q
      have hFyD : ∀ a ∈ Fy, a ∉ D :: Fv := fun a ha q => by
        have h1 := oy.fr a ha
        rw [plus_in q] at h1
        have h2 := (gn4 a q).2
        rw [h1] at h2; cases h2
      have hDv : D ∉ Fv := (List.nodup_cons.mp a4.nd).1
      refine ⟨by omega, by omega, ?_, G7, _, ds ++ [y], Fv ++ Fy, acc ++ [v], ((g3.trans g4).trans ?_), J8.updO a2 (a4.fr D (by simp)) hDF, et, upd_same, a2, ?_, ?_⟩
      · exact fun a o e => by
          rw [upd_ne (fun z => by subst z; rw [hD] at e; cases e)]
          exact s7 _ _ (s6 _ _ (S4 _ _ (S _ _ e)))
      · exact (g56.trans g7).unplus ow
      · refine (a3.mono fun v d Fa q r => r.mono (Same.refl _) (fun a ha => (r.gn a ha).1) fun a ha => upd_ne fun z => hDv (z ▸ q a ha)).app ⟨Fy, [], by simp, ry.mono (Same.refl _) (fun a ha => (ry.gn a ha).1) fun a ha => upd_ne fun z => hFyD a ha (by simp [z]), rfl⟩
      · rw [← List.cons_append]
        refine ⟨List.nodup_append.mpr ⟨a4.nd, oy.nd, fun a ha b hb z => hFyD b hb (z ▸ ha)⟩, fun a ha => ?_, fun j a ha q => ?_⟩
        · rcases List.mem_append.mp ha with ha | ha
          · exact a4.fr a ha
          · exact ow.under.free (oy.fr a ha)
        · rcases List.mem_append.mp ha with ha | ha
          · exact a4.dj j a ha q
          · split at q
            · cases q
            · exact oy.dj j a ha q
    · rw [if_neg htv]
      rw [if_neg (show ¬ truth (tv, ρ6).1 = true from htv)] at eo2
      have e8 := ok_inj eo2
      subst e8
      obtain ⟨J8, a1, a2, a3, a4⟩ := back g56 I6
      exact ⟨by omega, by omega, (S.trans S4).trans s6, G6, _, ds, Fv, acc, (g3.trans g4).trans (g56.unplus ow), J8, by rw [et]; simp, a1, a2, a3, a4⟩
/-- one item of a dict's comprehension -/
def dcompF (Φ : Calls) (own : List Nat) (tg k v : E) (ρ : Env) (acc : List (D × D)) (d : D) : Res (List (D × D)) := do
  let ρ1 ← bindN tg d (wipeD ρ own)
  let (a, ρ1) ← ev Φ k ρ1
  let (b, _) ← ev Φ v ρ1
  if isKey a && decide (acc.length < line) then .ok (put a b acc) else .stk
theorem dcomp_ev {own : List Nat} {tg it kx vx : E} {k : D × Env → Prop} (h : Pst W H0 (ev Φ (.dcomp own tg it kx vx) ρ) k) :
    Pst W H0 (ev Φ it ρ) fun p => Pst W H0 (itemsD p.1) fun xs => ∃ ds, foldR (dcompF Φ own tg kx vx p.2) [] xs = .ok ds ∧ k (.dict ds, p.2) := by
  have h : Pst W H0 (ev Φ it ρ >>= fun p => itemsD p.1 >>= fun xs => (foldR (dcompF Φ own tg kx vx p.2) [] xs).noexn >>= fun ds => Res.ok (D.dict ds, p.2)) k := h
  refine h.bind.map fun p _ h => h.bind.map fun xs _ h => ?_
  obtain ⟨ds, e, h⟩ := noexn_ok h.bind
  exact ⟨ds, e, h⟩
theorem foldR_take {α β : Type} {f : β → α → Res β} : ∀ {xs : List α} {b0 ys acc : β} {i : Nat} {d : α}, foldR f b0 xs = .ok ys → foldR f b0 (xs.take i) = .ok acc → xs[i]? = some d → ∃ acc', f acc d = .ok acc' ∧ foldR f b0 (xs.take (i + 1)) = .ok acc'
  | [], _, _, _, _, _, _, _, h => by simp at h
  | a :: r, b0, ys, acc, 0, d, h1, h2, h => by
    simp at h; subst h
    obtain ⟨b1, e1, h1⟩ := bind_ok_inv (show (f b0 a >>= fun b => foldR f b r) = _ from h1)
    have e := ok_inj (show Res.ok b0 = Res.ok acc from h2)
    subst e
    refine ⟨b1, e1, ?_⟩
    show (f b0 a >>= fun b => foldR f b []) = _
    rw [e1]; rfl
  | a :: r, b0, ys, acc, i + 1, d, h1, h2, h => by
    obtain ⟨b1, e1, h1⟩ := bind_ok_inv (show (f b0 a >>= fun b => foldR f b r) = _ from h1)
    have h2 : (f b0 a >>= fun b => foldR f b (r.take i)) = .ok acc := h2
    rw [e1] at h2
    obtain ⟨acc', e2, e3⟩ := foldR_take (xs := r) h1 (show foldR f b1 (r.take i) = .ok acc from h2) (by simpa using h)
    refine ⟨acc', e2, ?_⟩
    show (f b0 a >>= fun b => foldR f b (r.take (i + 1))) = _
    rw [e1]; exact e3
theorem dc_rd {own : List Nat} {tg it kx vx : E} {is : List Nat} (w : WOk W) (hs : subs Ta Tm = true) (ho : ownOk Tm own = true) (hi : tgs tg = some is) (hio : ∀ i ∈ is, i ∈ own) (hpc : pur kx = true) (hpe : pur vx = true) (hN : ckN tg (wipeT Tm own) = some T0) {Q : VK}
    (h : tEv K Φ W (.dcomp own tg it kx vx) T Tm (.dct .fz) σ H Q) : tDc (tIt K Φ W false it T Ta) (tTg K Φ Wn tg .fz (wipeT Tm own) T0) tYes (tEvD K Φ Wn kx T0 T0) (tEv K Φ Wn vx T0 T0 .fz) own σ H Q := by
  obtain ⟨H0, G, ρ, F, I, q⟩ := h
  refine ⟨H0, G, ρ, F, I, (dcomp_ev q).imp w (Same.refl _) fun p ep q => q.imp w (Same.refl _) fun xs exs ⟨ys, eys, k⟩ J G1 H1 F1 g1 s1 I1 itk D hD => ?_⟩
  obtain ⟨G2, F2, g2, I2, _, _⟩ := I1.weak hs
  let Wv : Nat → Nat → Hp → Prop := fun i m H => m = xs.length - i ∧ i ≤ xs.length ∧ Same H1 H ∧ ∃ G F ds acc, GS H0 G2 G ∧ SInv K H0 G H σ p.2 Tm F ∧ foldR (dcompF Φ own tg kx vx p.2) [] (xs.take i) = .ok ds ∧ H D = some (.dK acc) ∧ G D = none ∧ FzK K G acc ds ∧ Own H0 F [D]
  refine ⟨Wv, ⟨_, rfl, Nat.zero_le _, same_upd hD, G2, F2, [], [], .refl _ _, I2.grow (same_upd hD), rfl, upd_same, I2.gh.free hD, .nil, (Own.nil _ _).new I2 (by simp) hD⟩, fun i m H2 ⟨em, hi2, S, G3, F3, ds, acc, g3, I3, ed, hacc, hGD, fk, ow⟩ => ?_⟩
  have sB : Same (Bs false G1 H1) H2 := S
  by_cases hie : xs.length ≤ i
  · refine .inl ⟨itk.stop i H2 sB hie, ?_⟩
    have e : i = xs.length := by omega
    subst e
    rw [List.take_length, eys] at ed
    have e := ok_inj ed; subst e
    exact k (.ref D) G3 H2 F3 [D] ((g1.trans g2).trans g3) (fun z => by
      simp only [pur, Bool.and_eq_true] at z
      exact (s1 z.1.1).trans S) I3 ⟨D, acc, _, [], rfl, rfl, rfl, hGD, hacc, fk.rk⟩ ow
  · have hilt : i < xs.length := by omega
    refine .inr ⟨itk.go i H2 sB hilt, Wv (i + 1) (m - 1), fun H' hw => ⟨m - 1, by omega, hw⟩, fun x H3 hy => ?_⟩
    have hd : xs[i]? = some xs[i] := List.getElem?_eq_getElem hilt
    obtain ⟨o, eo, et⟩ := foldR_take eys ed hd
    have gnD : ∀ a ∈ [D], G3 a = none ∧ (H2 a).isSome = true := fun a ha => by
      have e : a = D := by simpa using ha
      subst e
      exact ⟨hGD, by rw [hacc]; rfl⟩
    obtain ⟨G4, g4, I4, fx, S4, n4⟩ := yld_in itk (g2.same.trans g3.same) I3 sB hy hd gnD
    obtain ⟨ρ5, e5, eo1⟩ := bind_ok_inv (show (bindN tg xs[i] (wipeD p.2 own) >>= fun ρ1 => ev Φ kx ρ1 >>= fun q => ev Φ vx q.2 >>= fun y => if isKey q.1 && decide (ds.length < line) then Res.ok (put q.1 y.1 ds) else .stk) = _ from eo)
    obtain ⟨⟨kd, ρ6⟩, e6, eo2⟩ := bind_ok_inv eo1
    have z6 : ρ6 = ρ5 := ev_pur kx hpc e6
    subst z6
    obtain ⟨⟨y, ρ7⟩, e7, eo3⟩ := bind_ok_inv eo2
    have z7 : ρ7 = ρ6 := ev_pur vx hpe e7
    subst z7
    obtain ⟨hkey, e8⟩ := if_ok eo3
    simp only [Bool.and_eq_true, decide_eq_true_eq] at hkey
    subst e8
    have gn4 : ∀ a ∈ [D], G4 a = none ∧ (H3 a).isSome = true := fun a ha => ⟨(n4 a ha).1, by rw [(n4 a ha).2]; exact (gnD a ha).2⟩
    refine ⟨plus H0 H3 [D], G4, wipeD p.2 own, F3, [], xs[i], (I4.plus ow).wipe own, ⟨rfl, fx⟩, .nil _ _, ?_⟩
    rw [bind_asgn tg hi, e5]
    intro σ5 G5 H5 F5 g5 p5 I5
    obtain ⟨rfl, hσ⟩ := p5 is hi
    obtain ⟨hl0, ht0⟩ := ckN_out tg hi hN
    have hσ' : ∀ j, j ∉ own → σ5[j]? = σ[j]? := fun j hj => (hσ j fun z => hj (hio j z)).trans (wipe_out' hj)
    have hρ' : ∀ j, j ∉ own → ρ7[j]? = p.2[j]? := fun j hj => (bind_out tg hi e5 j fun z => hj (hio j z)).trans (wipeD_out hj)
    have hT' : ∀ j, j ∉ own → T0[j]? = Tm[j]? := fun j hj => (ht0 j fun z => hj (hio j z)).trans (wipeT_out hj)
    refine ⟨wipe_ext (by rw [I5.ls, ← I5.lt, hl0, wipeT_len, I4.lt, ← I4.ls]) hσ', ?_⟩
    show tEvD K Φ Wn kx T0 T0 σ5 H5 _
    refine ⟨_, G5, ρ7, F5, I5, ?_⟩
    rw [e6]
    intro kv G6 H6 F6 g6 s6 I6 fkv
    have s6 := s6 hpc
    obtain ⟨kk, rfl, rfl⟩ := isKey_inv hkey.1 fkv
    refine ⟨_, G6, ρ7, F6, I6, ?_⟩
    rw [e7]
    intro v G7 H7 F7 Fy g7 s7 I7 ry oy
    have s7 := s7 hpe
    have g57 := (g5.trans g6).trans g7
    obtain ⟨k1, k2, k3⟩ := SInv.kept ow gn4 I7 g57
    have k2' : H7 D = H2 D := (k2 D (by simp)).trans (n4 D (by simp)).2
    have J8 := I4.unwipe I7 g57.same ow.under hσ' hρ' hT' ho
    have hDF : ∀ j, D ∉ (fun j => if j ∈ own then [] else F7 j) j := fun j q => by
      simp only at q
      split at q
      · cases q
      · exact k3.dj j D (by simp) q
    refine ⟨acc, kk, rfl, by rw [k2']; exact hacc, by rw [fk.len, sizeLine_eq]; exact hkey.2, by omega, by omega, ?_, G7, _, _, putK acc kk v, ((g3.trans g4).trans (g57.unplus ow)), J8.updO (k1 D (by simp)) (ow.fr D (by simp)) hDF, et, upd_same, k1 D (by simp), ?_, ⟨by simp, ow.fr, fun j a ha q => ?_⟩⟩
    · exact fun a o e => by
        rw [upd_ne (fun z => by subst z; rw [hD] at e; cases e)]
        exact s7 _ _ (s6 _ _ (S4 _ _ (S _ _ e)))
    · exact (fk.same (g4.same.trans g57.same)).put ry.2
    · have e : a = D := by simpa using ha
      subst e
      exact hDF j q
end
end Rf
end

section
/-! Rf2q: list(range(..)). -/
namespace Rf
open PySem PySem.Spec PyProof.Rows L2
theorem fz_rng {K : PySem.W.Frag} {G : Hp} : ∀ (n : Nat) (a : Int), FzA K G ((List.range n).map fun i => V.int (a + (i : Nat))) (rng a n)
  | 0, a => .nil
  | n + 1, a => by
    rw [List.range_succ_eq_map, List.map_cons, List.map_map]
    have ih := fz_rng (K := K) (G := G) n (a + 1)
    have e : ((fun i => V.int (a + (i : Nat))) ∘ Nat.succ : Nat → V) = fun i => V.int (a + 1 + (i : Nat)) := by
      funext i
      show V.int (a + ((i + 1 : Nat) : Int)) = _
      congr 1; push_cast; omega
    rw [e]
    have h0 : V.int (a + ((0 : Nat) : Int)) = .int a := by simp
    rw [h0]
    exact .cons (.int a) ih
theorem fz_rgV {K : PySem.W.Frag} {G : Hp} (a b : Int) : FzA K G (rgV a b) (rng a (b - a).toNat) := fz_rng _ _
theorem range_list {ds : List D} {d : D} (h : biD .range ds = .ok d) : ∃ xs, d = .list xs := by
  rcases ds with _ | ⟨a, _ | ⟨b, _ | ⟨c, _ | ⟨e, r⟩⟩⟩⟩
  · cases h
  · cases a <;> first | cases h | (obtain ⟨_, e⟩ := if_ok h; exact ⟨_, e.symm⟩)
  · cases a <;> first | cases h | (cases b <;> first | cases h | (obtain ⟨_, e⟩ := if_ok h; exact ⟨_, e.symm⟩))
  · cases a <;> first | cases h | (cases b <;> first | cases h | (cases c <;> first | cases h | (obtain ⟨_, e⟩ := if_ok h; exact ⟨_, e.symm⟩)))
  · cases a <;> first | cases h | (cases b <;> first | cases h | (cases c <;> first | cases h))
section
variable {K : PySem.W.Frag} {Φ : Calls} {W : Wx} {X : Cx} {T T' T1 T2 : Ty1} {pos p p2 pos2 : Pos} {H0 : Hp}
/-- list(range(..)), by data -/
theorem lr_ev {es : E} {ρ : Env} {k : D × Env → Prop} (h : Pst W H0 (ev Φ (.bi .list (.cons (.bi .range es) .nil)) ρ) k) : Pst W H0 (ev Φ es ρ) fun p => ∃ ds, p.1 = .tuple ds ∧ ∃ xs, biD .range ds = .ok (.list xs) ∧ k (.list xs, p.2) := by
  have h := (bi_ev h).map (k' := fun p => ∃ ds, p.1 = .tuple ds ∧ Pst W H0 (biD .list ds) fun d => k (d, p.2)) fun _ _ h => h
  have h := (bi_ev (cons_ev h)).map (k' := fun p => ∃ ds, p.1 = .tuple ds ∧ ∃ xs, biD .range ds = .ok (.list xs) ∧ k (.list xs, p.2)) fun p e1 ⟨ds, e2, h⟩ => ⟨ds, e2, ?_⟩
  · exact h
  · cases hd : biD .range ds with
    | stk => rw [hd] at h; exact h.elim
    | exn c as => exact absurd hd biD_noexn
    | ok d =>
      rw [hd] at h
      obtain ⟨es', e3, ds3, e4, h⟩ := h
      cases e3
      cases e4
      obtain ⟨xs, rfl⟩ := range_list hd
      exact ⟨xs, rfl, h⟩
theorem s_listRg1 {a : Expr} {ea : E} (hc : X.calm = true) (hg : Gl X "list") (hm : X.mg "list" = none) (hg2 : Gl X "range") (hm2 : X.mg "range" = none) (ha : PE X a (tEvD K Φ W ea T T')) (w : WOk W) (ns : NoStar a) :
    PE X (.Call (.Name "list" p) [.Call (.Name "range" p2) [a] [] pos2] [] pos) (tEv K Φ W (.bi .list (.cons (.bi .range (.cons ea .nil)) .nil)) T T' (.lst .fz)) := by
  refine (pe_listRg hc hg hm (prg_1 (p := p2) (pos := pos2) hg2 hm2 ha (by rw [ns]))).wk fun σ H Q ⟨H0, G, ρ, F, I, q⟩ => ⟨H0, G, ρ, F, I, (cons_ev (lr_ev q)).imp w (Same.refl _) fun p ep k v G1 H1 F1 g1 s1 I1 f => ?_⟩
  obtain ⟨ds3, e3, ds, e4, xs, e6, k⟩ := k
  cases e3
  cases e4
  obtain ⟨j, hj⟩ : ∃ j, p.1 = .int j := by
    cases hp : p.1 with
    | int j => exact ⟨j, rfl⟩
    | _ => rw [hp] at e6; cases e6
  rw [hj] at f e6
  cases f
  obtain ⟨hz, e⟩ := if_ok (show (if rOk j && decide (j ≤ line) then Res.ok (D.list (rng 0 j.toNat)) else .stk) = _ from e6)
  cases e
  simp only [Bool.and_eq_true, rOk, decide_eq_true_eq] at hz
  refine ⟨j, rfl, ⟨by omega, by omega, hz.1.1, hz.1.2, ?_⟩, fun q hq => ?_⟩
  · have : j ≤ 16777216 := hz.2
    omega
  · have fz := fz_rgV (K := K) (G := G1) 0 j
    rw [Int.sub_zero] at fz
    obtain ⟨G2, Fv, g2, I2, r2, o2⟩ := I1.newL fz hq .lst
    exact k _ G2 _ F1 Fv (g1.trans g2) (fun z => (s1 (by simpa [pur] using z)).trans (same_upd hq)) I2 r2 o2
end
end Rf
end

section
/-! Rf2r: isinstance. -/
namespace Rf
open PySem PySem.Spec PyProof.Rows L2
def tyS : Ty → String
  | .int => "int" | .bool => "bool" | .str => "str" | .list => "list" | .tuple => "tuple" | .dict => "dict"
/-- the type of a datum -/
def dTy : D → String
  | .none => "NoneType" | .bool _ => "bool" | .int _ => "int" | .str _ => "str" | .list _ => "list" | .tuple _ => "tuple" | .dict _ => "dict" | .scr _ => "list"
theorem kit_tys (x : D) (t : Ty) (hx : ∀ ns, x ≠ .scr ns) : kitB (dTy x) (tyS t) = some (tyD x t) := by
  cases x <;> first | exact absurd rfl (hx _) | (cases t <;> simp only [dTy, tyS, tyD] <;> decide +kernel)
theorem cTy_ok {x : Str} {t : Ty} (h : cTy x = some t) : bootBuiltins x = some (.type (tyS t)) ∧ x ≠ "__name__" ∧ (x == ("__debug__" : Str)) = false := by
  unfold cTy at h
  split at h
  · rename_i e; subst e; cases h; exact ⟨rfl, by decide +kernel, by decide +kernel⟩
  split at h
  · rename_i e; subst e; cases h; exact ⟨rfl, by decide +kernel, by decide +kernel⟩
  split at h
  · rename_i e; subst e; cases h; exact ⟨rfl, by decide +kernel, by decide +kernel⟩
  split at h
  · rename_i e; subst e; cases h; exact ⟨rfl, by decide +kernel, by decide +kernel⟩
  split at h
  · rename_i e; subst e; cases h; exact ⟨rfl, by decide +kernel, by decide +kernel⟩
  split at h
  · rename_i e; subst e; cases h; exact ⟨rfl, by decide +kernel, by decide +kernel⟩
  · cases h
section
variable {K : PySem.W.Frag} {Φ : Calls} {W : Wx} {X : Cx} {T T' T1 T2 : Ty1} {pos p p2 pos2 : Pos} {H0 : Hp}
theorem Fz.ty {H : Hp} {v : V} {d : D} (h : Fz K H v d) (hx : ∀ ns, d ≠ .scr ns) : TyX K H v (.type (dTy d)) := by
  cases h with
  | non => exact .base .non
  | bl b => exact .base (.bl b)
  | int i => exact .base (.int i)
  | str x hz => exact .base (.str x)
  | lst a b => exact .base (.lst a)
  | scr a => exact absurd rfl (hx _)
  | tup a b =>
    rcases a with (a | ⟨o, a⟩) | ⟨o, _, _, a, c, _⟩
    · exact .base (.tup a)
    · exact .fTuple a
    · exact .kTuple a c
  | dct a b => exact .base (.dK a)
/-- isinstance(e, t), by data -/
theorem isi_ev {e : E} {ts : List Ty} {ρ : Env} {k : D × Env → Prop} (h : Pst W H0 (ev Φ (.isi e ts) ρ) k) : Pst W H0 (ev Φ e ρ) fun p => ∃ b, isiD ts p.1 = .ok b ∧ k (.bool b, p.2) := by
  simp only [ev] at h
  refine h.bind.map fun p _ h => ?_
  obtain ⟨d, ρ1⟩ := p
  have h := h.bind
  cases hd : isiD ts d with
  | stk => rw [hd] at h; exact h.elim
  | exn c as => unfold isiD at hd; split at hd <;> cases hd
  | ok b => rw [hd] at h; exact ⟨b, rfl, h⟩
theorem s_isi {a : Expr} {ea : E} {t : Str} {ty : Ty} (hK : X.K = K) (hg : Gl X "isinstance") (hm : X.mg "isinstance" = none) (hg2 : Gl X t) (hm2 : X.mg t = none) (ht : cTy t = some ty) (ha : PE X a (tEvD K Φ W ea T T')) (w : WOk W) (ns : NoStar a) :
    PE X (.Call (.Name "isinstance" p) [a, .Name t p2] [] pos) (tEv K Φ W (.isi ea [ty]) T T' .fz) := by
  subst hK
  obtain ⟨hb, hn⟩ := cTy_ok ht
  refine (pe_callB call_isi hg hm rfl (pa_cons ha (pa_cons (pe_bltn (v := .ty (tyS ty)) hg2 hm2 hb rfl hn.1 hn.2) pa_nil) (ns _ _)) (by decide +kernel) (by decide +kernel) (ns _ _) (by rfl)).wk fun σ H Q ⟨H0, G, ρ, F, I, q⟩ => ⟨H0, G, ρ, F, I, (isi_ev q).imp w (Same.refl _) fun p _ ⟨b, hb, k⟩ v G1 H1 F1 g1 s1 I1 f => ?_⟩
  have hx : ∀ ns, p.1 ≠ .scr ns := fun ns e => by rw [e] at hb; cases hb
  have e2 : b = tyD p.1 ty := by
    have : isiD [ty] p.1 = .ok (tyD p.1 ty) := by
      cases hp : p.1 <;> first | exact absurd hp (hx _) | (simp [isiD])
    rw [this] at hb; exact (ok_inj hb).symm
  exact ⟨v, .ty (tyS ty), _, _, b, rfl, .ty _, f.ty hx, by rw [e2]; exact kit_ty (kit_tys _ _ hx), k _ G1 H1 F1 [] g1 s1 I1 ⟨rfl, .bl _⟩ (.nil _ _)⟩
end
end Rf
end

section
/-! Rf2s: a dict of the module, asked for a key. -/
namespace Rf
open PySem PySem.Spec PyProof.Rows L2
/-- what the program's dict at a holds -/
def KdOk (K : PySem.W.Frag) (w : World) (a : Addr) (kvs : List (D × D)) : Prop := ∀ z d, look (.str z) kvs = some d → ∃ v, KDct K w a z v ∧ ∀ G, Fz K G v d
section
variable {K : PySem.W.Frag} {Φ : Calls} {W : Wx} {X : Cx} {T T' T1 T2 : Ty1} {pos p : Pos} {H0 : Hp}
theorem s_kd {y : Str} {b : Expr} {eb : E} {a : Addr} {kvs : List (D × D)} (hK : X.K = K) (hg : Gl X y) (hm : X.mg y = some (.ref a)) (hn : (y == ("__debug__" : Str)) = false) (hd : KdOk X.K X.w a kvs) (hb : PE X b (tEvD K Φ W eb T T')) (w : WOk W) (hs : PlainIx b) :
    PE X (.Subscript (.Name y p) b pos) (tEv K Φ W (.bi (.kd kvs) (.cons eb .nil)) T T' .fz) := by
  subst hK
  refine (pe_ix (pos := pos) ix_kdict (pe_glob (v := .ref a) hg hm rfl hn) hb hs).wk fun σ H Q ⟨H0, G, ρ, F, I, q⟩ => ⟨H0, G, ρ, F, I, (cons_ev (bi_ev q)).imp w (Same.refl _) fun p ep k v G1 H1 F1 g1 s1 I1 f => ?_⟩
  obtain ⟨ds3, e3, ds, e4, k⟩ := k
  cases e3
  cases e4
  obtain ⟨z, hz⟩ : ∃ z, p.1 = .str z := by
    cases hp : p.1 with
    | str z => exact ⟨z, rfl⟩
    | _ => rw [hp] at k; exact (k : False).elim
  rw [hz] at f k
  cases f
  have k : Pst W H0 (match look (.str z) kvs with | some d => Res.ok d | none => .stk) _ := k
  cases hl : look (.str z) kvs with
  | none => rw [hl] at k; exact k.elim
  | some d =>
    rw [hl] at k
    obtain ⟨v, h1, h2⟩ := hd z d hl
    exact ⟨a, z, v, rfl, rfl, h1, k v G1 H1 F1 [] g1 (fun q => s1 (by simpa [pur] using q)) I1 ⟨rfl, h2 _⟩ (.nil _ _)⟩
end
end Rf
end

section
/-! Rf4a: what a compiled text is like; what the check tells. -/
namespace Rf
open PySem PySem.Spec PyProof.Rows L2
theorem idxS_get {x : Str} : ∀ {N : List Str} {k i : Nat}, idxS x N k = some i → k ≤ i ∧ N[i - k]? = some x
  | [], _, _, h => by cases h
  | y :: r, k, i, h => by
    unfold idxS at h
    split at h
    · cases h; rename_i e; subst e; simp
    · obtain ⟨h1, h2⟩ := idxS_get h
      refine ⟨by omega, ?_⟩
      rw [show i - k = (i - (k + 1)) + 1 by omega, List.getElem?_cons_succ]
      exact h2
theorem idxS_at {x : Str} {N : List Str} {i : Nat} (h : idxS x N 0 = some i) : N[i]? = some x := by simpa using (idxS_get h).2
theorem isVis_ok {sc : Scope} {x : Str} (h : isVis sc x = true) : Vis sc x := by
  unfold isVis at h
  split at h
  · rename_i e; exact .inl e
  · rename_i e; exact .inr (.inl e)
  · rename_i e; exact .inr (.inr e)
  · cases h
theorem isLoc_ok {C : Cc} {sc : Scope} {x : Str} (h : isLoc C sc x = true) : Loc sc x ∧ (sc.names.lookup x = some .local ∨ (sc.names.lookup x = some .cell ∧ C.sto x = true)) := by
  unfold isLoc at h
  split at h
  · rename_i e; exact ⟨.inl e, .inl e⟩
  · rename_i e; exact ⟨.inr e, .inr ⟨e, h⟩⟩
  · cases h
theorem okName_ok {x : Str} (h : okName x = true) : (x == ("__debug__" : Str)) = false ∧ (x == ("__classdict__" : Str)) = false ∧ x ≠ "__name__" := by
  unfold okName at h
  simp only [Bool.and_eq_true, Bool.not_eq_true'] at h
  exact ⟨h.1.1, h.1.2, fun e => by rw [e] at h; exact absurd h.2 (by decide)⟩
theorem isGl_ok {sc : Scope} {x : Str} (h : isGl sc x = true) : sc.names.lookup x = some .globalImplicit ∧ okName x = true := by
  unfold isGl at h
  simp only [Bool.and_eq_true] at h
  refine ⟨?_, h.2⟩
  have h1 := h.1
  split at h1
  · assumption
  · cases h1
section
variable {C : Cc} {n : Nat} {sc : Scope} {x : Expr} {e : E}
theorem c_nostar (h : cE C n sc x = some e) : NoStar x := by
  intro xs env
  cases x <;> first | rfl | (cases n <;> cases h)
theorem c_plain (h : cE C n sc x = some e) : PlainIx x := by
  intro o i
  cases x <;> first | rfl | (cases n <;> cases h)
theorem c_marks (op : CmpOp) (h : cE C n sc x = some e) : behindInMarks op x = false := by
  cases x <;> first | rfl | (cases n <;> cases h)
end
theorem cT_nostar {C : Cc} {n : Nat} {sc : Scope} {x : Expr} {e : E} {X : Cx} (h : cT C n sc x = some e) : NoStarT X x := by
  intro xs
  cases x <;> first | rfl | (cases n <;> cases h)
/-! the check, turned round -/
section
variable {ret : Nat → Ow} {m : Nat} {e : E} {T T' : Ty1} {t : Ow}
theorem ckb_inv (h : ckb ret (m + 1) e T = some (t, T')) : (∃ i, e = .var i ∧ T[i]? = some t ∧ t ≠ .dead ∧ T' = T) ∨
    (∃ a i r t0 T1, e = .sub a i ∧ rootE a = some r ∧ ckb ret m a T = some (t0, T') ∧ ckb ret m i T' = some (T1, T') ∧ pur i = true ∧ t = child t0 ∧ child t0 ≠ .dead) ∨ (ck ret false m e T = some (t, T') ∧ rootE e = none) := by
  cases e with
  | var i =>
    have h : (match T[i]? with | some .dead => none | some t => some (t, T) | none => none) = some (t, T') := h
    split at h
    · cases h
    · rename_i t1 hd e
      cases h
      exact .inl ⟨i, rfl, e, fun z => hd z, rfl⟩
    · cases h
  | sub a i =>
    have h : (match rootE a with
      | some _ => do
        let (t, T) ← ckb ret m a T
        let (_, T1) ← ckb ret m i T
        let c := child t
        if pur i && c != .dead && decide (T1 = T) then some (c, T) else none
      | none => ck ret false m (.sub a i) T) = some (t, T') := h
    cases hr : rootE a with
    | none => rw [hr] at h; exact .inr (.inr ⟨h, hr⟩)
    | some r =>
      rw [hr] at h
      simp only [Option.bind_eq_bind, Option.bind_eq_some_iff, Prod.exists] at h
      obtain ⟨t0, T0, h1, u, T1, h2, h3⟩ := h
      split at h3
      · rename_i hc
        simp only [Bool.and_eq_true, decide_eq_true_eq, bne_iff_ne] at hc
        cases h3
        obtain ⟨⟨c1, c2⟩, c3⟩ := hc
        subst c3
        exact .inr (.inl ⟨a, i, r, t0, u, rfl, hr, h1, h2, c1, rfl, c2⟩)
      · cases h3
  | _ => exact .inr (.inr ⟨h, rfl⟩)
theorem ckt_inv (h : ckt ret (m + 1) e T = some T') : (∃ a b, e = .and a b ∧ ckt ret m a T = some T' ∧ ckt ret m b T' = some T') ∨ (∃ a b, e = .or a b ∧ ckt ret m a T = some T' ∧ ckt ret m b T' = some T') ∨
    (∃ a, e = .not a ∧ ckt ret m a T = some T') ∨ ((∃ t, ckb ret m e T = some (t, T')) ∧ (∀ a b, e ≠ .and a b) ∧ (∀ a b, e ≠ .or a b) ∧ (∀ a, e ≠ .not a) ∧ ∀ a b c, e ≠ .ite a b c) := by
  have def_ : ((ckb ret m e T).bind fun p => some p.2) = some T' → ∃ t, ckb ret m e T = some (t, T') := fun h => by
    rw [Option.bind_eq_some_iff] at h
    obtain ⟨⟨t, T1⟩, h1, h2⟩ := h
    cases h2
    exact ⟨t, h1⟩
  cases e with
  | and a b =>
    have h : ((ckt ret m a T).bind fun T => (ckt ret m b T).bind fun T1 => if decide (T1 = T) = true then some T else none) = some T' := h
    simp only [Option.bind_eq_some_iff] at h
    obtain ⟨T0, h1, T1, h2, h3⟩ := h
    split at h3
    · rename_i hc
      cases h3
      have hc := of_decide_eq_true hc
      subst hc
      exact .inl ⟨a, b, rfl, h1, h2⟩
    · cases h3
  | or a b =>
    have h : ((ckt ret m a T).bind fun T => (ckt ret m b T).bind fun T1 => if decide (T1 = T) = true then some T else none) = some T' := h
    simp only [Option.bind_eq_some_iff] at h
    obtain ⟨T0, h1, T1, h2, h3⟩ := h
    split at h3
    · rename_i hc
      cases h3
      have hc := of_decide_eq_true hc
      subst hc
      exact .inr (.inl ⟨a, b, rfl, h1, h2⟩)
    · cases h3
  | not a => exact .inr (.inr (.inl ⟨a, rfl, h⟩))
  | ite a b c => cases h
  | _ => exact .inr (.inr (.inr ⟨def_ h, by simp, by simp, by simp, by simp⟩))
def ckcK (e : E) (p : Ow × Ty1) : Option (Ow × Ty1) := match e with
      | .var i => if (sub1 p.1 (meltC p.1) && flatT (meltC p.1)) = true then some (meltC p.1, p.2.set i (meltC p.1)) else none
      | e => match rootE e with
        | some i => if sub1 (p.2.getD i .dead) .fz = true then some (.fz, p.2.set i .fz) else none
        | none => some (.fz, p.2)
theorem ckc_inv (h : ckc ret (m + 1) e T = some (t, T')) : ∃ t1 T1, ckb ret m e T = some (t1, T1) ∧ ((flatT t1 = true ∧ T' = T1) ∨
    (∃ i, e = .var i ∧ sub1 t1 (meltC t1) = true ∧ flatT (meltC t1) = true ∧ T' = T1.set i (meltC t1)) ∨ (∃ i t0, rootE e = some i ∧ T1[i]? = some t0 ∧ sub1 t0 .fz = true ∧ T' = T1.set i .fz) ∨ (rootE e = none ∧ T' = T1)) := by
  have h : ((ckb ret m e T).bind fun p => if flatT p.1 = true then some p else ckcK e p) = some (t, T') := by cases e <;> exact h
  rw [Option.bind_eq_some_iff] at h
  obtain ⟨⟨t1, T1⟩, h1, h2⟩ := h
  refine ⟨t1, T1, h1, ?_⟩
  have root : (match rootE e with
        | some i => if sub1 (T1.getD i .dead) .fz = true then some (Ow.fz, T1.set i .fz) else none
        | none => some (.fz, T1)) = some (t, T') → (∃ i t0, rootE e = some i ∧ T1[i]? = some t0 ∧ sub1 t0 .fz = true ∧ T' = T1.set i .fz) ∨ (rootE e = none ∧ T' = T1) := fun h => by
    split at h
    · rename_i i hi
      split at h
      · rename_i hs
        cases h
        refine .inl ⟨i, T1.getD i .dead, hi, ?_, hs, rfl⟩
        cases hq : T1[i]? with
        | some q => simp [List.getD, hq]
        | none => simp [List.getD, hq, sub1, sub0, isVal] at hs
      · cases h
    · rename_i hn; cases h; exact .inr ⟨hn, rfl⟩
  split at h2
  · rename_i hf; cases h2; exact .inl ⟨hf, rfl⟩
  · cases e with
    | var i =>
      have h2 : (if (sub1 t1 (meltC t1) && flatT (meltC t1)) = true then some (meltC t1, T1.set i (meltC t1)) else none) = some (t, T') := h2
      split at h2
      · rename_i hc
        simp only [Bool.and_eq_true] at hc
        cases h2
        exact .inr (.inl ⟨i, rfl, hc.1, hc.2, rfl⟩)
      · cases h2
    | _ => rcases root h2 with h | h; exact .inr (.inr (.inl h)); exact .inr (.inr (.inr h))
end
end Rf
end

section
/-! Rf4b: what is compiled and checked computes what its data say. -/
namespace Rf
open PySem PySem.Spec PyProof.Rows L2
theorem joins_sub : ∀ {T1 T2 : Ty1}, T1.length = T2.length → subs T1 (joins T1 T2) = true ∧ subs T2 (joins T1 T2) = true
  | [], [], _ => ⟨rfl, rfl⟩
  | a :: r, b :: s, h => by
    obtain ⟨h1, h2⟩ := joins_sub (T1 := r) (T2 := s) (by simpa using h)
    have q : sub a (joinS a b) = true ∧ sub b (joinS a b) = true := by
      unfold joinS
      split
      · rename_i hc; simpa using hc
      · constructor <;> (unfold sub; simp)
    exact ⟨by simp only [joins, subs, q.1, h1]; rfl, by simp only [joins, subs, q.2, h2]; rfl⟩
  | [], _ :: _, h => by simp at h
  | _ :: _, [], h => by simp at h
/-- calls of the program's defs keep what the data say -/
def CallOk (K : PySem.W.Frag) (xs : XS) (Φ : Calls) (W : Wx) (X : Cx) (x : Str) (f n : Nat) (t : Ow) : Prop :=
  ∃ CX k fa fd ps Ex sp, FnOk X.prog X.w X.K X.mg X.base CX k fa fd ps sp ∧ (∀ vs H Q, spD K xs Φ f n t vs H Q Ex → sp vs H Q Ex) ∧ (∀ vs H Q, spD K xs Φ f n t vs H Q E0 → sp vs H Q E0) ∧ Room k X.A ∧ X.mg x = some (.ref fa) ∧ PySem.W.keepIn X.K (.ref fa) = true ∧ Binds X.K fd ps [] ∧ WOf xs W Ex ∧ Passes CX X Ex ∧
    ∀ s H scope cenv fp, Passes CX (X.blk s H scope cenv fp) E0
/-- the context of a body whose scope is sc -/
structure Okx (C : Cc) (ret : Nat → Ow) (K : PySem.W.Frag) (xs : XS) (Φ : Calls) (W : Wx) (X : Cx) (sc : Scope) : Prop where
  hK : X.K = K
  hs : X.env.scope = sc
  hN : X.N = C.N
  nd : C.N.Nodup
  calm : X.calm = true
  un : X.A.units + 65 < cLine
  w : WOk W
  rp : C.rp = true → X.A.guards = some []
  fn : ∀ x, sc.names.lookup x = some .cell → C.sto x = true → X.fn x = true
  blt : ∀ x, C.gl.lookup x = none ∧ x ∈ C.bl → X.mg x = none
  gcd : ∀ x, C.gl.lookup x = some .gcd → X.mg x = some (.builtin "math.gcd")
  cst : ∀ x d, C.gl.lookup x = some (.cst d) → ∃ u v, X.mg x = some u ∧ RelV v u ∧ ∀ G, Fz K G v d
  kdc : ∀ x kvs, C.gl.lookup x = some (.kdc kvs) → ∃ a, X.mg x = some (.ref a) ∧ KdOk X.K X.w a kvs
  call : ∀ x f n, C.gl.lookup x = some (.fn f n) → CallOk K xs Φ W X x f n (ret f)
section
variable {C : Cc} {ret : Nat → Ow} {K : PySem.W.Frag} {xs : XS} {Φ : Calls} {W : Wx} {X : Cx} {sc : Scope}
theorem Okx.blk (O : Okx C ret K xs Φ W X sc) (s : Shared) (H : Hp) (scope : Scope) (cl : List (Str × Addr)) (a : Addr) (fp : List Addr) : Okx (C.into scope) ret K xs Φ Wn (X.blk s H scope (compEnvC scope cl a X.env) fp) (relS scope sc) where
  hK := O.hK
  hs := by rw [← O.hs]; rfl
  hN := O.hN
  nd := O.nd
  calm := O.calm
  un := O.un
  w := wn_ok
  rp := O.rp
  fn := fun x _ h => h
  blt := O.blt
  gcd := O.gcd
  cst := O.cst
  kdc := O.kdc
  call := fun x f n h => by
    obtain ⟨CX, k, fa, fd, ps, Ex, sp, h1, _, i2, h2, h3, h4, h5, h6, h7, h8⟩ := O.call x f n h
    exact ⟨CX, k, fa, fd, ps, E0, sp, h1, i2, i2, h2, h3, h4, h5, fun c as H w => w.elim, h8 _ _ _ _ _, fun s' H' scope' cenv' fp' => h8 s' H' scope' cenv' fp'⟩
theorem Okx.gl (O : Okx C ret K xs Φ W X sc) {x : Str} (h : isGl sc x = true) : Gl X x := by
  have q := (isGl_ok h).1
  rw [← O.hs] at q
  exact q
theorem Okx.name (O : Okx C ret K xs Φ W X sc) {x : Str} {pos : Pos} {i : Nat} (h : isVis sc x = true) (hn : okName x = true) (hi : idxS x C.N 0 = some i) : PE X (.Name x pos) (tVar i) :=
  pe_var (by rw [O.hN]; exact idxS_at hi) (by rw [O.hs]; exact isVis_ok h) (okName_ok hn).1 (okName_ok hn).2.1
end
end Rf
end

section
/-! Rf4c: expressions: what is compiled and checked computes what its data say. -/
namespace Rf
open PySem PySem.Spec PyProof.Rows L2
section
variable {ret : Nat → Ow} {m : Nat} {e : E} {T T' : Ty1} {t : Ow} {mv : Bool}
theorem ck_var {i : Nat} (h : ck ret mv (m + 1) (.var i) T = some (t, T')) : (T[i]? = some .fz ∧ t = .fz ∧ T' = T) ∨ (T[i]? = some .bot ∧ t = .fz ∧ T' = T) ∨
    ∃ t0, T[i]? = some t0 ∧ t0 ≠ .dead ∧ ((mv = true ∧ t = t0 ∧ T' = T.set i .dead) ∨ (mv = false ∧ t = .fz ∧ T' = T.set i .fz)) := by
  have h : (match T[i]? with
      | some .fz => some (.fz, T)
      | some .bot => some (.fz, T)
      | some .dead => none
      | some t => if mv then some (t, T.set i .dead) else some (.fz, T.set i .fz)
      | none => none) = some (t, T') := h
  split at h
  · rename_i e; cases h; exact .inl ⟨e, rfl, rfl⟩
  · rename_i e; cases h; exact .inr (.inl ⟨e, rfl, rfl⟩)
  · cases h
  · rename_i t0 n1 n2 n3 e
    refine .inr (.inr ⟨t0, e, fun z => n3 z, ?_⟩)
    cases mv with
    | true => cases h; exact .inl ⟨rfl, rfl, rfl⟩
    | false => cases h; exact .inr ⟨rfl, rfl, rfl⟩
  · cases h
end
section
variable {ret : Nat → Ow} {m : Nat} {e : E} {T T' : Ty1} {t : Ow} {mv : Bool}
theorem ck_cmp {o : COp} {a b : E} (h : ck ret mv (m + 1) (.cmp o a b) T = some (t, T')) : ∃ ta T1 tb, ckb ret m a T = some (ta, T1) ∧ ckb ret m b T1 = some (tb, T') ∧ pur b = true := by
  have h : ((ckb ret m a T).bind fun p => (ckb ret m b p.2).bind fun q => if pur b = true then some (Ow.fz, q.2) else none) = some (t, T') := h
  simp only [Option.bind_eq_some_iff, Prod.exists] at h
  obtain ⟨ta, T1, h1, tb, T2, h2, h3⟩ := h
  split at h3
  · rename_i hp; cases h3; exact ⟨ta, T1, tb, h1, h2, hp⟩
  · cases h3
end
theorem biT_ok (b : Bi) : OkT (biT b) := by cases b <;> first | exact .fz | exact .lst
theorem bi_rule {X : Cx} {K : PySem.W.Frag} (hK : X.K = K) (hu : X.A.units + 65 < cLine) (hc : X.calm = true) {f : Str} {b : Bi} (h : cBi f = some b) : (∃ id, bootBuiltins f = some (.builtin id) ∧ CallR X (.builtin id) (rBi K b)) ∨ ∃ T, bootBuiltins f = some (.type T) ∧ CallR X (.type T) (rBi K b) := by
  unfold cBi at h
  split at h
  · rename_i e; subst e; cases h; exact .inl ⟨_, rfl, bi_len hK⟩
  split at h
  · rename_i e; subst e; cases h; exact .inl ⟨_, rfl, bi_sorted hK hu⟩
  split at h
  · rename_i e; subst e; cases h; exact .inl ⟨_, rfl, bi_sum hK hc⟩
  split at h
  · rename_i e; subst e; cases h; exact .inl ⟨_, rfl, bi_max hK hc⟩
  split at h
  · rename_i e; subst e; cases h; exact .inl ⟨_, rfl, bi_min hK hc⟩
  split at h
  · rename_i e; subst e; cases h; exact .inl ⟨_, rfl, bi_all hK hc⟩
  split at h
  · rename_i e; subst e; cases h; exact .inl ⟨_, rfl, bi_any hK hc⟩
  split at h
  · rename_i e; subst e; cases h; exact .inr ⟨_, rfl, bi_int⟩
  split at h
  · rename_i e; subst e; cases h; exact .inl ⟨_, rfl, bi_abs⟩
  split at h
  · rename_i e; subst e; cases h; exact .inr ⟨_, rfl, bi_list hK⟩
  · cases h
theorem back_plain {X : Cx} {pos : Pos} : ∀ {es : List Expr}, (∀ a ∈ es, NoStar a) → (backTo pos (starEach es X.env)).any (·.1) = false
  | [], _ => rfl
  | a :: r, h => by
    rw [h a (by simp) r X.env]
    have := back_plain (X := X) (pos := pos) (es := r) fun b hb => h b (by simp [hb])
    simpa [backTo] using this
/-- the parts of a compiled list -/
theorem cEs_star {C : Cc} {sc : Scope} : ∀ {n : Nat} {xs : List Expr} {e : E}, cEs C n sc xs = some e → ∀ a ∈ xs, NoStar a
  | 0, _, _, h, _, _ => by cases h
  | n + 1, [], _, _, _, h => by simp at h
  | n + 1, x :: r, e, h, a, ha => by
    have h : ((cE C n sc x).bind fun x => (cEs C n sc r).map fun xs => E.cons x xs) = some e := h
    simp only [Option.bind_eq_some_iff, Option.map_eq_some_iff] at h
    obtain ⟨y, h1, ys, h2, _⟩ := h
    rcases List.mem_cons.mp ha with rfl | ha
    · exact c_nostar h1
    · exact cEs_star h2 a ha
theorem cEs_len {C : Cc} {sc : Scope} {Φ : Calls} : ∀ {n : Nat} {xs : List Expr} {e : E}, cEs C n sc xs = some e → ∀ {ρ : Env} {p : D × Env}, ev Φ e ρ = .ok p → ∃ ds, p.1 = .tuple ds ∧ ds.length = xs.length
  | 0, _, _, h, _, _, _ => by cases h
  | n + 1, [], e, h, ρ, p, hp => by
    have h : some E.nil = some e := h
    cases h
    rw [← ok_inj (show Res.ok (D.tuple [], ρ) = Res.ok p from hp)]
    exact ⟨[], rfl, rfl⟩
  | n + 1, x :: r, e, h, ρ, p, hp => by
    have h : ((cE C n sc x).bind fun x => (cEs C n sc r).map fun xs => E.cons x xs) = some e := h
    simp only [Option.bind_eq_some_iff, Option.map_eq_some_iff] at h
    obtain ⟨y, h1, ys, h2, rfl⟩ := h
    simp only [ev] at hp
    obtain ⟨⟨d, ρ1⟩, e1, hp⟩ := bind_ok_inv hp
    obtain ⟨⟨q, ρ2⟩, e2, hp⟩ := bind_ok_inv hp
    obtain ⟨ds, e3, hl⟩ := cEs_len h2 e2
    have e3 : q = .tuple ds := e3
    subst e3
    rw [← ok_inj (show Res.ok (D.tuple (d :: ds), ρ2) = Res.ok p from hp)]
    exact ⟨_, rfl, by simp [hl]⟩
theorem cEs_nn {C : Cc} {sc : Scope} {n : Nat} {x : Expr} {xs : List Expr} {e : E} (h : cEs C n sc (x :: xs) = some e) : ∃ a es n', n = n' + 1 ∧ e = .cons a es ∧ cE C n' sc x = some a ∧ cEs C n' sc xs = some es := by
  cases n with
  | zero => cases h
  | succ n =>
    have h : ((cE C n sc x).bind fun x => (cEs C n sc xs).map fun xs => E.cons x xs) = some e := h
    simp only [Option.bind_eq_some_iff, Option.map_eq_some_iff] at h
    obtain ⟨y, h1, ys, h2, rfl⟩ := h
    exact ⟨y, ys, n, rfl, rfl, h1, h2⟩
theorem cEs_n0 {C : Cc} {sc : Scope} {n : Nat} {e : E} (h : cEs C n sc [] = some e) : e = .nil := by
  cases n with
  | zero => cases h
  | succ n => have h : some E.nil = some e := h; cases h; rfl

/-! a compiled text, turned round -/
section
variable {C : Cc} {n : Nat} {sc : Scope} {e : E} {p : Pos}
theorem i_name {x : Str} (h : cE C n sc (.Name x p) = some e) : (∃ i, e = .var i ∧ isVis sc x = true ∧ okName x = true ∧ idxS x C.N 0 = some i) ∨ ∃ d, e = .lit d ∧ isGl sc x = true ∧ C.gl.lookup x = some (.cst d) := by
  cases n with
  | zero => cases h
  | succ n =>
    have h : cName C sc x = some e := h
    unfold cName at h
    split at h
    · rename_i hc
      simp only [Bool.and_eq_true] at hc
      rw [Option.map_eq_some_iff] at h
      obtain ⟨i, h1, rfl⟩ := h
      exact .inl ⟨i, rfl, hc.1, hc.2, h1⟩
    · split at h
      · rename_i hg
        split at h
        · rename_i d hd; cases h; exact .inr ⟨d, rfl, hg, hd⟩
        · cases h
      · cases h
theorem i_tup {es : List Expr} {k : Nat} (h : cE C n sc (.Tuple es k p) = some e) : ∃ n' x, n = n' + 1 ∧ e = .tup x ∧ cEs C n' sc es = some x ∧ es.length ≤ 1000 := by
  cases n with
  | zero => cases h
  | succ n =>
    have h : (if es.length ≤ 1000 then (cEs C n sc es).map E.tup else none) = some e := h
    split at h
    · rename_i hl
      rw [Option.map_eq_some_iff] at h
      obtain ⟨x, h1, rfl⟩ := h
      exact ⟨n, x, rfl, rfl, h1, hl⟩
    · cases h
theorem i_lst {es : List Expr} (h : cE C n sc (.List es p) = some e) : ∃ n' x, n = n' + 1 ∧ e = .lst x ∧ cEs C n' sc es = some x ∧ es.length ≤ 1000 := by
  cases n with
  | zero => cases h
  | succ n =>
    have h : (if es.length ≤ 1000 then (cEs C n sc es).map E.lst else none) = some e := h
    split at h
    · rename_i hl
      rw [Option.map_eq_some_iff] at h
      obtain ⟨x, h1, rfl⟩ := h
      exact ⟨n, x, rfl, rfl, h1, hl⟩
    · cases h
theorem i_un {o : UnaryOp} {a : Expr} (h : cE C n sc (.UnaryOp o a p) = some e) : ∃ n' x, n = n' + 1 ∧ cE C n' sc a = some x ∧ ((o = .USub ∧ e = .neg x) ∨ (o = .Not ∧ e = .not x)) := by
  cases n with
  | zero => cases h
  | succ n =>
    cases o with
    | USub =>
      have h : (cE C n sc a).map E.neg = some e := h
      rw [Option.map_eq_some_iff] at h
      obtain ⟨x, h1, rfl⟩ := h
      exact ⟨n, x, rfl, h1, .inl ⟨rfl, rfl⟩⟩
    | Not =>
      have h : (cE C n sc a).map E.not = some e := h
      rw [Option.map_eq_some_iff] at h
      obtain ⟨x, h1, rfl⟩ := h
      exact ⟨n, x, rfl, h1, .inr ⟨rfl, rfl⟩⟩
    | _ => cases h
theorem i_bin {o : Operator} {a b : Expr} (h : cE C n sc (.BinOp a o b p) = some e) : ∃ n' x o' y, n = n' + 1 ∧ e = .bin o' x y ∧ cE C n' sc a = some x ∧ cB o = some o' ∧ cE C n' sc b = some y := by
  cases n with
  | zero => cases h
  | succ n =>
    have h : ((cE C n sc a).bind fun x => (cB o).bind fun o => (cE C n sc b).map fun y => E.bin o x y) = some e := h
    simp only [Option.bind_eq_some_iff, Option.map_eq_some_iff] at h
    obtain ⟨x, h1, o', h2, y, h3, rfl⟩ := h
    exact ⟨n, x, o', y, rfl, rfl, h1, h2, h3⟩
theorem i_cmp {ops : List CmpOp} {a : Expr} {bs : List Expr} (h : cE C n sc (.Compare a ops bs p) = some e) : ∃ n' x o b y, n = n' + 1 ∧ ops = [o] ∧ bs = [b] ∧ e = .cmp (cC o) x y ∧ cE C n' sc a = some x ∧ cE C n' sc b = some y := by
  cases n with
  | zero => cases h
  | succ n =>
    rcases ops with _ | ⟨o, _ | ⟨o2, os⟩⟩
    · cases h
    · rcases bs with _ | ⟨b, _ | ⟨b2, bs⟩⟩
      · cases h
      · have h : ((cE C n sc a).bind fun x => (cE C n sc b).map fun y => E.cmp (cC o) x y) = some e := h
        simp only [Option.bind_eq_some_iff, Option.map_eq_some_iff] at h
        obtain ⟨x, h1, y, h3, rfl⟩ := h
        exact ⟨n, x, o, b, y, rfl, rfl, rfl, rfl, h1, h3⟩
      · cases h
    · cases h
theorem i_and1 {a b : Expr} {r : List Expr} (h : cAnd C n sc (a :: b :: r) = some e) : ∃ n' x y, n = n' + 1 ∧ e = .and x y ∧ cE C n' sc a = some x ∧ cAnd C n' sc (b :: r) = some y := by
  cases n with
  | zero => cases h
  | succ n =>
    have h : ((cE C n sc a).bind fun x => (cAnd C n sc (b :: r)).map fun y => E.and x y) = some e := h
    simp only [Option.bind_eq_some_iff, Option.map_eq_some_iff] at h
    obtain ⟨x, h1, y, h3, rfl⟩ := h
    exact ⟨n, x, y, rfl, rfl, h1, h3⟩
theorem i_or1 {a b : Expr} {r : List Expr} (h : cOr C n sc (a :: b :: r) = some e) : ∃ n' x y, n = n' + 1 ∧ e = .or x y ∧ cE C n' sc a = some x ∧ cOr C n' sc (b :: r) = some y := by
  cases n with
  | zero => cases h
  | succ n =>
    have h : ((cE C n sc a).bind fun x => (cOr C n sc (b :: r)).map fun y => E.or x y) = some e := h
    simp only [Option.bind_eq_some_iff, Option.map_eq_some_iff] at h
    obtain ⟨x, h1, y, h3, rfl⟩ := h
    exact ⟨n, x, y, rfl, rfl, h1, h3⟩
theorem i_bool {o : BoolOp} {es : List Expr} (h : cE C n sc (.BoolOp o es p) = some e) : ∃ n' a b r, n = n' + 1 ∧ es = a :: b :: r ∧ ((o = .And ∧ cAnd C n' sc es = some e) ∨ (o = .Or ∧ cOr C n' sc es = some e)) := by
  cases n with
  | zero => cases h
  | succ n =>
    rcases es with _ | ⟨a, _ | ⟨b, r⟩⟩
    · cases o <;> cases h
    · cases o <;> cases h
    · cases o with
      | And => exact ⟨n, a, b, r, rfl, rfl, .inl ⟨rfl, h⟩⟩
      | Or => exact ⟨n, a, b, r, rfl, rfl, .inr ⟨rfl, h⟩⟩
theorem i_ite {c a b : Expr} (h : cE C n sc (.IfExp c a b p) = some e) : ∃ n' z x y, n = n' + 1 ∧ e = .ite z x y ∧ cE C n' sc c = some z ∧ cE C n' sc a = some x ∧ cE C n' sc b = some y := by
  cases n with
  | zero => cases h
  | succ n =>
    have h : ((cE C n sc c).bind fun z => (cE C n sc a).bind fun x => (cE C n sc b).map fun y => E.ite z x y) = some e := h
    simp only [Option.bind_eq_some_iff, Option.map_eq_some_iff] at h
    obtain ⟨z, h0, x, h1, y, h3, rfl⟩ := h
    exact ⟨n, z, x, y, rfl, rfl, h0, h1, h3⟩
theorem kdN_inv {a : Expr} {kvs : List (D × D)} (h : kdN C sc a = some kvs) : ∃ y q, a = .Name y q ∧ isGl sc y = true ∧ C.gl.lookup y = some (.kdc kvs) := by
  unfold kdN at h
  split at h
  · rename_i y q
    split at h
    · rename_i kvs' hg
      cases h
      unfold glv at hg
      split at hg
      · rename_i hgl; exact ⟨y, q, rfl, hgl, hg⟩
      · cases hg
    · cases h
  · cases h
theorem i_sub {a i : Expr} (h : cE C n sc (.Subscript a i p) = some e) : (∃ n' x y, n = n' + 1 ∧ e = .sub x y ∧ cE C n' sc a = some x ∧ cE C n' sc i = some y) ∨
    (∃ n' lo hi q x l r, n = n' + 1 ∧ i = .Slice lo hi none q ∧ e = .slc x l r ∧ cE C n' sc a = some x ∧ cO C n' sc lo = some l ∧ cO C n' sc hi = some r) ∨
    ∃ n' y q kvs z, n = n' + 1 ∧ a = .Name y q ∧ isGl sc y = true ∧ C.gl.lookup y = some (.kdc kvs) ∧ e = .bi (.kd kvs) (.cons z .nil) ∧ cE C n' sc i = some z := by
  cases n with
  | zero => cases h
  | succ n =>
    have gen : (match kdN C sc a with | some kvs => (cE C n sc i).map fun y => E.bi (.kd kvs) (.cons y .nil) | none => (cE C n sc a).bind fun x => (cE C n sc i).map fun y => E.sub x y) = some e → (∃ n' x y, n + 1 = n' + 1 ∧ e = .sub x y ∧ cE C n' sc a = some x ∧ cE C n' sc i = some y) ∨
        ∃ n' y q kvs z, n + 1 = n' + 1 ∧ a = .Name y q ∧ isGl sc y = true ∧ C.gl.lookup y = some (.kdc kvs) ∧ e = .bi (.kd kvs) (.cons z .nil) ∧ cE C n' sc i = some z := fun h => by
      cases hk : kdN C sc a with
      | some kvs =>
        rw [hk] at h
        rw [Option.map_eq_some_iff] at h
        obtain ⟨z, h1, rfl⟩ := h
        obtain ⟨y, q, rfl, h2, h3⟩ := kdN_inv hk
        exact .inr ⟨n, y, q, kvs, z, rfl, rfl, h2, h3, rfl, h1⟩
      | none =>
        rw [hk] at h
        simp only [Option.bind_eq_some_iff, Option.map_eq_some_iff] at h
        obtain ⟨x, h1, y, h3, rfl⟩ := h
        exact .inl ⟨n, x, y, rfl, rfl, h1, h3⟩
    cases i with
    | Slice lo hi st q =>
      cases st with
      | none =>
        have h : ((cE C n sc a).bind fun x => (cO C n sc lo).bind fun l => (cO C n sc hi).map fun h => E.slc x l h) = some e := h
        simp only [Option.bind_eq_some_iff, Option.map_eq_some_iff] at h
        obtain ⟨x, h1, l, h2, r, h3, rfl⟩ := h
        exact .inr (.inl ⟨n, lo, hi, q, x, l, r, rfl, rfl, rfl, h1, h2, h3⟩)
      | some s => cases h
    | _ => exact (gen h).imp_right .inr
theorem i_comp {elt : Expr} {gs : List Comprehension} {scope : Scope} (h : cE C n sc (.ListComp elt gs scope p) = some e) : ∃ n' tg it ifs i t c y, n = n' + 1 ∧ gs = [⟨tg, it, ifs, 0⟩] ∧ blkC C.N sc scope (ownOf C.N scope) = true ∧ e = .comp ((ownOf C.N scope).map (·.2)) t i c y ∧
    cItE C n' sc tg it = some i ∧ cT (C.into scope) n' (relS scope sc) tg = some t ∧ cIfs (C.into scope) n' (relS scope sc) ifs = some c ∧ cE (C.into scope) n' (relS scope sc) elt = some y := by
  cases n with
  | zero => cases h
  | succ n =>
    rcases gs with _ | ⟨⟨tg, it, ifs, a⟩, gs⟩
    · cases h
    · rcases a with (_ | k) | k
      · cases gs with
        | nil =>
          have h : (if blkC C.N sc scope (ownOf C.N scope) = true then (cItE C n sc tg it).bind fun i => (cT (C.into scope) n (relS scope sc) tg).bind fun t => (cIfs (C.into scope) n (relS scope sc) ifs).bind fun c => (cE (C.into scope) n (relS scope sc) elt).map fun e => E.comp ((ownOf C.N scope).map (·.2)) t i c e
            else none) = some e := h
          split at h
          · rename_i hb
            simp only [Option.bind_eq_some_iff, Option.map_eq_some_iff] at h
            obtain ⟨i, h1, t, h2, c, h3, y, h4, rfl⟩ := h
            exact ⟨n, tg, it, ifs, i, t, c, y, rfl, rfl, hb, rfl, h1, h2, h3, h4⟩
          · cases h
        | cons _ _ => cases h
      · cases gs <;> cases h
      · cases gs <;> cases h
theorem i_dcomp {k v : Expr} {gs : List Comprehension} {scope : Scope} (h : cE C n sc (.DictComp k v gs scope p) = some e) : ∃ n' tg it i t a b, n = n' + 1 ∧ gs = [⟨tg, it, [], 0⟩] ∧ blkC C.N sc scope (ownOf C.N scope) = true ∧ e = .dcomp ((ownOf C.N scope).map (·.2)) t i a b ∧
    cItE C n' sc tg it = some i ∧ cT (C.into scope) n' (relS scope sc) tg = some t ∧ cE (C.into scope) n' (relS scope sc) k = some a ∧ cE (C.into scope) n' (relS scope sc) v = some b := by
  cases n with
  | zero => cases h
  | succ n =>
    rcases gs with _ | ⟨⟨tg, it, ifs, a⟩, gs⟩
    · cases h
    · rcases a with (_ | k') | k'
      · cases gs with
        | nil =>
          cases ifs with
          | nil =>
            have h : (if blkC C.N sc scope (ownOf C.N scope) = true then (cItE C n sc tg it).bind fun i => (cT (C.into scope) n (relS scope sc) tg).bind fun t => (cE (C.into scope) n (relS scope sc) k).bind fun a => (cE (C.into scope) n (relS scope sc) v).map fun b => E.dcomp ((ownOf C.N scope).map (·.2)) t i a b
              else none) = some e := h
            split at h
            · rename_i hb
              simp only [Option.bind_eq_some_iff, Option.map_eq_some_iff] at h
              obtain ⟨i, h1, t, h2, c, h3, y, h4, rfl⟩ := h
              exact ⟨n, tg, it, i, t, c, y, rfl, rfl, hb, rfl, h1, h2, h3, h4⟩
            · cases h
          | cons _ _ => cases h
        | cons _ _ => cases ifs <;> cases h
      · cases ifs <;> cases gs <;> cases h
      · cases ifs <;> cases gs <;> cases h
/-- a builtin of a form of its own -/
inductive IX (C : Cc) (n : Nat) (sc : Scope) : Str → List Expr → E → Prop where
  | listR {q : Pos} {b : Expr} {p : Pos} {x : E} (hg : bltIn C sc "range" = true) (h : cE C n sc b = some x) : IX C n sc "list" [.Call (.Name "range" q) [b] [] p] (.bi .list (.cons (.bi .range (.cons x .nil)) .nil))
  | repr {a : Expr} {es : E} (hr : C.rp = true) (h : cEs C n sc [a] = some es) : IX C n sc "repr" [a] (.bi .repr es)
  | isi {a : Expr} {t : Str} {q : Pos} {x : E} {ty : Ty} (hg : bltIn C sc t = true) (ht : cTy t = some ty) (h : cE C n sc a = some x) : IX C n sc "isinstance" [a, .Name t q] (.isi x [ty])
theorem i_x {f : Str} {as : List Expr} (h : cX C n sc f as = some e) : ∃ n', n = n' + 1 ∧ IX C n' sc f as e := by
  cases n with
  | zero => cases h
  | succ n =>
    refine ⟨n, rfl, ?_⟩
    unfold cX at h
    split at h
    · cases h
    · rename_i e0; cases e0
      split at h
      · rename_i hc
        simp only [Bool.and_eq_true, decide_eq_true_eq] at hc
        rw [Option.map_eq_some_iff] at h
        obtain ⟨x, h1, rfl⟩ := h
        obtain ⟨⟨rfl, rfl⟩, hb⟩ := hc
        exact .listR hb h1
      · cases h
    · rename_i e0; cases e0
      split at h
      · rename_i hc
        simp only [Bool.and_eq_true, decide_eq_true_eq] at hc
        rw [Option.map_eq_some_iff] at h
        obtain ⟨x, h1, rfl⟩ := h
        obtain ⟨rfl, hb⟩ := hc
        exact .repr hb h1
      · cases h
    · rename_i e0; cases e0
      split at h
      · rename_i hc
        simp only [Bool.and_eq_true, decide_eq_true_eq] at hc
        simp only [Option.bind_eq_some_iff, Option.map_eq_some_iff] at h
        obtain ⟨ty, h1, x, h2, rfl⟩ := h
        obtain ⟨rfl, hb⟩ := hc
        exact .isi hb h1 h2
      · cases h
    · cases h
theorem i_call {f : Expr} {as : List Expr} {kws : List Keyword} (h : cE C n sc (.Call f as kws p) = some e) : ∃ n', n = n' + 1 ∧ kws = [] ∧
    ((∃ x q, f = .Name x q ∧ ((∃ g k es, glv C sc x = some (.fn g k) ∧ as.length = k ∧ cEs C n' sc as = some es ∧ e = .call g es) ∨ (∃ es, glv C sc x = some .gcd ∧ as.length = 2 ∧ cEs C n' sc as = some es ∧ e = .bi .gcd es) ∨
      (∃ b es, bltIn C sc x = true ∧ as ≠ [] ∧ cBi x = some b ∧ cEs C n' sc as = some es ∧ e = .bi b es) ∨ (bltIn C sc x = true ∧ cX C n' sc x as = some e))) ∨
    ∃ o q m apos m' x ys, f = .Attribute (.Name o q) m apos ∧ (apos.endLine == p.line) = true ∧ cMt m = some m' ∧ cName C sc o = some x ∧ cEs C n' sc as = some ys ∧ as.length ≤ 2 ∧ e = .mt m' x ys) := by
  cases n with
  | zero => cases h
  | succ n =>
    cases kws with
    | cons _ _ => cases f <;> first | cases h | skip; rename_i o m q; cases o <;> cases h
    | nil =>
      refine ⟨n, rfl, rfl, ?_⟩
      cases f with
      | Name x q =>
        refine .inl ⟨x, q, rfl, ?_⟩
        have h : (match glv C sc x with
          | some (.fn g k) => if as.length = k then (cEs C n sc as).map (E.call g) else none
          | some .gcd => if as.length = 2 then (cEs C n sc as).map (E.bi .gcd) else none
          | some _ => none
          | none => if (bltIn C sc x && decide (as ≠ [])) = true then (((cBi x).bind fun b => (cEs C n sc as).map (E.bi b)) <|> cX C n sc x as) else none) = some e := h
        split at h
        · rename_i g k hg
          split at h
          · rename_i hl
            rw [Option.map_eq_some_iff] at h
            obtain ⟨es, h1, rfl⟩ := h
            exact .inl ⟨g, k, es, hg, hl, h1, rfl⟩
          · cases h
        · rename_i hg
          split at h
          · rename_i hl
            rw [Option.map_eq_some_iff] at h
            obtain ⟨es, h1, rfl⟩ := h
            exact .inr (.inl ⟨es, hg, hl, h1, rfl⟩)
          · cases h
        · cases h
        · split at h
          · rename_i hb
            simp only [Bool.and_eq_true, decide_eq_true_eq] at hb
            cases hx : (cBi x).bind fun b => (cEs C n sc as).map (E.bi b) with
            | none => rw [hx] at h; exact .inr (.inr (.inr ⟨hb.1, h⟩))
            | some e' =>
              rw [hx] at h
              have h : some e' = some e := h
              cases h
              simp only [Option.bind_eq_some_iff, Option.map_eq_some_iff] at hx
              obtain ⟨b, h1, es, h2, rfl⟩ := hx
              exact .inr (.inr (.inl ⟨b, es, hb.1, hb.2, h1, h2, rfl⟩))
          · cases h
      | Attribute o m apos =>
        cases o with
        | Name o q =>
          have h : (if (apos.endLine == p.line) = true then (cMt m).bind fun m => (cName C sc o).bind fun x => (cEs C n sc as).bind fun ys => if as.length ≤ 2 then some (E.mt m x ys) else none else none) = some e := h
          split at h
          · rename_i hl
            simp only [Option.bind_eq_some_iff] at h
            obtain ⟨m', h1, x, h2, ys, h3, h4⟩ := h
            split at h4
            · rename_i h5
              cases h4
              exact .inr ⟨o, q, m, apos, m', x, ys, rfl, hl, h1, h2, h3, h5, rfl⟩
            · cases h4
          · cases h
        | _ => cases h
      | _ => cases h
end
section
variable {C : Cc} {n : Nat} {sc : Scope} {e : E} {x : Expr}
/-- what kind of text each compiled expression comes from -/
def okShape : Expr → E → Bool
  | .Name _ _, .var _ => true
  | .Name _ _, .lit _ => true
  | .Constant _ _ _, .lit _ => true
  | .Tuple _ _ _, .tup _ => true
  | .List _ _, .lst _ => true
  | .UnaryOp .USub _ _, .neg _ => true
  | .UnaryOp .Not _ _, .not _ => true
  | .BinOp _ _ _ _, .bin _ _ _ => true
  | .Compare _ _ _ _, .cmp _ _ _ => true
  | .BoolOp .And _ _, .and _ _ => true
  | .BoolOp .Or _ _, .or _ _ => true
  | .IfExp _ _ _ _, .ite _ _ _ => true
  | .Subscript _ _ _, .sub _ _ => true
  | .Subscript _ _ _, .slc _ _ _ => true
  | .Subscript _ _ _, .bi _ _ => true
  | .Call _ _ _ _, .call _ _ => true
  | .Call _ _ _ _, .bi _ _ => true
  | .Call _ _ _ _, .isi _ _ => true
  | .Call _ _ _ _, .mt _ _ _ => true
  | .ListComp _ _ _ _, .comp _ _ _ _ _ => true
  | .DictComp _ _ _ _ _, .dcomp _ _ _ _ _ => true
  | _, _ => false
theorem c_shape (h : cE C n sc x = some e) : okShape x e = true := by
  cases x with
  | Name y p => rcases i_name h with ⟨i, rfl, _⟩ | ⟨d, rfl, _⟩ <;> rfl
  | Constant c k p =>
    cases n with
    | zero => cases h
    | succ n =>
      have h : cConst c = some e := h
      unfold cConst at h
      split at h <;> first | (cases h; rfl) | (split at h <;> first | (cases h; rfl) | cases h) | cases h
  | Tuple es k p => obtain ⟨_, _, _, rfl, _⟩ := i_tup h; rfl
  | List es p => obtain ⟨_, _, _, rfl, _⟩ := i_lst h; rfl
  | UnaryOp o a p => obtain ⟨_, _, _, _, ⟨rfl, rfl⟩ | ⟨rfl, rfl⟩⟩ := i_un h <;> rfl
  | BinOp a o b p => obtain ⟨_, _, _, _, _, rfl, _⟩ := i_bin h; rfl
  | Compare a o b p => obtain ⟨_, _, _, _, _, _, _, _, rfl, _⟩ := i_cmp h; rfl
  | BoolOp o es p =>
    obtain ⟨n', a, b, r, _, rfl, ⟨rfl, h'⟩ | ⟨rfl, h'⟩⟩ := i_bool h
    · obtain ⟨_, _, _, _, rfl, _⟩ := i_and1 h'; rfl
    · obtain ⟨_, _, _, _, rfl, _⟩ := i_or1 h'; rfl
  | IfExp c a b p => obtain ⟨_, _, _, _, _, rfl, _⟩ := i_ite h; rfl
  | Subscript a i p => rcases i_sub h with ⟨_, _, _, _, rfl, _⟩ | ⟨_, _, _, _, _, _, _, _, _, rfl, _⟩ | ⟨_, _, _, _, _, _, _, _, _, rfl, _⟩ <;> rfl
  | Call f as kws p =>
    obtain ⟨_, _, _, ⟨x, q, _, ⟨_, _, _, _, _, _, rfl⟩ | ⟨_, _, _, _, rfl⟩ | ⟨_, _, _, _, _, _, rfl⟩ | ⟨_, hx⟩⟩ | ⟨_, _, _, _, _, _, _, _, _, _, _, _, _, rfl⟩⟩ := i_call h <;> first | rfl | (obtain ⟨_, _, hx⟩ := i_x hx; cases hx <;> rfl)
  | ListComp elt gs scope p => obtain ⟨_, _, _, _, _, _, _, _, _, _, _, rfl, _⟩ := i_comp h; rfl
  | DictComp k v gs scope p => obtain ⟨_, _, _, _, _, _, _, _, _, _, rfl, _⟩ := i_dcomp h; rfl
  | _ => cases n <;> cases h
theorem i_var {i : Nat} (h : cE C n sc x = some (.var i)) : ∃ y p, x = .Name y p ∧ isVis sc y = true ∧ okName y = true ∧ idxS y C.N 0 = some i := by
  have q := c_shape h
  cases x <;> first | cases q | skip
  · rename_i o a p; cases o <;> cases q
  · rename_i o a p; cases o <;> cases q
  · rename_i y p
    rcases i_name h with ⟨j, e1, e2, e3, e4⟩ | ⟨d, e1, _⟩
    · cases e1; exact ⟨y, p, rfl, e2, e3, e4⟩
    · cases e1
theorem i_subE {a i : E} (h : cE C n sc x = some (.sub a i)) : ∃ ax ix p n', x = .Subscript ax ix p ∧ n = n' + 1 ∧ cE C n' sc ax = some a ∧ cE C n' sc ix = some i := by
  have q := c_shape h
  cases x <;> first | cases q | skip
  · rename_i o a p; cases o <;> cases q
  · rename_i o a p; cases o <;> cases q
  · rename_i ax ix p
    rcases i_sub h with ⟨n', x, y, e0, e1, e2, e3⟩ | ⟨_, _, _, _, _, _, _, _, _, e1, _⟩ | ⟨_, _, _, _, _, _, _, _, _, e1, _⟩
    · cases e1; exact ⟨ax, ix, p, n', rfl, e0, e2, e3⟩
    · cases e1
    · cases e1
theorem root_pur : ∀ (e : E) {i : Nat}, rootE e = some i → (∃ j, e = .var j) ∨ ∃ a k r, e = .sub a k ∧ rootE a = some r
  | .var j, _, _ => .inl ⟨j, rfl⟩
  | .sub a k, i, h => .inr ⟨a, k, i, rfl, h⟩
theorem ckb_pur {ret : Nat → Ow} : ∀ {m : Nat} {e : E} {T T' : Ty1} {t : Ow} {i : Nat}, ckb ret m e T = some (t, T') → rootE e = some i → pur e = true ∧ (∃ t0, T'[i]? = some t0 ∧ t0 ≠ .dead)
  | 0, _, _, _, _, _, h, _ => by cases h
  | m + 1, e, T, T', t, i, h, hr => by
    rcases ckb_inv h with ⟨j, rfl, e1, e2, rfl⟩ | ⟨a, k, r, t0, T1, rfl, hr', k1, k2, hp, rfl, hc⟩ | ⟨k1, hr'⟩
    · cases hr; exact ⟨rfl, _, e1, e2⟩
    · have hr : rootE a = some i := hr
      obtain ⟨p1, p2⟩ := ckb_pur k1 hr
      exact ⟨by simp only [pur, Bool.and_eq_true]; exact ⟨p1, hp⟩, p2⟩
    · rw [hr] at hr'; cases hr'
end
structure Jd (ret : Nat → Ow) (K : PySem.W.Frag) (xs : XS) (Φ : Calls) (n m : Nat) : Prop where
  v : ∀ {C : Cc} {W : Wx} {X : Cx} {sc : Scope} {x : Expr} {e : E} {mv : Bool} {T T' : Ty1} {t : Ow}, Okx C ret K xs Φ W X sc → cE C n sc x = some e → ck ret mv m e T = some (t, T') → PE X x (tEv K Φ W e T T' t)
  b : ∀ {C : Cc} {W : Wx} {X : Cx} {sc : Scope} {x : Expr} {e : E} {T T' : Ty1} {t : Ow}, Okx C ret K xs Φ W X sc → cE C n sc x = some e → ckb ret m e T = some (t, T') → PE X x (tEvB K Φ W e T T' t)
  c : ∀ {C : Cc} {W : Wx} {X : Cx} {sc : Scope} {x : Expr} {e : E} {T T' : Ty1} {t : Ow}, Okx C ret K xs Φ W X sc → cE C n sc x = some e → ckc ret m e T = some (t, T') → PE X x (tEvC K Φ W e T T')
  t : ∀ {C : Cc} {W : Wx} {X : Cx} {sc : Scope} {x : Expr} {e : E} {T T' : Ty1}, Okx C ret K xs Φ W X sc → cE C n sc x = some e → ckt ret m e T = some T' → PT X x (tTst K Φ W e T T')
  ls : ∀ {C : Cc} {W : Wx} {X : Cx} {sc : Scope} {es : List Expr} {e : E} {mv : Bool} {T T' : Ty1} {t : Ow}, Okx C ret K xs Φ W X sc → cEs C n sc es = some e → ck ret mv m e T = some (t, T') → PA X es (tEvL K Φ W e T T' t)
  fs : ∀ {C : Cc} {W : Wx} {X : Cx} {sc : Scope} {es : List Expr} {e : E} {T T' : Ty1} {t : Ow}, Okx C ret K xs Φ W X sc → cEs C n sc es = some e → ckf ret m e T = some (t, T') → PA X es (tEvF K Φ W e T T')
  av : ∀ {C : Cc} {W : Wx} {X : Cx} {sc : Scope} {es : List Expr} {e : E} {T T' : Ty1} {t : Ow} {pos : Pos}, Okx C ret K xs Φ W X sc → cAnd C n sc es = some e → ck ret false m e T = some (t, T') → PE X (.BoolOp .And es pos) (tEv K Φ W e T T' t)
  ov : ∀ {C : Cc} {W : Wx} {X : Cx} {sc : Scope} {es : List Expr} {e : E} {T T' : Ty1} {t : Ow} {pos : Pos}, Okx C ret K xs Φ W X sc → cOr C n sc es = some e → ck ret false m e T = some (t, T') → PE X (.BoolOp .Or es pos) (tEv K Φ W e T T' t)
  at_ : ∀ {C : Cc} {W : Wx} {X : Cx} {sc : Scope} {es : List Expr} {e : E} {T T' : Ty1} {pos : Pos}, Okx C ret K xs Φ W X sc → cAnd C n sc es = some e → ckt ret m e T = some T' → PW X (.BoolOp .And es pos) (tTst K Φ W e T T')
  ot : ∀ {C : Cc} {W : Wx} {X : Cx} {sc : Scope} {es : List Expr} {e : E} {T T' : Ty1} {pos : Pos}, Okx C ret K xs Φ W X sc → cOr C n sc es = some e → ckt ret m e T = some T' → PW X (.BoolOp .Or es pos) (tTst K Φ W e T T')
  it : ∀ {C : Cc} {W : Wx} {X : Cx} {sc : Scope} {tg x : Expr} {e : E} {T T' : Ty1} {t : Ow}, Okx C ret K xs Φ W X sc → cItE C n sc tg x = some e → ckc ret m e T = some (t, T') → PI X tg x (tIt K Φ W false e T T')
section
variable {ret : Nat → Ow} {K : PySem.W.Frag} {xs : XS} {Φ : Calls} {n m : Nat} {C : Cc} {W : Wx} {X : Cx} {sc : Scope} {x : Expr} {es : List Expr} {e : E} {mv : Bool} {T T' : Ty1} {t : Ow} {pos : Pos}
theorem j_ls (J0 : ∀ m', m' ≤ m → ∀ n, Jd ret K xs Φ n m') (O : Okx C ret K xs Φ W X sc) (h : cEs C n sc es = some e) (hk : ck ret mv (m + 1) e T = some (t, T')) : PA X es (tEvL K Φ W e T T' t) := by
  have J := J0 m (Nat.le_refl m)
  cases es with
  | nil =>
    have e0 := cEs_n0 h
    subst e0
    have hk : some (Ow.tn, T) = some (t, T') := hk
    cases hk
    exact s_nil
  | cons x r =>
    obtain ⟨a, es, n', rfl, rfl, h1, h2⟩ := cEs_nn h
    have hk : ((ck ret mv m a T).bind fun p => (ck ret mv m es p.2).bind fun q => some (Ow.tc p.1 q.1, q.2)) = some (t, T') := hk
    simp only [Option.bind_eq_some_iff, Prod.exists] at hk
    obtain ⟨t1, T1, k1, t2, T2, k2, k3⟩ := hk
    cases k3
    exact s_cons ((J n').v O h1 k1) ((J n').ls O h2 k2) O.w (c_nostar h1)
theorem j_fs (J0 : ∀ m', m' ≤ m → ∀ n, Jd ret K xs Φ n m') (O : Okx C ret K xs Φ W X sc) (h : cEs C n sc es = some e) (hk : ckf ret (m + 1) e T = some (t, T')) : PA X es (tEvF K Φ W e T T') := by
  have J := J0 m (Nat.le_refl m)
  cases es with
  | nil =>
    have e0 := cEs_n0 h
    subst e0
    have hk : some (Ow.tn, T) = some (t, T') := hk
    cases hk
    exact s_nilF
  | cons x r =>
    obtain ⟨a, es, n', rfl, rfl, h1, h2⟩ := cEs_nn h
    have hk : ((ck ret false m a T).bind fun p => (ckf ret m es p.2).bind fun q => some (Ow.tc .fz q.1, q.2)) = some (t, T') := hk
    simp only [Option.bind_eq_some_iff, Prod.exists] at hk
    obtain ⟨t1, T1, k1, t2, T2, k2, k3⟩ := hk
    cases k3
    exact s_consF (s_frz ((J n').v O h1 k1) O.w) ((J n').fs O h2 k2) O.w (c_nostar h1)
/-- what is looked at -/
theorem j_b (J0 : ∀ m', m' ≤ m → ∀ n, Jd ret K xs Φ n m') (O : Okx C ret K xs Φ W X sc) (h : cE C n sc x = some e) (hk : ckb ret (m + 1) e T = some (t, T')) : PE X x (tEvB K Φ W e T T' t) := by
  have J := J0 m (Nat.le_refl m)
  rcases ckb_inv hk with ⟨i, rfl, e1, e2, rfl⟩ | ⟨a, i, r, t0, T1, rfl, hr, k1, k2, hp, rfl, hc⟩ | ⟨k1, hr⟩
  · obtain ⟨y, p, rfl, hv, hn, hi⟩ := i_var h
    exact s_varB (O.name hv hn hi) e1 e2
  · obtain ⟨ax, ix, p, n', rfl, rfl, h1, h2⟩ := i_subE h
    obtain ⟨p1, t1, p2, p3⟩ := ckb_pur k1 hr
    exact s_subB O.hK O.un ((J n').b O h1 k1) (s_toD ((J n').b O h2 k2) O.w) O.w hp p1 (c_plain h2) hr p2 p3 hc
  · exact s_toB ((J n).v O h k1) O.w hr
theorem j_c (J0 : ∀ m', m' ≤ m → ∀ n, Jd ret K xs Φ n m') (O : Okx C ret K xs Φ W X sc) (h : cE C n sc x = some e) (hk : ckc ret (m + 1) e T = some (t, T')) : PE X x (tEvC K Φ W e T T') := by
  have J := J0 m (Nat.le_refl m)
  obtain ⟨t1, T1, k1, k2⟩ := ckc_inv hk
  have hb := (J n).b O h k1
  rcases k2 with ⟨hf, rfl⟩ | ⟨i, rfl, h1, h2, rfl⟩ | ⟨i, t0, hr, e0, hs, rfl⟩ | ⟨hr, rfl⟩
  · exact s_toC hb O.w hf
  · cases m with
    | zero => cases k1
    | succ m =>
      rcases ckb_inv k1 with ⟨j, e1, e2, e3, rfl⟩ | ⟨a, k, r, t0, T1, e1, _⟩ | ⟨k3, hr'⟩
      · cases e1
        obtain ⟨y, p, rfl, hv, hn, hi⟩ := i_var h
        exact s_varC (O.name hv hn hi) e2 h1 h2
      · cases e1
      · cases hr'
  · obtain ⟨p1, _⟩ := ckb_pur k1 hr
    exact s_pathC hb O.w hr e0 hs p1
  · exact s_toC0 hb O.w hr
theorem j_t (J0 : ∀ m', m' ≤ m → ∀ n, Jd ret K xs Φ n m') (O : Okx C ret K xs Φ W X sc) (h : cE C n sc x = some e) (hk : ckt ret (m + 1) e T = some T') : PT X x (tTst K Φ W e T T') := by
  have J := J0 m (Nat.le_refl m)
  rcases ckt_inv hk with ⟨a, b, rfl, k1, k2⟩ | ⟨a, b, rfl, k1, k2⟩ | ⟨a, rfl, k1⟩ | ⟨⟨t, k1⟩, n1, n2, n3, n4⟩
  · have q := c_shape h
    cases x <;> first | cases q | skip
    · rename_i o es p
      obtain ⟨n', a', b', r, rfl, rfl, ⟨rfl, h'⟩ | ⟨rfl, h'⟩⟩ := i_bool h
      · obtain ⟨n2, x, y, rfl, e1, h1, h2⟩ := i_and1 h'
        cases e1
        exact (t_and ((J n2).t O h1 k1) ((J n2).at_ O h2 k2) O.w).pt
      · cases q
    · rename_i o a p; cases o <;> cases q
  · have q := c_shape h
    cases x <;> first | cases q | skip
    · rename_i o es p
      obtain ⟨n', a', b', r, rfl, rfl, ⟨rfl, h'⟩ | ⟨rfl, h'⟩⟩ := i_bool h
      · cases q
      · obtain ⟨n2, x, y, rfl, e1, h1, h2⟩ := i_or1 h'
        cases e1
        exact (t_or ((J n2).t O h1 k1) ((J n2).ot O h2 k2) O.w).pt
    · rename_i o a p; cases o <;> cases q
  · have q := c_shape h
    cases x <;> first | cases q | skip
    · rename_i o es p; cases o <;> cases q
    · rename_i o ax p
      obtain ⟨n', y, rfl, h1, ⟨rfl, e1⟩ | ⟨rfl, e1⟩⟩ := i_un h
      · cases e1
      · cases e1
        exact t_not ((J n').t O h1 k1) O.w
  · have hb := (J n).b O h k1
    have val : (∀ whole, isTrue x X.env whole = (do let v ← whole; standAt x.pos; holding [v] (truthy v))) → PT X x (tTst K Φ W e T T') := fun he => t_val O.hK (s_toD hb O.w) O.w he
    cases x <;> first | (refine val fun _ => ?_; rfl) | skip
    · rename_i o es p
      obtain ⟨n', a', b', r, rfl, rfl, ⟨rfl, h'⟩ | ⟨rfl, h'⟩⟩ := i_bool h
      · obtain ⟨_, x, y, rfl, e1, h1, h2⟩ := i_and1 h'
        exact absurd e1 (n1 _ _)
      · obtain ⟨_, x, y, rfl, e1, h1, h2⟩ := i_or1 h'
        exact absurd e1 (n2 _ _)
    · rename_i o a p
      obtain ⟨n', y, rfl, h1, ⟨rfl, e1⟩ | ⟨rfl, e1⟩⟩ := i_un h
      · exact val fun _ => rfl
      · exact absurd e1 (n3 _)
    · obtain ⟨_, _, _, _, _, e1, _⟩ := i_ite h
      exact absurd e1 (n4 _ _ _)
    · obtain ⟨n', ea, o, b, eb, rfl, rfl, rfl, rfl, h1, h2⟩ := i_cmp h
      cases m with
      | zero => cases k1
      | succ m =>
        rcases ckb_inv k1 with ⟨_, e1, _⟩ | ⟨_, _, _, _, _, e1, _⟩ | ⟨k2, _⟩
        · cases e1
        · cases e1
        · cases m with
          | zero => cases k2
          | succ m =>
            obtain ⟨ta, T1, tb, q1, q2, q3⟩ := ck_cmp k2
            exact t_cmp O.hK O.un (s_toD ((J0 m (by omega) n').b O h1 q1) O.w) (s_toD ((J0 m (by omega) n').b O h2 q2) O.w) O.w q3 (c_marks _ h2)
end
end Rf
end

section
/-! Rf4d: expressions: values. -/
namespace Rf
open PySem PySem.Spec PyProof.Rows L2
section
variable {ret : Nat → Ow} {m : Nat} {e : E} {T T' : Ty1} {t : Ow} {mv : Bool}
theorem ck_tup {es : E} (h : ck ret mv (m + 1) (.tup es) T = some (t, T')) : ∃ u, ck ret mv m es T = some (u, T') ∧ ((allFz u = true ∧ t = .fz) ∨ t = .tup u) := by
  have h : ((ck ret mv m es T).bind fun p => if allFz p.1 = true then some (Ow.fz, p.2) else some (Ow.tup p.1, p.2)) = some (t, T') := h
  simp only [Option.bind_eq_some_iff, Prod.exists] at h
  obtain ⟨u, T1, h1, h2⟩ := h
  split at h2
  · rename_i hf; cases h2; exact ⟨u, h1, .inl ⟨hf, rfl⟩⟩
  · cases h2; exact ⟨u, h1, .inr rfl⟩
theorem ck_lst {es : E} (h : ck ret mv (m + 1) (.lst es) T = some (t, T')) : ∃ u, ck ret mv m es T = some (u, T') ∧ t = .lst (lstT u) := by
  have h : ((ck ret mv m es T).bind fun p => some (Ow.lst (lstT p.1), p.2)) = some (t, T') := h
  simp only [Option.bind_eq_some_iff, Prod.exists] at h
  obtain ⟨u, T1, h1, h2⟩ := h
  cases h2
  exact ⟨u, h1, rfl⟩
theorem ck_neg {a : E} (h : ck ret mv (m + 1) (.neg a) T = some (t, T')) : ∃ u, ckb ret m a T = some (u, T') ∧ t = .fz := by
  have h : ((ckb ret m a T).bind fun p => some (Ow.fz, p.2)) = some (t, T') := h
  simp only [Option.bind_eq_some_iff, Prod.exists] at h
  obtain ⟨u, T1, h1, h2⟩ := h
  cases h2
  exact ⟨u, h1, rfl⟩
theorem ck_not {a : E} (h : ck ret mv (m + 1) (.not a) T = some (t, T')) : ∃ u, ckb ret m a T = some (u, T') ∧ t = .fz := by
  have h : ((ckb ret m a T).bind fun p => some (Ow.fz, p.2)) = some (t, T') := h
  simp only [Option.bind_eq_some_iff, Prod.exists] at h
  obtain ⟨u, T1, h1, h2⟩ := h
  cases h2
  exact ⟨u, h1, rfl⟩
theorem ck_isi {a : E} {ts : List Ty} (h : ck ret mv (m + 1) (.isi a ts) T = some (t, T')) : ∃ u, ckb ret m a T = some (u, T') ∧ t = .fz := by
  have h : ((ckb ret m a T).bind fun p => some (Ow.fz, p.2)) = some (t, T') := h
  simp only [Option.bind_eq_some_iff, Prod.exists] at h
  obtain ⟨u, T1, h1, h2⟩ := h
  cases h2
  exact ⟨u, h1, rfl⟩
theorem ck_bin {o : BOp} {a b : E} (h : ck ret mv (m + 1) (.bin o a b) T = some (t, T')) : ∃ ta T1 tb, ckc ret m a T = some (ta, T1) ∧ ckc ret m b T1 = some (tb, T') ∧ pur b = true ∧ t = binT o ta tb := by
  have h : ((ckc ret m a T).bind fun p => (ckc ret m b p.2).bind fun q => if pur b = true then some (binT o p.1 q.1, q.2) else none) = some (t, T') := h
  simp only [Option.bind_eq_some_iff, Prod.exists] at h
  obtain ⟨ta, T1, h1, tb, T2, h2, h3⟩ := h
  split at h3
  · rename_i hp; cases h3; exact ⟨ta, T1, tb, h1, h2, hp, rfl⟩
  · cases h3
theorem ck_cmp' {o : COp} {a b : E} (h : ck ret mv (m + 1) (.cmp o a b) T = some (t, T')) : t = .fz := by
  have h : ((ckb ret m a T).bind fun p => (ckb ret m b p.2).bind fun q => if pur b = true then some (Ow.fz, q.2) else none) = some (t, T') := h
  simp only [Option.bind_eq_some_iff, Prod.exists] at h
  obtain ⟨ta, T1, h1, tb, T2, h2, h3⟩ := h
  split at h3
  · cases h3; rfl
  · cases h3
theorem ck_and {a b : E} (h : ck ret mv (m + 1) (.and a b) T = some (t, T')) : ck ret false m a T = some (.fz, T') ∧ ck ret false m b T' = some (.fz, T') ∧ t = .fz := by
  have h : ((ck ret false m a T).bind fun p => (ck ret false m b p.2).bind fun q => if (decide (q.2 = p.2) && (p.1 == .fz) && (q.1 == .fz)) = true then some (Ow.fz, p.2) else none) = some (t, T') := h
  simp only [Option.bind_eq_some_iff, Prod.exists] at h
  obtain ⟨ta, T1, h1, tb, T2, h2, h3⟩ := h
  split at h3
  · rename_i hc
    simp only [Bool.and_eq_true, decide_eq_true_eq, beq_iff_eq] at hc
    obtain ⟨⟨rfl, rfl⟩, rfl⟩ := hc
    cases h3
    exact ⟨h1, h2, rfl⟩
  · cases h3
theorem ck_or {a b : E} (h : ck ret mv (m + 1) (.or a b) T = some (t, T')) : ck ret false m a T = some (.fz, T') ∧ ck ret false m b T' = some (.fz, T') ∧ t = .fz := by
  have h : ((ck ret false m a T).bind fun p => (ck ret false m b p.2).bind fun q => if (decide (q.2 = p.2) && (p.1 == .fz) && (q.1 == .fz)) = true then some (Ow.fz, p.2) else none) = some (t, T') := h
  simp only [Option.bind_eq_some_iff, Prod.exists] at h
  obtain ⟨ta, T1, h1, tb, T2, h2, h3⟩ := h
  split at h3
  · rename_i hc
    simp only [Bool.and_eq_true, decide_eq_true_eq, beq_iff_eq] at hc
    obtain ⟨⟨rfl, rfl⟩, rfl⟩ := hc
    cases h3
    exact ⟨h1, h2, rfl⟩
  · cases h3
theorem ck_ite {c a b : E} (h : ck ret mv (m + 1) (.ite c a b) T = some (t, T')) : ∃ T0 ta T1 tb T2, ckt ret m c T = some T0 ∧ ck ret mv m a T0 = some (ta, T1) ∧ ck ret mv m b T0 = some (tb, T2) ∧ sub1 ta t = true ∧ sub1 tb t = true ∧ T1.length = T2.length ∧ T' = joins T1 T2 := by
  have h : ((ckt ret m c T).bind fun T0 => (ck ret mv m a T0).bind fun p => (ck ret mv m b T0).bind fun q => if (sub1 p.1 (join p.1 q.1) && sub1 q.1 (join p.1 q.1) && decide (p.2.length = q.2.length)) = true then some (join p.1 q.1, joins p.2 q.2) else none) = some (t, T') := h
  simp only [Option.bind_eq_some_iff, Prod.exists] at h
  obtain ⟨T0, h0, ta, T1, h1, tb, T2, h2, h3⟩ := h
  split at h3
  · rename_i hc
    simp only [Bool.and_eq_true, decide_eq_true_eq] at hc
    cases h3
    exact ⟨T0, ta, T1, tb, T2, h0, h1, h2, hc.1.1, hc.1.2, hc.2, rfl⟩
  · cases h3
theorem ck_sub {a i : E} (h : ck ret mv (m + 1) (.sub a i) T = some (t, T')) : ∃ ta T1 ti, ckc ret m a T = some (ta, T1) ∧ ckb ret m i T1 = some (ti, T') ∧ pur i = true ∧ t = .fz := by
  have h : ((ckc ret m a T).bind fun p => (ckb ret m i p.2).bind fun q => if pur i = true then some (Ow.fz, q.2) else none) = some (t, T') := h
  simp only [Option.bind_eq_some_iff, Prod.exists] at h
  obtain ⟨ta, T1, h1, tb, T2, h2, h3⟩ := h
  split at h3
  · rename_i hp; cases h3; exact ⟨ta, T1, tb, h1, h2, hp, rfl⟩
  · cases h3
theorem ck_slc {a l r : E} (h : ck ret mv (m + 1) (.slc a l r) T = some (t, T')) : ∃ ta T1 tl T2 tr, ckc ret m a T = some (ta, T1) ∧ ckb ret m l T1 = some (tl, T2) ∧ ckb ret m r T2 = some (tr, T') ∧ pur l = true ∧ pur r = true ∧ t = .lst .fz := by
  have h : ((ckc ret m a T).bind fun p => (ckb ret m l p.2).bind fun q => (ckb ret m r q.2).bind fun s => if (pur l && pur r) = true then some (Ow.lst .fz, s.2) else none) = some (t, T') := h
  simp only [Option.bind_eq_some_iff, Prod.exists] at h
  obtain ⟨ta, T1, h1, tb, T2, h2, tc, T3, h3, h4⟩ := h
  split at h4
  · rename_i hp
    simp only [Bool.and_eq_true] at hp
    cases h4; exact ⟨ta, T1, tb, T2, tc, h1, h2, h3, hp.1, hp.2, rfl⟩
  · cases h4
theorem ck_call {f : Nat} {es : E} (h : ck ret mv (m + 1) (.call f es) T = some (t, T')) : ∃ u, ckf ret m es T = some (u, T') ∧ t = ret f := by
  have h : ((ckf ret m es T).bind fun p => some (ret f, p.2)) = some (t, T') := h
  simp only [Option.bind_eq_some_iff, Prod.exists] at h
  obtain ⟨u, T1, h1, h2⟩ := h
  cases h2
  exact ⟨u, h1, rfl⟩
/-- a builtin's arguments -/
inductive BiA (ret : Nat → Ow) (m : Nat) : E → Ty1 → Ty1 → Prop
  | nil {T : Ty1} : BiA ret m .nil T T
  | cons {a es : E} {T T1 T2 : Ty1} {t : Ow} : ckc ret m a T = some (t, T1) → pur es = true → BiA ret m es T1 T2 → BiA ret m (.cons a es) T T2
theorem ck_bi {b : Bi} {es : E} (h : ck ret mv (m + 1) (.bi b es) T = some (t, T')) : BiA ret m es T T' ∧ t = biT b := by
  cases es with
  | cons a es =>
    cases es with
    | nil =>
      have h : ((ckc ret m a T).bind fun p => some (biT b, p.2)) = some (t, T') := h
      simp only [Option.bind_eq_some_iff, Prod.exists] at h
      obtain ⟨u, T1, h1, h2⟩ := h
      cases h2
      exact ⟨.cons h1 rfl .nil, rfl⟩
    | cons c es =>
      cases es with
      | nil =>
        have h : ((ckc ret m a T).bind fun p => (ckc ret m c p.2).bind fun q => if pur c = true then some (biT b, q.2) else none) = some (t, T') := h
        simp only [Option.bind_eq_some_iff, Prod.exists] at h
        obtain ⟨u, T1, h1, v, T2, h2, h3⟩ := h
        split at h3
        · rename_i hp
          cases h3
          exact ⟨.cons h1 (by simp [pur, hp]) (.cons h2 rfl .nil), rfl⟩
        · cases h3
      | cons d es =>
        cases es with
        | nil =>
          have h : ((ckc ret m a T).bind fun p => (ckc ret m c p.2).bind fun q => (ckc ret m d q.2).bind fun r => if (pur c && pur d) = true then some (biT b, r.2) else none) = some (t, T') := h
          simp only [Option.bind_eq_some_iff, Prod.exists] at h
          obtain ⟨u, T1, h1, v, T2, h2, w, T3, h3, h4⟩ := h
          split at h4
          · rename_i hp
            simp only [Bool.and_eq_true] at hp
            cases h4
            exact ⟨.cons h1 (by simp [pur, hp.1, hp.2]) (.cons h2 (by simp [pur, hp.2]) (.cons h3 rfl .nil)), rfl⟩
          · cases h4
        | _ => cases h
      | _ => cases h
    | _ => cases h
  | _ => cases h
theorem ck_comp {own : List Nat} {tg it c elt : E} (h : ck ret mv (m + 1) (.comp own tg it c elt) T = some (t, T')) : ∃ ti Ta is T0 te, ckc ret m it T = some (ti, Ta) ∧ tgs tg = some is ∧ subs Ta T' = true ∧ ownOk T' own = true ∧ (∀ i ∈ is, i ∈ own) ∧ ckN tg (wipeT T' own) = some T0 ∧
    ckt ret m c T0 = some T0 ∧ ck ret false m elt T0 = some (te, T0) ∧ pur c = true ∧ pur elt = true ∧ t = .lst te := by
  have h : ((ckc ret m it T).bind fun p => (tgs tg).bind fun is => (ckN tg (wipeT p.2 own)).bind fun T00 => (ckt ret m c T00).bind fun Tb => (ck ret false m elt Tb).bind fun q =>
      (ckN tg (wipeT (melt p.2 T00 q.2) own)).bind fun T0 => (ckt ret m c T0).bind fun T1 => (ck ret false m elt T1).bind fun r =>
      if (decide (r.2 = T0) && decide (T1 = T0) && pur c && pur elt && subs p.2 (melt p.2 T00 q.2) && ownOk (melt p.2 T00 q.2) own && is.all (fun i => decide (i ∈ own))) = true then some (Ow.lst r.1, melt p.2 T00 q.2) else none) = some (t, T') := h
  simp only [Option.bind_eq_some_iff, Prod.exists] at h
  obtain ⟨ti, Ta, h1, is, h2, T00, h3, Tb, h4, tc, Tc, h5, T0, h6, T1, h7, te, T2, h8, h9⟩ := h
  split at h9
  · rename_i hc
    simp only [Bool.and_eq_true, decide_eq_true_eq, List.all_eq_true] at hc
    obtain ⟨⟨⟨⟨⟨⟨rfl, rfl⟩, c3⟩, c4⟩, c5⟩, c6⟩, c7⟩ := hc
    cases h9
    exact ⟨ti, Ta, is, _, te, h1, h2, c5, c6, c7, h6, h7, h8, c3, c4, rfl⟩
  · cases h9
theorem ck_dcomp {own : List Nat} {tg it k v : E} (h : ck ret mv (m + 1) (.dcomp own tg it k v) T = some (t, T')) : ∃ ti Ta is T0 tk tv, ckc ret m it T = some (ti, Ta) ∧ tgs tg = some is ∧ subs Ta T' = true ∧ ownOk T' own = true ∧ (∀ i ∈ is, i ∈ own) ∧ ckN tg (wipeT T' own) = some T0 ∧
    ckb ret m k T0 = some (tk, T0) ∧ ck ret false m v T0 = some (tv, T0) ∧ pur k = true ∧ pur v = true ∧ t = .dct .fz := by
  have h : ((ckc ret m it T).bind fun p => (tgs tg).bind fun is => (ckN tg (wipeT p.2 own)).bind fun T00 => (ckb ret m k T00).bind fun s => (ck ret false m v s.2).bind fun q =>
      (ckN tg (wipeT (melt p.2 T00 q.2) own)).bind fun T0 => (ckb ret m k T0).bind fun s1 => (ck ret false m v s1.2).bind fun r =>
      if (decide (r.2 = T0) && decide (s1.2 = T0) && pur k && pur v && subs p.2 (melt p.2 T00 q.2) && ownOk (melt p.2 T00 q.2) own && is.all (fun i => decide (i ∈ own))) = true then some (Ow.dct .fz, melt p.2 T00 q.2) else none) = some (t, T') := h
  simp only [Option.bind_eq_some_iff, Prod.exists] at h
  obtain ⟨ti, Ta, h1, is, h2, T00, h3, tb, Tb, h4, tc, Tc, h5, T0, h6, tk, T1, h7, te, T2, h8, h9⟩ := h
  split at h9
  · rename_i hc
    simp only [Bool.and_eq_true, decide_eq_true_eq, List.all_eq_true] at hc
    obtain ⟨⟨⟨⟨⟨⟨rfl, rfl⟩, c3⟩, c4⟩, c5⟩, c6⟩, c7⟩ := hc
    cases h9
    exact ⟨ti, Ta, is, _, tk, te, h1, h2, c5, c6, c7, h6, h7, h8, c3, c4, rfl⟩
  · cases h9
def appK (ret : Nat → Ow) (m i : Nat) (T : Ty1) : Option Ow → E → Option (Ow × Ty1)
  | some (.lst c), .cons a .nil => ((ck ret false m a T).bind fun p => if (pur a && decide (p.2[i]? = some (.lst c)) && sub1 (.lst c) (.lst (join c p.1)) && sub1 p.1 (join c p.1)) = true then some (Ow.fz, p.2.set i (.lst (join c p.1))) else none)
  | _, _ => none
theorem ck_app0 {i : Nat} {es : E} : ck ret mv (m + 1) (.mt .append (.var i) es) T = appK ret m i T T[i]? es := by
  show (match T[i]? with | some (.lst c) => _ | _ => none) = _
  cases T[i]? with
  | none => cases es <;> rfl
  | some t => cases t <;> (cases es <;> first | rfl | (rename_i a es; cases es <;> rfl))
theorem ck_app {x es : E} (h : ck ret mv (m + 1) (.mt .append x es) T = some (t, T')) : ∃ i c a ta T1, x = .var i ∧ es = .cons a .nil ∧ T[i]? = some (.lst c) ∧ ck ret false m a T = some (ta, T1) ∧ pur a = true ∧ T1[i]? = some (.lst c) ∧ sub1 (.lst c) (.lst (join c ta)) = true ∧ sub1 ta (join c ta) = true ∧ t = .fz ∧ T' = T1.set i (.lst (join c ta)) := by
  cases x with
  | var i =>
    rw [ck_app0] at h
    unfold appK at h
    split at h
    · rename_i c a hc
      simp only [Option.bind_eq_some_iff, Prod.exists] at h
      obtain ⟨ta, T1, h1, h2⟩ := h
      split at h2
      · rename_i hq
        simp only [Bool.and_eq_true, decide_eq_true_eq] at hq
        cases h2
        exact ⟨i, c, a, ta, T1, rfl, rfl, hc, h1, hq.1.1.1, hq.1.1.2, hq.1.2, hq.2, rfl, rfl⟩
      · cases h2
    · cases h
  | _ => cases h
def popK (i : Nat) (T : Ty1) : Option Ow → E → Option (Ow × Ty1)
  | some (.lst c), .nil => if (c == .fz || c == .bot) = true then some (Ow.fz, T.set i (.lst .fz)) else none
  | some (.lst c), .cons a .nil => if (isZ a && (c == .fz || c == .bot)) = true then some (Ow.fz, T.set i (.lst .fz)) else none
  | _, _ => none
theorem ck_pop0 {i : Nat} {es : E} : ck ret mv (m + 1) (.mt .pop (.var i) es) T = popK i T T[i]? es := by
  show (match T[i]? with | some (.lst c) => _ | _ => none) = _
  cases T[i]? with
  | none => cases es <;> rfl
  | some t => cases t <;> (cases es <;> first | rfl | (rename_i a es; cases es <;> rfl))
theorem ck_pop {x es : E} (h : ck ret mv (m + 1) (.mt .pop x es) T = some (t, T')) : ∃ i c, x = .var i ∧ (es = .nil ∨ es = .cons (.lit (.int 0)) .nil) ∧ T[i]? = some (.lst c) ∧ (c = .fz ∨ c = .bot) ∧ t = .fz ∧ T' = T.set i (.lst .fz) := by
  cases x with
  | var i =>
    rw [ck_pop0] at h
    unfold popK at h
    split at h
    · rename_i c hc
      split at h
      · rename_i hq
        simp only [Bool.or_eq_true, beq_iff_eq] at hq
        cases h
        exact ⟨i, c, rfl, .inl rfl, hc, hq, rfl, rfl⟩
      · cases h
    · rename_i c a hc
      split at h
      · rename_i hq
        simp only [Bool.and_eq_true, Bool.or_eq_true, beq_iff_eq] at hq
        cases h
        have e : a = .lit (.int 0) := by
          have := hq.1
          unfold isZ at this
          split at this
          · rw [beq_iff_eq.mp this]
          · cases this
        subst e
        exact ⟨i, c, rfl, .inr rfl, hc, hq.2, rfl, rfl⟩
      · cases h
    · cases h
  | _ => cases h
theorem bi_ckc {b : Bi} (h : ckc ret (m + 1) (.bi b e) T = some (t, T')) : ∃ m', m' ≤ m ∧ BiA ret m' e T T' := by
  obtain ⟨t1, T1, k1, k2⟩ := ckc_inv h
  have e1 : T' = T1 := by
    rcases k2 with ⟨_, e⟩ | ⟨_, e, _⟩ | ⟨_, _, e, _⟩ | ⟨_, e⟩
    · exact e
    · cases e
    · cases e
    · exact e
  subst e1
  cases m with
  | zero => cases k1
  | succ m =>
    rcases ckb_inv k1 with ⟨_, e1, _⟩ | ⟨_, _, _, _, _, e1, _⟩ | ⟨k2, _⟩
    · cases e1
    · cases e1
    · cases m with
      | zero => cases k2
      | succ m => exact ⟨m, by omega, (ck_bi k2).1⟩
end
end Rf
end

section
/-! Rf4e: expressions: values, walks, targets. -/
namespace Rf
open PySem PySem.Spec PyProof.Rows L2
section
variable {ret : Nat → Ow} {K : PySem.W.Frag} {xs : XS} {Φ : Calls} {n m : Nat} {C : Cc} {W : Wx} {X : Cx} {sc : Scope} {x : Expr} {es : List Expr} {e : E} {mv : Bool} {T T' : Ty1} {t : Ow} {pos : Pos}
/-- a literal -/
theorem j_lit {d : D} (O : Okx C ret K xs Φ W X sc) (h : cE C n sc x = some (.lit d)) : ∃ v, PE X x (tC v) ∧ ∀ G, Fz K G v d := by
  have q := c_shape h
  cases x <;> first | cases q | skip
  · rename_i o es p; cases o <;> cases q
  · rename_i o a p; cases o <;> cases q
  · rename_i c k p
    cases n with
    | zero => cases h
    | succ n =>
      have h : cConst c = some (.lit d) := h
      unfold cConst at h
      split at h
      · cases h; exact ⟨_, pe_non, fun _ => .non⟩
      · cases h; exact ⟨_, pe_bl, fun _ => .bl _⟩
      · cases h; exact ⟨_, pe_int, fun _ => .int _⟩
      · split at h
        · rename_i hl; cases h; exact ⟨_, pe_str, fun _ => .str _ hl⟩
        · cases h
      · cases h
  · rename_i y p
    rcases i_name h with ⟨i, e1, _⟩ | ⟨d', e1, hg, hl⟩
    · cases e1
    · cases e1
      obtain ⟨u, v, hm, r, f⟩ := O.cst _ _ hl
      exact ⟨v, pe_glob (O.gl hg) hm r (okName_ok (isGl_ok hg).2).1, f⟩
theorem j_cs (J0 : ∀ m', m' ≤ m → ∀ n, Jd ret K xs Φ n m') (O : Okx C ret K xs Φ W X sc) : ∀ {n : Nat} {es : List Expr} {e : E} {T T' : Ty1}, cEs C n sc es = some e → BiA ret m e T T' → PA X es (tEvCs K Φ W e T T')
  | n, [], e, T, T', h, hk => by
    have e0 := cEs_n0 h
    subst e0
    cases hk
    exact c_nil
  | n, x :: r, e, T, T', h, hk => by
    obtain ⟨a, es, n', rfl, rfl, h1, h2⟩ := cEs_nn h
    cases hk with
    | cons k1 k2 k3 => exact c_cons ((J0 m (Nat.le_refl m) n').c O h1 k1) (j_cs J0 O h2 k3) O.w (c_nostar h1) k2
theorem cE_nn (h : cE C n sc x = some e) : e ≠ .nil := by
  have q := c_shape h
  rintro rfl
  cases x <;> first | cases q | skip
  · rename_i o es p; cases o <;> cases q
  · rename_i o a p; cases o <;> cases q
theorem j_end (J0 : ∀ m', m' ≤ m → ∀ n, Jd ret K xs Φ n m') (O : Okx C ret K xs Φ W X sc) {o : Option Expr} {tl : Ow} (h : cO C n sc o = some e) (hk : ckb ret m e T = some (tl, T')) : PO X o (tEnd K Φ W e T T') := by
  cases n with
  | zero => cases h
  | succ n =>
    cases o with
    | none =>
      have h : some E.nil = some e := h
      cases h
      have e : T' = T := by
        cases m with
        | zero => cases hk
        | succ m =>
          rcases ckb_inv hk with ⟨_, e1, _⟩ | ⟨_, _, _, _, _, e1, _⟩ | ⟨k1, _⟩
          · cases e1
          · cases e1
          · cases m with
            | zero => cases k1
            | succ m => have k1 : some (Ow.tn, T) = some (tl, T') := k1; cases k1; rfl
      subst e
      exact e_none
    | some x =>
      have h : cE C n sc x = some e := h
      exact e_some (s_toD ((J0 m (Nat.le_refl m) n).b O h hk) O.w) O.w (cE_nn h)
theorem glv_ok (h : glv C sc z = some g) : isGl sc z = true ∧ C.gl.lookup z = some g := by
  unfold glv at h
  split at h
  · rename_i hg; exact ⟨hg, h⟩
  · cases h
theorem blt_ok (h : bltIn C sc z = true) : isGl sc z = true ∧ C.gl.lookup z = none ∧ z ∈ C.bl := by
  unfold bltIn at h
  simp only [Bool.and_eq_true, Option.isNone_iff_eq_none, List.contains_iff_mem] at h
  exact h
theorem j_mok (O : Okx C ret K xs Φ W X sc) {o : Str} {q p apos : Pos} {name : Str} {as : List Expr} (hs : ∀ a ∈ as, NoStar a) (hl : (apos.endLine == p.line) = true) (h2 : as.length ≤ 2) : MOk X (.Name o q) name as apos p where
  base := rfl
  few := by
    have hb : (backTo p (starEach as X.env)).all (fun x => !x.1) = true := by
      have := back_plain (X := X) (pos := p) hs
      rw [List.all_eq_true]
      intro y hy
      have h3 : y.1 = false := by
        cases e : y.1 with
        | false => rfl
        | true => rw [List.any_eq_true.mpr ⟨y, hy, e⟩] at this; cases this
      rw [h3]; rfl
    simp only [hb, Bool.true_and, Bool.and_eq_true, decide_eq_true_eq]
    exact ⟨rfl, by simp only [List.length_nil, List.isEmpty_nil, if_true]; omega⟩
  line := hl
  plain := back_plain fun a ha => hs a (List.mem_of_mem_tail ha)
  stars := fun e r he => by subst he; exact hs e (by simp) r X.env
theorem _root_.L2.PTs.wk {X : Cx} {e : List Expr} {t t' : TT} (h : PTs X e t) (i : ∀ σ H Q, t' σ H Q → t σ H Q) : PTs X e t' := ⟨fun pins s σ H Q I q => h.run pins s σ H Q I (i σ H Q q)⟩
theorem j_ifs (J0 : ∀ m', m' ≤ m → ∀ n, Jd ret K xs Φ n m') (O : Okx C ret K xs Φ W X sc) {ifs : List Expr} (h : cIfs C n sc ifs = some e) (hk : ckt ret m e T = some T) : PTs X ifs (tTst K Φ W e T T) := by
  cases n with
  | zero => cases h
  | succ n =>
    rcases ifs with _ | ⟨c, _ | ⟨d, r⟩⟩
    · have h : some (E.lit (.bool true)) = some e := h
      cases h
      exact pts_nil.wk fun σ H Q ⟨H0, G, ρ, F, I, q⟩ => q G H F (.refl _ _) (fun _ => Same.refl H) I
    · exact pts_one ((J0 m (Nat.le_refl m) n).t O h hk)
    · cases h
theorem it_fold {tg it : Expr} {env : PySem.Env} (h : cItE C n sc tg it = some e) : ∀ x, foldedSetIterable it env x = pure x := by
  intro x
  cases it <;> first | rfl | (cases n with | zero => cases h | succ n => have h : cE C n sc _ = some e := h; cases n <;> cases h)
theorem s_cD {x : Expr} {e : E} (h : PE X x (tEvC K Φ W e T T')) (w : WOk W) : PE X x (tEvD K Φ W e T T') := by
  refine h.wk fun σ H Q ⟨H0, G, ρ, F, I, q⟩ => ⟨H0, G, ρ, F, I, q.imp w (Same.refl _) fun p _ k v G' H' F' g s I' r => ?_⟩
  exact k v G' H' F' g s I' (r.all I'.gh)
/-- what a path or any other text is worth -/
theorem j_v (J0 : ∀ m', m' ≤ m → ∀ n, Jd ret K xs Φ n m') (O : Okx C ret K xs Φ W X sc)
    (Jt : ∀ {C : Cc} {W : Wx} {X : Cx} {sc : Scope} {n : Nat} {x : Expr} {e : E} {T T' : Ty1}, Okx C ret K xs Φ W X sc → cT C n sc x = some e → ckN e T = some T' → PG X x (tTg K Φ W e .fz T T'))
    (h : cE C n sc x = some e) (hk : ck ret mv (m + 1) e T = some (t, T')) : PE X x (tEv K Φ W e T T' t) := by
  have J := J0 m (Nat.le_refl m)
  cases x with
  | Name y p =>
    rcases i_name h with ⟨i, rfl, hv, hn, hi⟩ | ⟨d, rfl, _⟩
    · have P := O.name (pos := p) hv hn hi
      rcases ck_var hk with ⟨e1, rfl, rfl⟩ | ⟨e1, rfl, rfl⟩ | ⟨t0, e1, e2, ⟨_, rfl, rfl⟩ | ⟨_, rfl, rfl⟩⟩
      · exact s_varF P e1
      · exact s_var0 P e1
      · exact s_varM P e1 e2
      · exact s_varE P e1 e2
    · obtain ⟨v, P, f⟩ := j_lit O h
      have hk : some (Ow.fz, T) = some (t, T') := hk
      cases hk
      exact s_lit P f
  | Constant c k p =>
    obtain ⟨d, rfl⟩ : ∃ d, e = .lit d := by
      have q := c_shape h
      cases e <;> first | exact ⟨_, rfl⟩ | cases q
    obtain ⟨v, P, f⟩ := j_lit O h
    have hk : some (Ow.fz, T) = some (t, T') := hk
    cases hk
    exact s_lit P f
  | Tuple es k p =>
    obtain ⟨n', y, rfl, rfl, h1, hl⟩ := i_tup h
    obtain ⟨u, k1, ⟨hz, rfl⟩ | rfl⟩ := ck_tup hk
    · exact s_tupF ((J n').ls O h1 k1) O.w hz (by simp only [line]; omega) fun ρ p hp => cEs_len h1 hp
    · exact s_tupO ((J n').ls O h1 k1) O.w (by simp only [line]; omega) fun ρ p hp => cEs_len h1 hp
  | List es p =>
    obtain ⟨n', y, rfl, rfl, h1, hl⟩ := i_lst h
    obtain ⟨u, k1, rfl⟩ := ck_lst hk
    exact s_lst ((J n').ls O h1 k1) O.w (by simp only [line]; omega) fun ρ p hp => cEs_len h1 hp
  | UnaryOp o a p =>
    obtain ⟨n', y, rfl, h1, ⟨rfl, rfl⟩ | ⟨rfl, rfl⟩⟩ := i_un h
    · obtain ⟨u, k1, rfl⟩ := ck_neg hk
      exact s_neg (s_toD ((J n').b O h1 k1) O.w) O.w
    · obtain ⟨u, k1, rfl⟩ := ck_not hk
      exact s_not O.hK (s_toD ((J n').b O h1 k1) O.w) O.w
  | BinOp a o b p =>
    obtain ⟨n', y, o', z, rfl, rfl, h1, ho, h2⟩ := i_bin h
    obtain ⟨ta, T1, tb, k1, k2, hp, rfl⟩ := ck_bin hk
    exact s_bin (opD_of O.hK ho) ((J n').c O h1 k1) ((J n').c O h2 k2) O.w hp (binT_ok _ _ _)
  | Compare a o b p =>
    obtain ⟨n', y, o', b', z, rfl, rfl, rfl, rfl, h1, h2⟩ := i_cmp h
    have e := ck_cmp' hk
    subst e
    obtain ⟨ta, T1, tb, k1, k2, hp⟩ := ck_cmp hk
    exact s_cmp O.hK O.un (s_toD ((J n').b O h1 k1) O.w) (s_toD ((J n').b O h2 k2) O.w) O.w hp (c_marks _ h2)
  | BoolOp o es p =>
    obtain ⟨n', a', b', r, rfl, rfl, ⟨rfl, h'⟩ | ⟨rfl, h'⟩⟩ := i_bool h
    · obtain ⟨n2, y, z, rfl, rfl, h1, h2⟩ := i_and1 h'
      obtain ⟨k1, k2, rfl⟩ := ck_and hk
      exact s_and O.hK ((J n2).v O h1 k1) ((J n2).av O h2 k2) O.w
    · obtain ⟨n2, y, z, rfl, rfl, h1, h2⟩ := i_or1 h'
      obtain ⟨k1, k2, rfl⟩ := ck_or hk
      exact s_or O.hK ((J n2).v O h1 k1) ((J n2).ov O h2 k2) O.w
  | IfExp c a b p =>
    obtain ⟨n', z, y, w, rfl, rfl, h0, h1, h2⟩ := i_ite h
    obtain ⟨T0, ta, T1, tb, T2, k0, k1, k2, s1, s2, hl, rfl⟩ := ck_ite hk
    obtain ⟨j1, j2⟩ := joins_sub hl
    exact s_ite ((J n').t O h0 k0) ((J n').v O h1 k1) ((J n').v O h2 k2) O.w s1 s2 j1 j2
  | Subscript a i p =>
    rcases i_sub h with ⟨n', y, z, rfl, rfl, h1, h2⟩ | ⟨n', lo, hi, q, y, l, r, rfl, rfl, rfl, h1, h2, h3⟩ | ⟨n', y, q, kvs, z, rfl, rfl, hg, hl, rfl, h1⟩
    · obtain ⟨ta, T1, ti, k1, k2, hp, rfl⟩ := ck_sub hk
      exact s_sub O.hK O.un ((J n').c O h1 k1) (s_toD ((J n').b O h2 k2) O.w) O.w hp (c_plain h2)
    · obtain ⟨ta, T1, tl, T2, tr, k1, k2, k3, p1, p2, rfl⟩ := ck_slc hk
      exact s_slc O.hK ((J n').c O h1 k1) (j_end J0 O h2 k2) (j_end J0 O h3 k3) O.w p1 p2 .lst
    · obtain ⟨a, hm, hd⟩ := O.kdc _ _ hl
      obtain ⟨k1, rfl⟩ := ck_bi hk
      cases k1 with
      | cons k1 _ k2 =>
        cases k2
        exact s_kd O.hK (O.gl hg) hm (okName_ok (isGl_ok hg).2).1 hd (s_cD ((J n').c O h1 k1) O.w) O.w (c_plain h1)
  | Call f as kws p =>
    obtain ⟨n', rfl, rfl, ⟨y, q, rfl, ⟨g, k, es', hg, hl, h1, rfl⟩ | ⟨es', hg, hl, h1, rfl⟩ | ⟨b, es', hb, hne, hbi, h1, rfl⟩ | ⟨hb, hx⟩⟩ | ⟨o, q, mm, apos, m', xe, ys, rfl, hl, hm, ho, h1, h2, rfl⟩⟩ := i_call h
    · -- a def
      obtain ⟨hg1, hg2⟩ := glv_ok hg
      obtain ⟨CX, kk, fa, fd, ps, Ex, sp, F, hsp, _, hr, hm, hkp, hbn, hW, hx, _⟩ := O.call _ _ _ hg2
      obtain ⟨u, k1, rfl⟩ := ck_call hk
      have hlen : ∀ ρ p ds, ev Φ es' ρ = .ok p → p.1 = .tuple ds → ds.length = k := fun ρ p ds hp e => by
        obtain ⟨ds', e1, e2⟩ := cEs_len h1 hp
        rw [e] at e1; cases e1
        rw [e2, hl]
      have hn := okName_ok (isGl_ok hg1).2
      cases as with
      | nil =>
        have e0 := cEs_n0 h1
        subst e0
        have kk1 : T' = T := by
          cases m with
          | zero => cases k1
          | succ m => have k1 : some (Ow.tn, T) = some (u, T') := k1; cases k1; rfl
        subst kk1
        refine (pe_call0 (dvs := []) F hr (O.gl hg1) hm hkp hbn .nil hx hn.1).wk fun σ H Q q => ?_
        have q := call_rd O.w hW q hlen
        obtain ⟨H0, G, ρ, F0, I, q⟩ := q
        exact hsp _ _ _ (q [] rfl [] G H F0 (.refl _ _) (fun _ => Same.refl H) I .nil)
      | cons a r =>
        have st := cEs_star h1
        refine (pe_call (dvs := []) F hr (O.gl hg1) hm hkp hbn .nil hx ((J n').fs O h1 k1) hn.1 (st a (by simp) r X.env) (back_plain fun b hb => st b (by simp [hb]))).wk fun σ H Q q => ?_
        obtain ⟨H0, G, ρ, F0, I, q⟩ := call_rd O.w hW q hlen
        exact ⟨H0, G, ρ, F0, I, q.map fun p _ k ds e vs G' H' F' g s I' f => hsp _ _ _ (k ds e vs G' H' F' g s I' f)⟩
    · -- gcd
      obtain ⟨hg1, hg2⟩ := glv_ok hg
      obtain ⟨k1, rfl⟩ := ck_bi hk
      have hn := okName_ok (isGl_ok hg1).2
      cases as with
      | nil => cases hl
      | cons a r =>
        have st := cEs_star h1
        exact (pe_callBfun bi_gcd (O.gl hg1) (O.gcd _ hg2) (j_cs J0 O h1 k1) hn.1 (st a (by simp) r X.env) (back_plain fun b hb => st b (by simp [hb]))).wk fun σ H Q q => bi_rd O.w (biT_ok _) q
    · -- a builtin
      obtain ⟨hg1, hg2⟩ := blt_ok hb
      obtain ⟨k1, rfl⟩ := ck_bi hk
      have hn := okName_ok (isGl_ok hg1).2
      cases as with
      | nil => exact absurd rfl hne
      | cons a r =>
        have st := cEs_star h1
        rcases bi_rule (X := X) O.hK O.un O.calm hbi with ⟨id, hv, hc⟩ | ⟨Ty, hv, hc⟩
        · exact (pe_callB hc (O.gl hg1) (O.blt _ hg2) hv (j_cs J0 O h1 k1) hn.2.2 hn.1 (st a (by simp) r X.env) (back_plain fun b hb => st b (by simp [hb]))).wk fun σ H Q q => bi_rd O.w (biT_ok _) q
        · exact (pe_callTy hc (O.gl hg1) (O.blt _ hg2) hv (j_cs J0 O h1 k1) hn.2.2 hn.1 (st a (by simp) r X.env) (back_plain fun b hb => st b (by simp [hb]))).wk fun σ H Q q => bi_rd O.w (biT_ok _) q
    · -- a builtin of a form of its own
      obtain ⟨hg1, hg2⟩ := blt_ok hb
      obtain ⟨n2, rfl, hxx⟩ := i_x hx
      clear hx
      cases hxx with
      | listR hgr h1 =>
        obtain ⟨hr1, hr2⟩ := blt_ok hgr
        obtain ⟨k1, rfl⟩ := ck_bi hk
        cases k1 with
        | cons k1 _ k2 =>
          cases k2
          cases m with
          | zero => cases k1
          | succ m =>
          obtain ⟨m', hm, k1⟩ := bi_ckc k1
          cases k1 with
          | cons k1 _ k2 =>
            cases k2
            exact s_listRg1 O.calm (O.gl hg1) (O.blt _ hg2) (O.gl hr1) (O.blt _ hr2) (s_cD ((J0 m' (by omega) n2).c O h1 k1) O.w) O.w (c_nostar h1)
      | repr hr h1 =>
        obtain ⟨k1, rfl⟩ := ck_bi hk
        have st := cEs_star h1
        have hn := okName_ok (isGl_ok hg1).2
        exact (pe_callB (bi_repr O.hK (O.rp hr) O.un) (O.gl hg1) (O.blt _ hg2) rfl (j_cs J0 O h1 k1) hn.2.2 hn.1 (st _ (by simp) [] X.env) (back_plain fun b hb => by cases hb)).wk fun σ H Q q => bi_rd O.w (biT_ok _) q
      | isi hgt ht h1 =>
        obtain ⟨ht1, ht2⟩ := blt_ok hgt
        obtain ⟨u, k1, rfl⟩ := ck_isi hk
        exact s_isi O.hK (O.gl hg1) (O.blt _ hg2) (O.gl ht1) (O.blt _ ht2) ht (s_toD ((J n2).b O h1 k1) O.w) O.w (c_nostar h1)
    · -- a method that changes its object
      have st := cEs_star h1
      have M := j_mok (o := o) (q := q) (name := mm) O st hl h2
      unfold cMt at hm
      split at hm
      · rename_i e; subst e; cases hm
        obtain ⟨i, c, a, ta, T1, rfl, rfl, e0, k1, pa, e1, s1, s2, rfl, rfl⟩ := ck_app hk
        obtain ⟨hv, hn, hi⟩ : isVis sc o = true ∧ okName o = true ∧ idxS o C.N 0 = some i := by
          rcases i_name (n := 1) (p := q) (show cE C 1 sc (.Name o q) = some (.var i) from ho) with ⟨j, e1, e2, e3, e4⟩ | ⟨d, e1, _⟩
          · cases e1; exact ⟨e2, e3, e4⟩
          · cases e1
        cases as with
        | nil => have := cEs_n0 h1; cases this
        | cons ax r =>
          obtain ⟨a', es', n2, rfl, e2, h3, h4⟩ := cEs_nn h1
          cases e2
          cases r with
          | nil => exact s_append O.hK (O.name hv hn hi) ((J n2).v O h3 k1) O.w (c_nostar h3) M pa e0 e1 s1 s2
          | cons b r => obtain ⟨_, _, _, _, e2, _⟩ := cEs_nn h4; cases e2
      · split at hm
        · rename_i e; subst e; cases hm
          obtain ⟨i, c, rfl, hes, e0, hc, rfl, rfl⟩ := ck_pop hk
          obtain ⟨hv, hn, hi⟩ : isVis sc o = true ∧ okName o = true ∧ idxS o C.N 0 = some i := by
            rcases i_name (n := 1) (p := q) (show cE C 1 sc (.Name o q) = some (.var i) from ho) with ⟨j, e1, e2, e3, e4⟩ | ⟨d, e1, _⟩
            · cases e1; exact ⟨e2, e3, e4⟩
            · cases e1
          cases as with
          | nil =>
            have := cEs_n0 h1
            subst this
            exact s_pop O.hK (O.name hv hn hi) rfl hl e0 hc
          | cons ax r =>
            obtain ⟨a', es', n2, rfl, rfl, h3, h4⟩ := cEs_nn h1
            rcases hes with e2 | e2
            · cases e2
            · cases e2
              cases r with
              | nil =>
                obtain ⟨v, P, f⟩ := j_lit O h3
                have ev : v = .int 0 := by have := f (fun _ => none); cases this; rfl
                subst ev
                exact s_pop0 O.hK (O.name hv hn hi) P (c_nostar h3) M e0 hc
              | cons b r => obtain ⟨_, _, _, _, e2, _⟩ := cEs_nn h4; cases e2
        · cases hm
  | ListComp elt gs scope p =>
    obtain ⟨n', tg, it, ifs, i, tt, c, y, rfl, rfl, hb, rfl, h1, h2, h3, h4⟩ := i_comp h
    obtain ⟨ti, Ta, is, T0, te, k1, hi, hs, ho, hio, hN, k2, k3, pc, pe, rfl⟩ := ck_comp hk
    have ok : BlkOk X.N X.env.scope scope (ownOf C.N scope) := by rw [O.hN, O.hs]; exact blkOk_by hb
    exact (pe_lc O.calm (by rw [O.hN]; exact O.nd) ((J n').it O h1 k1) ok (fun s H a cl fp => Jt (O.blk s H scope cl a fp) h2 hN) (fun s H a cl fp => j_ifs J0 (O.blk s H scope cl a fp) h3 k2) (fun s H a cl fp => (J n').v (O.blk s H scope cl a fp) h4 k3) (it_fold h1)).wk fun σ H Q q =>
      lc_rd O.w hs ho hi hio pc pe hN q
  | DictComp k v gs scope p =>
    obtain ⟨n', tg, it, i, tt, a, b, rfl, rfl, hb, rfl, h1, h2, h3, h4⟩ := i_dcomp h
    obtain ⟨ti, Ta, is, T0, tk, tv, k1, hi, hs, ho, hio, hN, k2, k3, pc, pe, rfl⟩ := ck_dcomp hk
    have ok : BlkOk X.N X.env.scope scope (ownOf C.N scope) := by rw [O.hN, O.hs]; exact blkOk_by hb
    exact (pe_dc O.calm (by rw [O.hN]; exact O.nd) ((J n').it O h1 k1) ok (fun s H a cl fp => Jt (O.blk s H scope cl a fp) h2 hN) (fun s H a cl fp => pts_nil) (fun s H a cl fp => s_toD ((J n').b (O.blk s H scope cl a fp) h3 k2) wn_ok) (fun s H a cl fp => s_frz ((J n').v (O.blk s H scope cl a fp) h4 k3) wn_ok) (it_fold h1)).wk fun σ H Q q =>
      dc_rd O.w hs ho hi hio pc pe hN q
  | _ => cases n <;> cases h
/-! targets of names -/
theorem cTs_nn {x : Expr} {xs : List Expr} {e : E} (h : cTs C n sc (x :: xs) = some e) : ∃ a es n', n = n' + 1 ∧ e = .cons a es ∧ cT C n' sc x = some a ∧ cTs C n' sc xs = some es := by
  cases n with
  | zero => cases h
  | succ n =>
    have h : ((cT C n sc x).bind fun x => (cTs C n sc xs).map fun xs => E.cons x xs) = some e := h
    simp only [Option.bind_eq_some_iff, Option.map_eq_some_iff] at h
    obtain ⟨y, h1, ys, h2, rfl⟩ := h
    exact ⟨y, ys, n, rfl, rfl, h1, h2⟩
theorem cTs_n0 {e : E} (h : cTs C n sc [] = some e) : e = .nil := by
  cases n with
  | zero => cases h
  | succ n => have h : some E.nil = some e := h; cases h; rfl
theorem iT_name {y : Str} {p : Pos} (h : cT C n sc (.Name y p) = some e) : ∃ i, e = .var i ∧ isLoc C sc y = true ∧ idxS y C.N 0 = some i := by
  cases n with
  | zero => cases h
  | succ n =>
    have h : (if isLoc C sc y = true then (idxS y C.N 0).map E.var else none) = some e := h
    split at h
    · rename_i hl
      rw [Option.map_eq_some_iff] at h
      obtain ⟨i, h1, rfl⟩ := h
      exact ⟨i, rfl, hl, h1⟩
    · cases h
theorem iT_tup {es : List Expr} {k : Nat} {p : Pos} (h : cT C n sc (.Tuple es k p) = some e) : ∃ n' x, n = n' + 1 ∧ e = .tup x ∧ cTs C n' sc es = some x := by
  cases n with
  | zero => cases h
  | succ n =>
    have h : (cTs C n sc es).map E.tup = some e := h
    rw [Option.map_eq_some_iff] at h
    obtain ⟨i, h1, rfl⟩ := h
    exact ⟨n, i, rfl, rfl, h1⟩
theorem iT_sub {o k : Expr} {p : Pos} (h : cT C n sc (.Subscript o k p) = some e) : ∃ n' y q i ek, n = n' + 1 ∧ o = .Name y q ∧ isVis sc y = true ∧ okName y = true ∧ idxS y C.N 0 = some i ∧ cE C n' sc k = some ek ∧ (∀ a b c d, k ≠ .Slice a b c d) ∧ e = .sub (.var i) ek := by
  cases n with
  | zero => cases h
  | succ n =>
    cases o with
    | Name y q =>
      have gen : (if (isVis sc y && okName y) = true then (idxS y C.N 0).bind fun i => (cE C n sc k).map fun y => E.sub (.var i) y else none) = some e → (∀ a b c d, k ≠ .Slice a b c d) → ∃ n' y' q' i ek, n + 1 = n' + 1 ∧ Expr.Name y q = .Name y' q' ∧ isVis sc y' = true ∧ okName y' = true ∧ idxS y' C.N 0 = some i ∧ cE C n' sc k = some ek ∧ (∀ a b c d, k ≠ .Slice a b c d) ∧ e = .sub (.var i) ek := fun h hk => by
        split at h
        · rename_i hc
          simp only [Bool.and_eq_true] at hc
          simp only [Option.bind_eq_some_iff, Option.map_eq_some_iff] at h
          obtain ⟨i, h1, ek, h2, rfl⟩ := h
          exact ⟨n, y, q, i, ek, rfl, rfl, hc.1, hc.2, h1, h2, hk, rfl⟩
        · cases h
      cases k with
      | Slice a b c d =>
        have h : (if (isVis sc y && okName y) = true then (idxS y C.N 0).bind fun i => (none : Option E).map fun y => E.sub (.var i) y else none) = some e := h
        split at h
        · simp only [Option.bind_eq_some_iff, Option.map_eq_some_iff] at h
          obtain ⟨_, _, _, h2, _⟩ := h
          cases h2
        · cases h
      | _ => exact gen h (by simp)
    | _ => cases h
theorem g_ok (O : Okx C ret K xs Φ W X sc) {y : Str} {p : Pos} {i : Nat} (hl : isLoc C sc y = true) (hi : idxS y C.N 0 = some i) : PG X (.Name y p) (gName i) := by
  obtain ⟨h1, h2⟩ := isLoc_ok hl
  refine pg_name (by rw [O.hN]; exact O.nd) (by rw [O.hN]; exact idxS_at hi) (by rw [O.hs]; exact h1) ?_
  rcases h2 with h | ⟨h, h'⟩
  · exact .inr (by rw [O.hs]; exact h)
  · exact .inl (O.fn _ h h')
theorem cTs_len : ∀ {n : Nat} {xs : List Expr} {e : E}, cTs C n sc xs = some e → lenE e = xs.length ∧ (assignEach xs X.env).length = xs.length ∧ (assignEach xs X.env).findIdx? (·.1) = none
  | n, [], e, h => by
    have e0 := cTs_n0 h
    subst e0
    exact ⟨rfl, rfl, rfl⟩
  | n, x :: r, e, h => by
    obtain ⟨a, es, n', rfl, rfl, h1, h2⟩ := cTs_nn h
    obtain ⟨q1, q2, q3⟩ := cTs_len h2
    rw [cT_nostar h1 r]
    refine ⟨by simp [lenE, q1], by simp [q2], ?_⟩
    rw [List.findIdx?_cons]
    simp [q3]
mutual
theorem j_tN : ∀ {n : Nat} {C : Cc} {W : Wx} {X : Cx} {sc : Scope} {x : Expr} {e : E} {T T' : Ty1}, Okx C ret K xs Φ W X sc → cT C n sc x = some e → ckN e T = some T' → PG X x (tTg K Φ W e .fz T T')
  | 0, _, _, _, _, _, _, _, _, _, h, _ => by cases h
  | n + 1, C, W, X, sc, x, e, T, T', O, h, hk => by
    cases x with
    | Name y p =>
      obtain ⟨i, rfl, hl, hi⟩ := iT_name h
      have hk : (if i < T.length then some (T.set i .fz) else none) = some T' := hk
      split at hk
      · rename_i hlt; cases hk; exact g_name (g_ok O hl hi) hlt
      · cases hk
    | Tuple es k p =>
      obtain ⟨n', y, e0, rfl, h1⟩ := iT_tup h
      cases e0
      obtain ⟨q1, q2, q3⟩ := cTs_len (X := X) h1
      exact g_tup O.hK O.calm (j_tNs O h1 hk) O.w (.inl rfl) q2 q3 q1
    | Subscript o k p =>
      obtain ⟨_, _, _, _, _, _, _, _, _, _, _, _, rfl⟩ := iT_sub h
      cases hk
    | _ => cases h
theorem j_tNs : ∀ {n : Nat} {C : Cc} {W : Wx} {X : Cx} {sc : Scope} {x : List Expr} {e : E} {T T' : Ty1}, Okx C ret K xs Φ W X sc → cTs C n sc x = some e → ckN e T = some T' → PGs X x (tTgs K Φ W e .fz T T')
  | n, C, W, X, sc, [], e, T, T', O, h, hk => by
    have e0 := cTs_n0 h
    subst e0
    cases hk
    exact g_nil (.inr rfl)
  | 0, C, W, X, sc, x :: r, e, T, T', O, h, hk => by cases h
  | n + 1, C, W, X, sc, x :: r, e, T, T', O, h, hk => by
    obtain ⟨a, es, n', e0, rfl, h1, h2⟩ := cTs_nn h
    cases e0
    simp only [ckN, Option.bind_eq_bind, Option.bind_eq_some_iff] at hk
    obtain ⟨T1, k1, k2⟩ := hk
    exact g_cons (j_tN O h1 k1) (j_tNs O h2 k2) O.w (cT_nostar h1) (.inr ⟨rfl, rfl, rfl⟩)
end
end
end Rf
end

section
/-! Rf4f: expressions: the whole. -/
namespace Rf
open PySem PySem.Spec PyProof.Rows L2
section
variable {ret : Nat → Ow} {K : PySem.W.Frag} {xs : XS} {Φ : Calls} {n m : Nat} {C : Cc} {W : Wx} {X : Cx} {sc : Scope} {x : Expr} {es : List Expr} {e : E} {mv : Bool} {T T' : Ty1} {t : Ow} {pos : Pos}
theorem and_inv (h : cAnd C n sc es = some e) : (∃ a n', n = n' + 1 ∧ es = [a] ∧ cE C n' sc a = some e) ∨ ∃ a b r n' x y, n = n' + 1 ∧ es = a :: b :: r ∧ e = .and x y ∧ cE C n' sc a = some x ∧ cAnd C n' sc (b :: r) = some y := by
  rcases es with _ | ⟨a, _ | ⟨b, r⟩⟩
  · cases n <;> cases h
  · cases n with
    | zero => cases h
    | succ n => exact .inl ⟨a, n, rfl, rfl, h⟩
  · obtain ⟨n', x, y, h1, h2, h3, h4⟩ := i_and1 h
    exact .inr ⟨a, b, r, n', x, y, h1, rfl, h2, h3, h4⟩
theorem or_inv (h : cOr C n sc es = some e) : (∃ a n', n = n' + 1 ∧ es = [a] ∧ cE C n' sc a = some e) ∨ ∃ a b r n' x y, n = n' + 1 ∧ es = a :: b :: r ∧ e = .or x y ∧ cE C n' sc a = some x ∧ cOr C n' sc (b :: r) = some y := by
  rcases es with _ | ⟨a, _ | ⟨b, r⟩⟩
  · cases n <;> cases h
  · cases n with
    | zero => cases h
    | succ n => exact .inl ⟨a, n, rfl, rfl, h⟩
  · obtain ⟨n', x, y, h1, h2, h3, h4⟩ := i_or1 h
    exact .inr ⟨a, b, r, n', x, y, h1, rfl, h2, h3, h4⟩
theorem j_av (J0 : ∀ m', m' ≤ m → ∀ n, Jd ret K xs Φ n m') (O : Okx C ret K xs Φ W X sc) (h : cAnd C n sc es = some e) (hk : ck ret false (m + 1) e T = some (t, T')) : PE X (.BoolOp .And es pos) (tEv K Φ W e T T' t) := by
  rcases and_inv h with ⟨a, n', rfl, rfl, h1⟩ | ⟨a, b, r, n', x, y, rfl, rfl, rfl, h1, h2⟩
  · exact pe_one (j_v J0 O j_tN h1 hk)
  · obtain ⟨k1, k2, rfl⟩ := ck_and hk
    exact s_and O.hK ((J0 m (Nat.le_refl m) n').v O h1 k1) ((J0 m (Nat.le_refl m) n').av O h2 k2) O.w
theorem j_ov (J0 : ∀ m', m' ≤ m → ∀ n, Jd ret K xs Φ n m') (O : Okx C ret K xs Φ W X sc) (h : cOr C n sc es = some e) (hk : ck ret false (m + 1) e T = some (t, T')) : PE X (.BoolOp .Or es pos) (tEv K Φ W e T T' t) := by
  rcases or_inv h with ⟨a, n', rfl, rfl, h1⟩ | ⟨a, b, r, n', x, y, rfl, rfl, rfl, h1, h2⟩
  · exact pe_one (j_v J0 O j_tN h1 hk)
  · obtain ⟨k1, k2, rfl⟩ := ck_or hk
    exact s_or O.hK ((J0 m (Nat.le_refl m) n').v O h1 k1) ((J0 m (Nat.le_refl m) n').ov O h2 k2) O.w
theorem j_at (J0 : ∀ m', m' ≤ m → ∀ n, Jd ret K xs Φ n m') (O : Okx C ret K xs Φ W X sc) (h : cAnd C n sc es = some e) (hk : ckt ret (m + 1) e T = some T') : PW X (.BoolOp .And es pos) (tTst K Φ W e T T') := by
  rcases and_inv h with ⟨a, n', rfl, rfl, h1⟩ | ⟨a, b, r, n', x, y, rfl, rfl, rfl, h1, h2⟩
  · exact pw_and1 (j_t J0 O h1 hk)
  · rcases ckt_inv hk with ⟨a', b', e1, k1, k2⟩ | ⟨a', b', e1, _⟩ | ⟨a', e1, _⟩ | ⟨_, n1, _⟩
    · cases e1
      exact t_and ((J0 m (Nat.le_refl m) n').t O h1 k1) ((J0 m (Nat.le_refl m) n').at_ O h2 k2) O.w
    · cases e1
    · cases e1
    · exact absurd rfl (n1 _ _)
theorem j_ot (J0 : ∀ m', m' ≤ m → ∀ n, Jd ret K xs Φ n m') (O : Okx C ret K xs Φ W X sc) (h : cOr C n sc es = some e) (hk : ckt ret (m + 1) e T = some T') : PW X (.BoolOp .Or es pos) (tTst K Φ W e T T') := by
  rcases or_inv h with ⟨a, n', rfl, rfl, h1⟩ | ⟨a, b, r, n', x, y, rfl, rfl, rfl, h1, h2⟩
  · exact pw_or1 (j_t J0 O h1 hk)
  · rcases ckt_inv hk with ⟨a', b', e1, _⟩ | ⟨a', b', e1, k1, k2⟩ | ⟨a', e1, _⟩ | ⟨_, _, n1, _⟩
    · cases e1
    · cases e1
      exact t_or ((J0 m (Nat.le_refl m) n').t O h1 k1) ((J0 m (Nat.le_refl m) n').ot O h2 k2) O.w
    · cases e1
    · exact absurd rfl (n1 _ _)
/-- what is walked, as it is written -/
theorem i_walk {tg : Expr} (h : cItE C n sc tg x = some e) : (∃ n', n = n' + 1 ∧ cE C n' sc x = some e) ∨ ∃ n' f q as p es, n = n' + 1 ∧ x = .Call (.Name f q) as [] p ∧ bltIn C sc f = true ∧ cEs C n' sc as = some es ∧
    ((f = "range" ∧ (as.length = 1 ∨ as.length = 2) ∧ e = .bi .range es) ∨ (∃ el k tp, tg = .Tuple el k tp ∧ ((f = "enumerate" ∧ as.length = 1 ∧ e = .bi .enumerate es) ∨ (f = "zip" ∧ as.length = 2 ∧ e = .bi .zip es)))) := by
  cases n with
  | zero => cases h
  | succ n =>
    cases x with
    | Call fn as kws p =>
      cases fn with
      | Name f q =>
        cases kws with
        | nil =>
          have h : (if (bltIn C sc f && (decide (f = "range") || decide (f = "enumerate") || decide (f = "zip"))) = true then
              (if f = "range" then (if as.length = 1 ∨ as.length = 2 then (cEs C n sc as).map (E.bi .range) else none) else if isTup tg = true then (if f = "enumerate" then (if as.length = 1 then (cEs C n sc as).map (E.bi .enumerate) else none) else if as.length = 2 then (cEs C n sc as).map (E.bi .zip) else none) else none)
              else cE C n sc (.Call (.Name f q) as [] p)) = some e := h
          split at h
          · rename_i hb
            simp only [Bool.and_eq_true, Bool.or_eq_true, decide_eq_true_eq] at hb
            split at h
            · rename_i hf
              split at h
              · rename_i hl
                rw [Option.map_eq_some_iff] at h
                obtain ⟨es, h1, rfl⟩ := h
                exact .inr ⟨n, f, q, as, p, es, rfl, rfl, hb.1, h1, .inl ⟨hf, hl, rfl⟩⟩
              · cases h
            · rename_i hnr
              split at h
              · rename_i ht
                obtain ⟨el, k, tp, etg⟩ : ∃ el k tp, tg = .Tuple el k tp := by cases tg <;> first | exact ⟨_, _, _, rfl⟩ | cases ht
                split at h
                · rename_i hf
                  split at h
                  · rename_i hl
                    rw [Option.map_eq_some_iff] at h
                    obtain ⟨es, h1, rfl⟩ := h
                    exact .inr ⟨n, f, q, as, p, es, rfl, rfl, hb.1, h1, .inr ⟨el, k, tp, etg, .inl ⟨hf, hl, rfl⟩⟩⟩
                  · cases h
                · rename_i hne
                  split at h
                  · rename_i hl
                    rw [Option.map_eq_some_iff] at h
                    obtain ⟨es, h1, rfl⟩ := h
                    refine .inr ⟨n, f, q, as, p, es, rfl, rfl, hb.1, h1, .inr ⟨el, k, tp, etg, .inr ⟨?_, hl, rfl⟩⟩⟩
                    rcases hb.2 with (h | h) | h
                    · exact absurd h hnr
                    · exact absurd h hne
                    · exact h
                  · cases h
              · cases h
          · exact .inl ⟨n, rfl, h⟩
        | cons _ _ => exact .inl ⟨n, rfl, h⟩
      | _ => exact .inl ⟨n, rfl, h⟩
    | _ => exact .inl ⟨n, rfl, h⟩
theorem j_it {tg : Expr} (J0 : ∀ m', m' ≤ m → ∀ n, Jd ret K xs Φ n m') (O : Okx C ret K xs Φ W X sc) (h : cItE C n sc tg x = some e) (hk : ckc ret (m + 1) e T = some (t, T')) : PI X tg x (tIt K Φ W false e T T') := by
  rcases i_walk h with ⟨n', rfl, h1⟩ | ⟨n', f, q, as, p, es, rfl, rfl, hb, h1, hw⟩
  · exact i_val O.hK (p_ofC (j_c J0 O h1 hk) O.w) O.w
  · obtain ⟨g1, g2⟩ := blt_ok hb
    have G := O.gl g1
    have M := O.blt _ g2
    have st := cEs_star h1
    have ln : ∀ (k : Nat), as.length = k → ∀ ρ p ds, ev Φ es ρ = .ok p → p.1 = .tuple ds → ds.length = k := fun k hl ρ p ds hp e => by
      obtain ⟨ds', e1, e2⟩ := cEs_len h1 hp
      rw [e] at e1; cases e1
      rw [e2, hl]
    rcases hw with ⟨rfl, hl, rfl⟩ | ⟨el, k, tp, rfl, ⟨rfl, hl, rfl⟩ | ⟨rfl, hl, rfl⟩⟩
    · obtain ⟨m', hm, k1⟩ := bi_ckc hk
      have P := ps_ofC (j_cs (fun a ha => J0 a (by omega)) O h1 k1) O.w
      rcases hl with hl | hl
      · match as, hl with
        | [a], _ => exact i_range1 G M P O.w (st a (by simp)) (ln 1 rfl)
      · match as, hl with
        | [a, b], _ => exact i_range2 G M P O.w (st a (by simp)) (st b (by simp)) (ln 2 rfl)
    · obtain ⟨m', hm, k1⟩ := bi_ckc hk
      have P := ps_ofC (j_cs (fun a ha => J0 a (by omega)) O h1 k1) O.w
      match as, hl with
      | [a], _ => exact i_enum O.hK G M P O.w (st a (by simp)) (ln 1 rfl)
    · obtain ⟨m', hm, k1⟩ := bi_ckc hk
      have P := ps_ofC (j_cs (fun a ha => J0 a (by omega)) O h1 k1) O.w
      match as, hl with
      | [a, b], _ => exact i_zip O.hK G M P O.w (st a (by simp)) (st b (by simp)) (ln 2 rfl)
theorem jd (ret : Nat → Ow) (K : PySem.W.Frag) (xs : XS) (Φ : Calls) : ∀ m n, Jd ret K xs Φ n m := by
  intro m
  induction m using Nat.strongRecOn with
  | _ m ih =>
    intro n
    cases m with
    | zero => exact ⟨fun _ _ h => (by cases h), fun _ _ h => (by cases h), fun _ _ h => (by cases h), fun _ _ h => (by cases h), fun _ _ h => (by cases h), fun _ _ h => (by cases h), fun _ _ h => (by cases h), fun _ _ h => (by cases h), fun _ _ h => (by cases h), fun _ _ h => (by cases h), fun _ _ h => (by cases h)⟩
    | succ m =>
      have J0 : ∀ m', m' ≤ m → ∀ n, Jd ret K xs Φ n m' := fun m' h n => ih m' (by omega) n
      exact ⟨fun O h k => j_v J0 O j_tN h k, fun O h k => j_b J0 O h k, fun O h k => j_c J0 O h k, fun O h k => j_t J0 O h k, fun O h k => j_ls J0 O h k, fun O h k => j_fs J0 O h k, fun O h k => j_av J0 O h k, fun O h k => j_ov J0 O h k, fun O h k => j_at J0 O h k, fun O h k => j_ot J0 O h k, fun O h k => j_it J0 O h k⟩
end
end Rf
end

section
/-! Rf5a: statements as readings. -/
namespace Rf
open PySem PySem.Spec PyProof.Rows L2
/-- what is asked of a statement's outcome -/
def OutP (K : PySem.W.Frag) (W : Wx) (H0 G : Hp) (r : Ow) (o : Tyo) (D : Ends) : Out → Prop
  | .next ρ' => ∃ T', o.n = some T' ∧ ∀ σ' G' H' F', GS H0 G G' → SInv K H0 G' H' σ' ρ' T' F' → D.nx σ' H'
  | .brk ρ' => ∃ T', o.b = some T' ∧ ∀ σ' G' H' F', GS H0 G G' → SInv K H0 G' H' σ' ρ' T' F' → D.bk σ' H'
  | .cnt ρ' => ∃ T', o.c = some T' ∧ ∀ σ' G' H' F', GS H0 G G' → SInv K H0 G' H' σ' ρ' T' F' → D.ct σ' H'
  | .ret d => ∀ v G' H' Fv, GS H0 G G' → Same G' H' → Same H0 H' → R K G' H' r v d Fv → Fv.Nodup → (∀ a ∈ Fv, H0 a = none) → D.rt v H'
  | .exn c as => W c as H0
  | .stk => False
def tSt (K : PySem.W.Frag) (Φ : Calls) (W : Wx) (s : S) (r : Ow) (T : Ty1) (o : Tyo) : TS := fun D σ H => ∃ H0 G ρ F, SInv K H0 G H σ ρ T F ∧ OutP K W H0 G r o D (exec Φ s ρ)
section
variable {K : PySem.W.Frag} {Φ : Calls} {W : Wx} {X : Cx} {T T' T0 T1 T2 T3 : Ty1} {pos : Pos} {t u r : Ow} {o o' oa ob : Tyo} {H0 G G' H H' : Hp} {σ : L2.St} {ρ : Env} {F : Nat → List Addr} {D : Ends}
theorem OutP.out {α : Type} {x : Res α} {f : α → Out} (h : OutP K W H0 G r o D (x.out f)) : Pst W H0 x fun a => OutP K W H0 G r o D (f a) := by
  cases x <;> exact h
/-- from a later state -/
theorem OutP.later (g : GS H0 G G') {y : Out} (h : OutP K W H0 G r o D y) : OutP K W H0 G' r o D y := by
  cases y with
  | next ρ' => obtain ⟨T', e, k⟩ := h; exact ⟨T', e, fun σ' G2 H2 F2 g2 => k σ' G2 H2 F2 (g.trans g2)⟩
  | brk ρ' => obtain ⟨T', e, k⟩ := h; exact ⟨T', e, fun σ' G2 H2 F2 g2 => k σ' G2 H2 F2 (g.trans g2)⟩
  | cnt ρ' => obtain ⟨T', e, k⟩ := h; exact ⟨T', e, fun σ' G2 H2 F2 g2 => k σ' G2 H2 F2 (g.trans g2)⟩
  | ret d => exact fun v G2 H2 Fv g2 => h v G2 H2 Fv (g.trans g2)
  | exn c as => exact h
  | stk => exact h
/-- one type or a weaker one -/
def le (T T' : Ty1) : Prop := T = T' ∨ subs T T' = true
theorem SInv.le (I : SInv K H0 G H σ ρ T F) (h : Rf.le T T') : ∃ G' F', GS H0 G G' ∧ SInv K H0 G' H σ ρ T' F' := by
  rcases h with rfl | h
  · exact ⟨G, F, .refl _ _, I⟩
  · obtain ⟨G', F', g, I', _⟩ := I.weak h
    exact ⟨G', F', g, I'⟩
theorem jC_l {a b c : Option Ty1} (h : jC a b = some c) : (∀ T, a = some T → ∃ T', c = some T' ∧ Rf.le T T') ∧ ∀ T, b = some T → ∃ T', c = some T' ∧ Rf.le T T' := by
  cases a with
  | none => cases b <;> (cases h; exact ⟨fun T e => (by cases e), fun T e => ⟨T, e, .inl rfl⟩⟩)
  | some x =>
    cases b with
    | none => cases h; exact ⟨fun T e => ⟨T, e, .inl rfl⟩, fun T e => (by cases e)⟩
    | some y =>
      have h : (if x.length = y.length then some (some (joins x y)) else none) = some c := h
      split at h
      · rename_i hl
        cases h
        obtain ⟨j1, j2⟩ := joins_sub hl
        exact ⟨fun T e => (by cases e; exact ⟨_, rfl, .inr j1⟩), fun T e => (by cases e; exact ⟨_, rfl, .inr j2⟩)⟩
      · cases h
/-- a weaker account of where it goes on -/
structure Tle (o o' : Tyo) : Prop where
  n : ∀ T, o.n = some T → ∃ T', o'.n = some T' ∧ le T T'
  b : ∀ T, o.b = some T → ∃ T', o'.b = some T' ∧ le T T'
  c : ∀ T, o.c = some T → ∃ T', o'.c = some T' ∧ le T T'
/-- an outcome fits an account -/
def fits (o : Tyo) : Out → Prop
  | .next _ => o.n ≠ none
  | .brk _ => o.b ≠ none
  | .cnt _ => o.c ≠ none
  | _ => True
theorem OutP.weak (l : Tle o o') {y : Out} (f : fits o y) (h : OutP K W H0 G r o' D y) : OutP K W H0 G r o D y := by
  cases y with
  | next ρ' =>
    obtain ⟨T', e, k⟩ := h
    cases e1 : o.n with
    | none => exact absurd e1 f
    | some T =>
      obtain ⟨T2, e2, l2⟩ := l.n T e1
      rw [e] at e2; cases e2
      refine ⟨T, e1, fun σ' G2 H2 F2 g2 I2 => ?_⟩
      obtain ⟨G3, F3, g3, I3⟩ := I2.le l2
      exact k σ' G3 H2 F3 (g2.trans g3) I3
  | brk ρ' =>
    obtain ⟨T', e, k⟩ := h
    cases e1 : o.b with
    | none => exact absurd e1 f
    | some T =>
      obtain ⟨T2, e2, l2⟩ := l.b T e1
      rw [e] at e2; cases e2
      refine ⟨T, e1, fun σ' G2 H2 F2 g2 I2 => ?_⟩
      obtain ⟨G3, F3, g3, I3⟩ := I2.le l2
      exact k σ' G3 H2 F3 (g2.trans g3) I3
  | cnt ρ' =>
    obtain ⟨T', e, k⟩ := h
    cases e1 : o.c with
    | none => exact absurd e1 f
    | some T =>
      obtain ⟨T2, e2, l2⟩ := l.c T e1
      rw [e] at e2; cases e2
      refine ⟨T, e1, fun σ' G2 H2 F2 g2 I2 => ?_⟩
      obtain ⟨G3, F3, g3, I3⟩ := I2.le l2
      exact k σ' G3 H2 F3 (g2.trans g3) I3
  | ret d => exact h
  | exn c as => exact h
  | stk => exact h
/-! single statements -/
theorem r_pass : PS X (.Pass pos) (tSt K Φ W .skip r T ⟨some T, none, none⟩) :=
  ps_pass.wk fun D σ H ⟨H0, G, ρ, F, I, q⟩ => by
    obtain ⟨T', e, k⟩ := q
    cases e
    exact k σ G H F (.refl _ _) I
theorem r_brk : PS X (.Break pos) (tSt K Φ W .brk r T ⟨none, some T, none⟩) :=
  ps_break.wk fun D σ H ⟨H0, G, ρ, F, I, q⟩ => by
    obtain ⟨T', e, k⟩ := q
    cases e
    exact k σ G H F (.refl _ _) I
theorem r_cnt : PS X (.Continue pos) (tSt K Φ W .cnt r T ⟨none, none, some T⟩) :=
  ps_continue.wk fun D σ H ⟨H0, G, ρ, F, I, q⟩ => by
    obtain ⟨T', e, k⟩ := q
    cases e
    exact k σ G H F (.refl _ _) I
theorem r_ret {x : Expr} {e : E} (h : PE X x (tEv K Φ W e T T' t)) (w : WOk W) (hs : sub1 t r = true) : PS X (.Return (some x) pos) (tSt K Φ W (.ret e) r T ⟨none, none, none⟩) := by
  refine (ps_ret (pos := pos) h).wk fun D σ H ⟨H0, G, ρ, F, I, q⟩ => ⟨H0, G, ρ, F, I, (OutP.out q).imp w (Same.refl _) fun p _ k v G1 H1 F1 Fv g1 s1 I1 r1 o1 => ?_⟩
  obtain ⟨G2, Fw, g2, I2, r2, o2⟩ := R.weakT I1 r1 o1 hs
  exact k v G2 H1 Fw (g1.trans g2) I2.gh I2.h0 r2 o2.nd o2.fr
theorem r_retN (hs : sub1 .fz r = true) : PS X (.Return none pos) (tSt K Φ W (.ret (.lit .none)) r T ⟨none, none, none⟩) := by
  refine (ps_retN (pos := pos)).wk fun D σ H ⟨H0, G, ρ, F, I, q⟩ => ?_
  obtain ⟨G2, Fw, g2, I2, r2, o2⟩ := R.weakT (t := .fz) (v := .non) (d := .none) (Fv := []) I ⟨rfl, .non⟩ (.nil _ _) hs
  exact q .non G2 H Fw g2 I2.gh I2.h0 r2 o2.nd o2.fr
theorem r_expr {x : Expr} {e : E} (h : PE X x (tEv K Φ W e T T' t)) (w : WOk W) (hs : swapsWith x none pos.line X.env = pure false) : PS X (.Expr x pos) (tSt K Φ W (.ex e) r T ⟨some T', none, none⟩) := by
  refine (ps_expr h hs).wk fun D σ H ⟨H0, G, ρ, F, I, q⟩ => ⟨H0, G, ρ, F, I, (OutP.out q).imp w (Same.refl _) fun p _ k v G1 H1 F1 Fv g1 s1 I1 r1 o1 => ?_⟩
  obtain ⟨T', e, k⟩ := k
  cases e
  exact k σ G1 H1 F1 g1 I1
/-- a value, then its target -/
theorem asg_rd {e tg : E} (w : WOk W) (h : tSt K Φ W (.asg tg e) r T ⟨some T2, none, none⟩ D σ H) : tEv K Φ W e T T1 t σ H fun x H1 => tTg K Φ W tg t T1 T2 x σ H1 D.nx := by
  obtain ⟨H0, G, ρ, F, I, q⟩ := h
  refine ⟨H0, G, ρ, F, I, (OutP.out q).imp w (Same.refl _) fun p _ k v G1 H1 F1 Fv g1 s1 I1 r1 o1 => ⟨H0, G1, p.2, F1, Fv, p.1, I1, r1, o1, (OutP.out k).imp w (Same.refl _) fun ρ' _ k σ' G2 H2 F2 g2 _ I2 => ?_⟩⟩
  obtain ⟨T', e, k⟩ := k
  cases e
  exact k σ' G2 H2 F2 (g1.trans g2) I2
theorem r_set {y : Str} {py : Pos} {i : Nat} {x : Expr} {e : E} (hN : X.N.Nodup) (hi : X.N[i]? = some y) (hx : Loc X.env.scope y) (hf : X.fn y = true ∨ X.env.scope.names.lookup y = some .local) (h : PE X x (tEv K Φ W e T T1 t)) (w : WOk W) (hl : i < T1.length) (hs : swapsWith x (some (.Name y py)) pos.line X.env = pure false) :
    PS X (.Assign [.Name y py] x pos) (tSt K Φ W (.asg (.var i) e) r T ⟨some (T1.set i t), none, none⟩) := by
  refine (ps_set hN hi hx h hs hf).wk fun D σ H q => ?_
  obtain ⟨H0, G, ρ, F, I, q⟩ := asg_rd (T1 := T1) (t := t) w q
  refine ⟨H0, G, ρ, F, I, q.map fun p _ k v G1 H1 F1 Fv g1 s1 I1 r1 o1 => ?_⟩
  obtain ⟨H0', G', ρ', F', Fv', d, I', r', o', q⟩ := k v G1 H1 F1 Fv g1 s1 I1 r1 o1
  have q : Pst W H0' (if i < ρ'.length then Res.ok (ρ'.set i (some d)) else .stk) _ := q
  rw [if_pos (by rw [← I'.lt]; exact hl)] at q
  exact q _ G' H1 _ (.refl _ _) (fun is e => ⟨rfl, fun j hj => by cases e; exact List.getElem?_set_ne fun z => hj (by simp [z])⟩) (I'.set (by rw [← I'.lt]; exact hl) r' o')
theorem r_asg {tg x : Expr} {e et : E} (h : PE X x (tEv K Φ W e T T1 t)) (hg : PG X tg (tTg K Φ W et t T1 T2)) (w : WOk W) (hs : swapsWithSole [tg] x pos.line X.env = pure false) (hw : swappedStores [tg] x X.env = pure none) (h1 : (assignEach [tg] X.env).map (·.2) = [assign tg X.env]) :
    PS X (.Assign [tg] x pos) (tSt K Φ W (.asg et e) r T ⟨some T2, none, none⟩) :=
  (ps_asg h hg hs hw h1).wk fun D σ H q => asg_rd w q
theorem r_if {c : Expr} {a b : List Stmt} {ec : E} {sa sb : S} (hc : PT X c (tTst K Φ W ec T T1)) (ha : PSs X a (tSt K Φ W sa r T1 oa)) (hb : PSs X b (tSt K Φ W sb r T1 ob)) (w : WOk W) (la : Tle oa o) (lb : Tle ob o) (fa : ∀ ρ, fits oa (exec Φ sa ρ)) (fb : ∀ ρ, fits ob (exec Φ sb ρ)) :
    PS X (.If c a b pos) (tSt K Φ W (.ite ec sa sb) r T o) := by
  refine (ps_if (pos := pos) hc ha hb).wk fun D σ H ⟨H0, G, ρ, F, I, q⟩ => ⟨H0, G, ρ, F, I, (OutP.out q).imp w (Same.refl _) fun p _ k G1 H1 F1 g1 s1 I1 => ?_⟩
  obtain ⟨d, ρ1⟩ := p
  by_cases ht : truth d = true
  · rw [if_pos ht]
    have k : OutP K W H0 G r o D (if truth d = true then exec Φ sa ρ1 else exec Φ sb ρ1) := k
    rw [if_pos ht] at k
    exact ⟨H0, G1, ρ1, F1, I1, (k.weak la (fa ρ1)).later g1⟩
  · rw [if_neg ht]
    have k : OutP K W H0 G r o D (if truth d = true then exec Φ sa ρ1 else exec Φ sb ρ1) := k
    rw [if_neg ht] at k
    exact ⟨H0, G1, ρ1, F1, I1, (k.weak lb (fb ρ1)).later g1⟩
/-- one statement, then the others -/
theorem r_seq {st : Stmt} {rest : List Stmt} {a b : S} {p : Tyo} (ha : PS X st (tSt K Φ W a r T oa)) (hn : oa.n = some T1) (hb : PSs X rest (tSt K Φ W b r T1 p)) (fa : ∀ ρ, fits oa (exec Φ a ρ)) (fb : ∀ ρ, fits p (exec Φ b ρ)) (lb : Tle p o)
    (l2 : ∀ T, oa.b = some T → ∃ T', o.b = some T' ∧ le T T') (l3 : ∀ T, oa.c = some T → ∃ T', o.c = some T' ∧ le T T') : PSs X (st :: rest) (tSt K Φ W (.seq a b) r T o) := by
  refine ⟨fun pins s σ H D I h => (pss_cons ha hb).run pins s σ H D I ?_⟩
  obtain ⟨H0, G, ρ, F, I, q⟩ := h
  refine ⟨H0, G, ρ, F, I, ?_⟩
  have q : OutP K W H0 G r o D ((exec Φ a ρ).thn fun ρ => exec Φ b ρ) := q
  have fa := fa ρ
  cases e : exec Φ a ρ with
  | next ρ1 =>
    rw [e] at q
    exact ⟨T1, hn, fun σ' G' H' F' g I' => ⟨H0, G', ρ1, F', I', ((show OutP K W H0 G r o D (exec Φ b ρ1) from q).weak lb (fb ρ1)).later g⟩⟩
  | brk ρ1 => rw [e] at q fa; exact OutP.weak (K := K) (W := W) (H0 := H0) (G := G) (r := r) (o := oa) (o' := ⟨oa.n, o.b, o.c⟩) (y := .brk ρ1) ⟨fun T e => ⟨T, e, .inl rfl⟩, l2, l3⟩ fa q
  | cnt ρ1 => rw [e] at q fa; exact OutP.weak (K := K) (W := W) (H0 := H0) (G := G) (r := r) (o := oa) (o' := ⟨oa.n, o.b, o.c⟩) (y := .cnt ρ1) ⟨fun T e => ⟨T, e, .inl rfl⟩, l2, l3⟩ fa q
  | ret d => rw [e] at q; exact q
  | exn c as => rw [e] at q; exact q
  | stk => rw [e] at q; exact q
/-- .. when it does not go on -/
theorem r_seq0 {st : Stmt} {rest : List Stmt} {a b : S} (ha : PS X st (tSt K Φ W a r T oa)) (hn : oa.n = none) (fa : ∀ ρ, fits oa (exec Φ a ρ)) : PSs X (st :: rest) (tSt K Φ W (.seq a b) r T oa) := by
  refine ⟨fun pins s σ H D I h => (pss_cons ha (pss_never (sts := rest))).run pins s σ H D I ?_⟩
  obtain ⟨H0, G, ρ, F, I, q⟩ := h
  refine ⟨H0, G, ρ, F, I, ?_⟩
  have q : OutP K W H0 G r oa D ((exec Φ a ρ).thn fun ρ => exec Φ b ρ) := q
  have fa := fa ρ
  cases e : exec Φ a ρ with
  | next ρ1 => rw [e] at fa; exact absurd hn fa
  | brk ρ1 => rw [e] at q; exact q
  | cnt ρ1 => rw [e] at q; exact q
  | ret d => rw [e] at q; exact q
  | exn c as => rw [e] at q; exact q
  | stk => rw [e] at q; exact q
theorem r_nil : PSs X [] (tSt K Φ W .skip r T ⟨some T, none, none⟩) :=
  ⟨fun pins s σ H D I h => pss_nil.run pins s σ H D I (by
    obtain ⟨H0, G, ρ, F, I, q⟩ := h
    obtain ⟨T', e, k⟩ := q
    cases e
    exact k σ G H F (.refl _ _) I)⟩
/-- x += e, x -= e of ints -/
theorem r_aug {y : Str} {py : Pos} {i : Nat} {x : Expr} {e : E} {op : Operator} {bo : BOp} (hN : X.N.Nodup) (hi : X.N[i]? = some y) (hx : Loc X.env.scope y) (hf : X.fn y = true ∨ X.env.scope.names.lookup y = some .local) (h : PE X x (tEvD K Φ W e T T1)) (w : WOk W) (hp : pur e = true) (hl : i < T1.length)
    (ho : (op = .Add ∧ bo = .add) ∨ (op = .Sub ∧ bo = .sub)) (ht : T[i]? = some .fz ∨ T[i]? = some (.lst .fz)) : PS X (.AugAssign (.Name y py) op x pos) (tSt K Φ W (.aug i bo e) r T ⟨some (T1.set i .fz), none, none⟩) := by
  have key : ∀ (f : Int → Int → Int), (∀ a b : D, ∀ d, augD bo a b = .ok d → ∃ k l, a = .int k ∧ b = .int l ∧ d = .int (f k l)) → ∀ D σ H, tSt K Φ W (.aug i bo e) r T ⟨some (T1.set i .fz), none, none⟩ D σ H → tAug i (tEvD K Φ W e T T1) (ipI f) D σ H := fun f hfun D σ H ⟨H0, G, ρ, F, I, q⟩ => by
    have q : OutP K W H0 G r ⟨some (T1.set i .fz), none, none⟩ D ((getS ρ i).out fun x => (ev Φ e ρ).out fun p => (augD bo x p.1).out fun d => .next (p.2.set i (some d))) := q
    obtain ⟨d, ed, q⟩ := getS_inv (OutP.out q)
    have rv : ∃ v, σ[i]? = some (some v) ∧ ∃ t Fv, (t = Ow.fz ∨ t = .lst .fz) ∧ R K G H t v d Fv := by
      rcases ht with h | h
      · obtain ⟨v, h1, h2⟩ := I.sl i _ d h (by simp) ed
        exact ⟨v, h1, _, _, .inl rfl, h2⟩
      · obtain ⟨v, h1, h2⟩ := I.sl i _ d h (by simp) ed
        exact ⟨v, h1, _, _, .inr rfl, h2⟩
    obtain ⟨v, hv, t, Fv, ht, rr⟩ := rv
    refine ⟨v, hv, H0, G, ρ, F, I, (OutP.out q).imp w (Same.refl _) fun p ep k u G1 H1 F1 g1 s1 I1 fu => ?_⟩
    have k2 := OutP.out k
    clear k
    cases ea : augD bo d p.1 with
    | ok z =>
      rw [ea] at k2
      obtain ⟨a, b, e1, e2, rfl⟩ := hfun _ _ _ ea
      subst e1
      rw [e2] at fu
      cases fu
      have ev : v = .int a := by
        rcases ht with rfl | rfl
        · have := rr.2; cases this; rfl
        · rcases rr with ⟨_, _, _, _, _, e, _⟩ | ⟨_, _, f, _⟩
          · cases e
          · cases f; rfl
      subst ev
      obtain ⟨T', e3, k3⟩ := k2
      cases e3
      exact ⟨a, b, rfl, rfl, k3 _ G1 H1 _ g1 (I1.set (by rw [← I1.lt]; exact hl) ⟨rfl, .int _⟩ (.nil _ _))⟩
    | exn c as => rcases ho with ⟨_, rfl⟩ | ⟨_, rfl⟩ <;> (unfold augD at ea; split at ea <;> cases ea)
    | stk => rw [ea] at k2; exact k2.elim
  rcases ho with ⟨rfl, rfl⟩ | ⟨rfl, rfl⟩
  · exact (ps_aug hN hi hx h ip_add hf).wk (key _ fun a b d hd => by
      unfold augD at hd
      split at hd
      · cases hd; exact ⟨_, _, rfl, rfl, rfl⟩
      · rename_i h; cases h
      · cases hd)
  · exact (ps_aug hN hi hx h ip_sub hf).wk (key _ fun a b d hd => by
      unfold augD at hd
      split at hd
      · rename_i h; cases h
      · cases hd; exact ⟨_, _, rfl, rfl, rfl⟩
      · cases hd)
/-- a while -/
theorem r_while {c : Expr} {body : List Stmt} {ec : E} {sb : S} {ob : Tyo} {Tq : Option Ty1} (po : PassesOwn (model X.prog X.w) X.A X.env X.xe) (hc : PT X c (tTst K Φ W ec T T1)) (hb : PSs X body (tSt K Φ W sb r T1 ob)) (w : WOk W) (fb : ∀ ρ, fits ob (exec Φ sb ρ))
    (ln : ∀ T', ob.n = some T' → le T' T) (lc : ∀ T', ob.c = some T' → le T' T) (hj : jC (some T1) ob.b = some Tq) : PS X (.While c body [] pos) (tSt K Φ W (.wh ec sb) r T ⟨Tq, none, none⟩) := by
  obtain ⟨j1, j2⟩ := jC_l hj
  refine (ps_while (pos := pos) po hc hb).wk fun D σ H ⟨H0, G, ρ, F, I, q⟩ => ?_
  -- the turns that are left
  refine ⟨fun n σ H => ∃ G ρ F, SInv K H0 G H σ ρ T F ∧ OutP K W H0 G r ⟨Tq, none, none⟩ D (loopW (ev Φ ec) (exec Φ sb) n ρ), ⟨wturns, G, ρ, F, I, q⟩, fun n σ H ⟨G, ρ, F, I, q⟩ => ?_⟩
  cases n with
  | zero => exact (q : False).elim
  | succ n =>
    refine ⟨H0, G, ρ, F, I, (OutP.out q).imp w (Same.refl _) fun p _ k G1 H1 F1 g1 s1 I1 => ?_⟩
    obtain ⟨d, ρ1⟩ := p
    have k : OutP K W H0 G r ⟨Tq, none, none⟩ D (if truth d = true then match exec Φ sb ρ1 with
      | .next ρ2 => loopW (ev Φ ec) (exec Φ sb) n ρ2
      | .cnt ρ2 => loopW (ev Φ ec) (exec Φ sb) n ρ2
      | .brk ρ2 => .next ρ2
      | o => o else .next ρ1) := k
    by_cases ht : truth d = true
    · rw [if_pos ht] at k ⊢
      refine ⟨fun σ' H' => ∃ G ρ F, SInv K H0 G H' σ' ρ T F ∧ OutP K W H0 G r ⟨Tq, none, none⟩ D (loopW (ev Φ ec) (exec Φ sb) n ρ), fun σ' H' h => ⟨n, by omega, h⟩, H0, G1, ρ1, F1, I1, ?_⟩
      have fb := fb ρ1
      have k := k.later g1
      cases e : exec Φ sb ρ1 with
      | next ρ2 =>
        rw [e] at k fb
        cases en : ob.n with
        | none => exact absurd en fb
        | some T' =>
          refine ⟨T', en, fun σ' G' H' F' g I' => ?_⟩
          obtain ⟨G2, F2, g2, I2⟩ := I'.le (ln T' en)
          exact ⟨G2, ρ2, F2, I2, OutP.later (g.trans g2) k⟩
      | cnt ρ2 =>
        rw [e] at k fb
        cases en : ob.c with
        | none => exact absurd en fb
        | some T' =>
          refine ⟨T', en, fun σ' G' H' F' g I' => ?_⟩
          obtain ⟨G2, F2, g2, I2⟩ := I'.le (lc T' en)
          exact ⟨G2, ρ2, F2, I2, OutP.later (g.trans g2) k⟩
      | brk ρ2 =>
        rw [e] at k fb
        cases en : ob.b with
        | none => exact absurd en fb
        | some T' =>
          obtain ⟨T2, e2, l2⟩ := j2 T' en
          obtain ⟨T3, e3, k⟩ := k
          have e3 : Tq = some T3 := e3
          rw [e2] at e3; cases e3
          refine ⟨T', en, fun σ' G' H' F' g I' => ?_⟩
          obtain ⟨G2, F2, g2, I2⟩ := I'.le l2
          exact k σ' G2 H' F2 (g.trans g2) I2
      | ret d => rw [e] at k; exact k
      | exn c as => rw [e] at k; exact k
      | stk => rw [e] at k; exact k
    · rw [if_neg ht] at k ⊢
      obtain ⟨T2, e2, l2⟩ := j1 T1 rfl
      obtain ⟨T3, e3, k⟩ := k
      have e3 : Tq = some T3 := e3
      rw [e2] at e3; cases e3
      obtain ⟨G2, F2, g2, I2⟩ := I1.le l2
      exact k σ G2 H1 F2 (g1.trans g2) I2
/-- a for -/
theorem r_for {tg it : Expr} {body : List Stmt} {ei et : E} {sb : S} {ob : Tyo} {Tq : Option Ty1} {Ta : Ty1} (po : PassesOwn (model X.prog X.w) X.A X.env X.xe) (hc : X.calm = true) (hi : PI X tg it (tIt K Φ W true ei T Ta)) (hg : PG X tg (tTg K Φ W et .fz T1 T2)) (hb : PSs X body (tSt K Φ W sb r T2 ob)) (w : WOk W)
    (fb : ∀ ρ, fits ob (exec Φ sb ρ)) (la : le Ta T1) (ln : ∀ T', ob.n = some T' → le T' T1) (lc : ∀ T', ob.c = some T' → le T' T1) (hj : jC (some T1) ob.b = some Tq) (hf : ∀ x, foldedSetIterable it X.env x = pure x) : PS X (.For tg it body [] pos) (tSt K Φ W (.for_ et ei sb) r T ⟨Tq, none, none⟩) := by
  obtain ⟨j1, j2⟩ := jC_l hj
  refine (ps_for (pos := pos) po hc hi hg hb hf).wk fun D σ H ⟨H0, G, ρ, F, I, q⟩ => ?_
  refine ⟨H0, G, ρ, F, I, (OutP.out q).imp w (Same.refl _) fun p _ q => (OutP.out q).imp w (Same.refl _) fun ds _ q J G1 H1 F1 g1 s1 I1 itk => ?_⟩
  obtain ⟨G2, F2, g2, I2⟩ := I1.le la
  refine ⟨fun i m σ H => ∃ G ρ F, GS H0 G1 G ∧ m = ds.length - i ∧ i ≤ ds.length ∧ SInv K H0 G H σ ρ T1 F ∧ OutP K W H0 G r ⟨Tq, none, none⟩ D (loopF (asgn Φ et) (exec Φ sb) (ds.drop i) ρ), ⟨_, G2, p.2, F2, g2, rfl, Nat.zero_le _, I2, OutP.later (g1.trans g2) q⟩, fun i m σ H ⟨G3, ρ3, F3, g3, em, hi, I3, q⟩ => ?_⟩
  have sB : Same (Bs true G1 H1) H := by
    have h : Same G1 H := g3.same.trans I3.gh
    exact h
  by_cases hie : ds.length ≤ i
  · refine .inl ⟨itk.stop i H sB hie, ?_⟩
    rw [List.drop_of_length_le hie] at q
    obtain ⟨T2', e2, l2⟩ := j1 T1 rfl
    obtain ⟨T3, e3, k⟩ := q
    have e3 : Tq = some T3 := e3
    rw [e2] at e3; cases e3
    obtain ⟨G4, F4, g4, I4⟩ := I3.le l2
    exact k σ G4 H F4 g4 I4
  · have hlt : i < ds.length := by omega
    have hd : ds[i]? = some ds[i] := List.getElem?_eq_getElem hlt
    rw [List.drop_eq_getElem_cons hlt] at q
    refine .inr ⟨itk.go i H sB hlt, fun σ' H' => ∃ G ρ F, GS H0 G1 G ∧ SInv K H0 G H' σ' ρ T1 F ∧ OutP K W H0 G r ⟨Tq, none, none⟩ D (loopF (asgn Φ et) (exec Φ sb) (ds.drop (i + 1)) ρ), fun σ' H' ⟨G, ρ, F, h1, h2, h3⟩ => ⟨m - 1, by omega, G, ρ, F, h1, by omega, by omega, h2, h3⟩, fun x H' hy => ?_⟩
    obtain ⟨G4, g4, I4, fx, _, _⟩ := yld_in (Fv := []) itk g3.same I3 sB hy hd (by simp)
    refine ⟨H0, G4, ρ3, F3, [], ds[i], I4, ⟨rfl, fx⟩, .nil _ _, (OutP.out q).imp w (Same.refl _) fun ρ5 _ k σ5 G5 H5 F5 g5 _ I5 => ⟨H0, G5, ρ5, F5, I5, ?_⟩⟩
    have k := OutP.later (g4.trans g5) k
    have fb := fb ρ5
    have gg := (g3.trans g4).trans g5
    cases e : exec Φ sb ρ5 with
    | next ρ2 =>
      rw [e] at k fb
      cases en : ob.n with
      | none => exact absurd en fb
      | some T' =>
        refine ⟨T', en, fun σ' G' H' F' g I' => ?_⟩
        obtain ⟨G6, F6, g6, I6⟩ := I'.le (ln T' en)
        exact ⟨G6, ρ2, F6, (gg.trans g).trans g6, I6, OutP.later (g.trans g6) k⟩
    | cnt ρ2 =>
      rw [e] at k fb
      cases en : ob.c with
      | none => exact absurd en fb
      | some T' =>
        refine ⟨T', en, fun σ' G' H' F' g I' => ?_⟩
        obtain ⟨G6, F6, g6, I6⟩ := I'.le (lc T' en)
        exact ⟨G6, ρ2, F6, (gg.trans g).trans g6, I6, OutP.later (g.trans g6) k⟩
    | brk ρ2 =>
      rw [e] at k fb
      cases en : ob.b with
      | none => exact absurd en fb
      | some T' =>
        obtain ⟨T2', e2, l2⟩ := j2 T' en
        obtain ⟨T3, e3, k⟩ := k
        have e3 : Tq = some T3 := e3
        rw [e2] at e3; cases e3
        refine ⟨T', en, fun σ' G' H' F' g I' => ?_⟩
        obtain ⟨G6, F6, g6, I6⟩ := I'.le l2
        exact k σ' G6 H' F6 (g.trans g6) I6
    | ret d => rw [e] at k; exact k
    | exn c as => rw [e] at k; exact k
    | stk => rw [e] at k; exact k
end
end Rf
end

section
/-! Rf5b: statements: the check turned round; an outcome fits its account. -/
namespace Rf
open PySem PySem.Spec PyProof.Rows L2
theorem jC_none {a b c : Option Ty1} (h : jC a b = some c) : (a ≠ none → c ≠ none) ∧ (b ≠ none → c ≠ none) := by
  obtain ⟨h1, h2⟩ := jC_l h
  refine ⟨fun n => ?_, fun n => ?_⟩
  · cases a with
    | none => exact absurd rfl n
    | some x => obtain ⟨y, e, _⟩ := h1 x rfl; rw [e]; simp
  · cases b with
    | none => exact absurd rfl n
    | some x => obtain ⟨y, e, _⟩ := h2 x rfl; rw [e]; simp
section
variable {Φ : Calls} {ret : Nat → Ow} {r : Ow} {n k : Nat} {T T0 T' : Ty1} {o : Tyo}
theorem i_seq {a b : S} (h : ckS ret r (n + 1) (.seq a b) T = some o) : ∃ oa, ckS ret r n a T = some oa ∧ ((oa.n = none ∧ o = oa) ∨ ∃ T1 p b' c, oa.n = some T1 ∧ ckS ret r n b T1 = some p ∧ jC oa.b p.b = some b' ∧ jC oa.c p.c = some c ∧ o = ⟨p.n, b', c⟩) := by
  have h : ((ckS ret r n a T).bind fun o => match o.n with
      | some T1 => (ckS ret r n b T1).bind fun p => (jC o.b p.b).bind fun b' => (jC o.c p.c).map fun c => (⟨p.n, b', c⟩ : Tyo)
      | none => some o) = some o := h
  rw [Option.bind_eq_some_iff] at h
  obtain ⟨oa, h1, h2⟩ := h
  refine ⟨oa, h1, ?_⟩
  cases e : oa.n with
  | none => rw [e] at h2; cases h2; exact .inl ⟨rfl, rfl⟩
  | some T1 =>
    rw [e] at h2
    simp only [Option.bind_eq_some_iff, Option.map_eq_some_iff] at h2
    obtain ⟨p, h3, b', h4, c, h5, rfl⟩ := h2
    exact .inr ⟨T1, p, b', c, rfl, h3, h4, h5, rfl⟩
theorem i_if {c : E} {a b : S} (h : ckS ret r (n + 1) (.ite c a b) T = some o) : ∃ T1 x y n' b' c', ckB ret c T = some T1 ∧ ckS ret r n a T1 = some x ∧ ckS ret r n b T1 = some y ∧ jC x.n y.n = some n' ∧ jC x.b y.b = some b' ∧ jC x.c y.c = some c' ∧ o = ⟨n', b', c'⟩ := by
  have h : ((ckB ret c T).bind fun T => (ckS ret r n a T).bind fun x => (ckS ret r n b T).bind fun y => (jC x.n y.n).bind fun n => (jC x.b y.b).bind fun b' => (jC x.c y.c).map fun c => (⟨n, b', c⟩ : Tyo)) = some o := h
  simp only [Option.bind_eq_some_iff, Option.map_eq_some_iff] at h
  obtain ⟨T1, h1, x, h2, y, h3, n', h4, b', h5, c', h6, rfl⟩ := h
  exact ⟨T1, x, y, n', b', c', h1, h2, h3, h4, h5, h6, rfl⟩
theorem subO_ok {a : Option Ty1} {T : Ty1} (h : subO a T = true) : ∀ T', a = some T' → le T' T := fun T' e => by
  subst e
  have h : (decide (T' = T) || subs T' T) = true := h
  simp only [Bool.or_eq_true, decide_eq_true_eq] at h
  exact h
theorem i_while : ∀ {k n : Nat} {c : E} {b : S} {T : Ty1}, ckW ret r n k c b T0 T = some o → ∃ n' T2 T1 ob Tq, n' < n ∧ ckt ret 60 c T2 = some T1 ∧ ckS ret r n' b T1 = some ob ∧ (∀ T', ob.n = some T' → le T' T2) ∧ (∀ T', ob.c = some T' → le T' T2) ∧ le T0 T2 ∧ jC (some T1) ob.b = some Tq ∧ o = ⟨Tq, none, none⟩
  | 0, n, c, b, T, h => by cases n <;> cases h
  | k + 1, 0, c, b, T, h => by cases h
  | k + 1, n + 1, c, b, T, h => by
    have h : ((ckt ret 60 c T).bind fun T1 => (ckS ret r n b T1).bind fun o =>
      if (subO o.n T && subO o.c T && subO (some T0) T) = true then (jC (some T1) o.b).map fun x => (⟨x, none, none⟩ : Tyo)
      else ckW ret r n k c b T0 ((jO (jO (jO (some T) (some T1)) o.n) o.c).getD T)) = some o := h
    simp only [Option.bind_eq_some_iff] at h
    obtain ⟨T1, h1, ob, h2, h3⟩ := h
    split at h3
    · rename_i hc
      simp only [Bool.and_eq_true] at hc
      rw [Option.map_eq_some_iff] at h3
      obtain ⟨Tq, h4, rfl⟩ := h3
      exact ⟨n, T, T1, ob, Tq, by omega, h1, h2, subO_ok hc.1.1, subO_ok hc.1.2, subO_ok hc.2 T0 rfl, h4, rfl⟩
    · obtain ⟨n', q⟩ := i_while h3
      obtain ⟨T2, T1, ob, Tq, q1, q2⟩ := q
      exact ⟨n', T2, T1, ob, Tq, by omega, q2⟩
theorem i_for : ∀ {k n : Nat} {tg : E} {b : S} {T : Ty1}, ckF ret r n k tg b T0 T = some o → ∃ n' T1 T2 ob Tq, n' < n ∧ ckT ret 20 tg .fz T1 = some T2 ∧ ckS ret r n' b T2 = some ob ∧ (∀ T', ob.n = some T' → le T' T1) ∧ (∀ T', ob.c = some T' → le T' T1) ∧ le T0 T1 ∧ jC (some T1) ob.b = some Tq ∧ o = ⟨Tq, none, none⟩
  | 0, n, c, b, T, h => by cases n <;> cases h
  | k + 1, 0, c, b, T, h => by cases h
  | k + 1, n + 1, c, b, T, h => by
    have h : ((ckT ret 20 c .fz T).bind fun T1 => (ckS ret r n b T1).bind fun o =>
      if (subO o.n T && subO o.c T && subO (some T0) T) = true then (jC (some T) o.b).map fun x => (⟨x, none, none⟩ : Tyo)
      else ckF ret r n k c b T0 ((jO (jO (some T) o.n) o.c).getD T)) = some o := h
    simp only [Option.bind_eq_some_iff] at h
    obtain ⟨T1, h1, ob, h2, h3⟩ := h
    split at h3
    · rename_i hc
      simp only [Bool.and_eq_true] at hc
      rw [Option.map_eq_some_iff] at h3
      obtain ⟨Tq, h4, rfl⟩ := h3
      exact ⟨n, T, T1, ob, Tq, by omega, h1, h2, subO_ok hc.1.1, subO_ok hc.1.2, subO_ok hc.2 T0 rfl, h4, rfl⟩
    · obtain ⟨n', q⟩ := i_for h3
      obtain ⟨T2, T1, ob, Tq, q1, q2⟩ := q
      exact ⟨n', T2, T1, ob, Tq, by omega, q2⟩
theorem loopW_fits {c : Env → Res (D × Env)} {b : Env → Out} {Tq : Option Ty1} (hq : Tq ≠ none) : ∀ (n : Nat) (ρ : Env), fits ⟨Tq, none, none⟩ (loopW c b n ρ)
  | 0, _ => trivial
  | n + 1, ρ => by
    show fits _ ((c ρ).out fun p => if truth p.1 = true then match b p.2 with
      | .next ρ2 => loopW c b n ρ2
      | .cnt ρ2 => loopW c b n ρ2
      | .brk ρ2 => .next ρ2
      | o => o else .next p.2)
    cases c ρ with
    | ok p =>
      show fits _ (if truth p.1 = true then _ else _)
      split
      · cases e : b p.2 with
        | next ρ2 => exact loopW_fits hq n ρ2
        | cnt ρ2 => exact loopW_fits hq n ρ2
        | brk ρ2 => exact hq
        | ret d => trivial
        | exn c as => trivial
        | stk => trivial
      · exact hq
    | exn c as => trivial
    | stk => trivial
theorem loopF_fits {t : D → Env → Res Env} {b : Env → Out} {Tq : Option Ty1} (hq : Tq ≠ none) : ∀ (ds : List D) (ρ : Env), fits ⟨Tq, none, none⟩ (loopF t b ds ρ)
  | [], _ => hq
  | d :: ds, ρ => by
    show fits _ ((t d ρ).out fun ρ1 => match b ρ1 with
      | .next ρ2 => loopF t b ds ρ2
      | .cnt ρ2 => loopF t b ds ρ2
      | .brk ρ2 => .next ρ2
      | o => o)
    cases t d ρ with
    | ok ρ1 =>
      show fits _ (match b ρ1 with
      | .next ρ2 => loopF t b ds ρ2
      | .cnt ρ2 => loopF t b ds ρ2
      | .brk ρ2 => .next ρ2
      | o => o)
      cases e : b ρ1 with
      | next ρ2 => exact loopF_fits hq ds ρ2
      | cnt ρ2 => exact loopF_fits hq ds ρ2
      | brk ρ2 => exact hq
      | ret d => trivial
      | exn c as => trivial
      | stk => trivial
    | exn c as => trivial
    | stk => trivial
theorem fits_out {α : Type} {x : Res α} {f : α → Out} (h : ∀ a, fits o (f a)) : fits o (x.out f) := by
  cases x with
  | ok a => exact h a
  | exn c as => trivial
  | stk => trivial
theorem ck_fits (Φ : Calls) : ∀ {n : Nat} {s : S} {T : Ty1} {o : Tyo}, ckS ret r n s T = some o → ∀ ρ, fits o (exec Φ s ρ)
  | 0, _, _, _, h, _ => by cases h
  | n + 1, .skip, T, o, h, ρ => by cases h; exact fun e => by cases e
  | n + 1, .seq a b, T, o, h, ρ => by
    obtain ⟨oa, h1, ⟨e, rfl⟩ | ⟨T1, p, b', c, e1, h2, h3, h4, rfl⟩⟩ := i_seq h
    · have fa := ck_fits Φ h1 ρ
      show fits _ ((exec Φ a ρ).thn fun ρ => exec Φ b ρ)
      cases ea : exec Φ a ρ with
      | next ρ1 => rw [ea] at fa; exact absurd e fa
      | brk ρ1 => rw [ea] at fa; exact fa
      | cnt ρ1 => rw [ea] at fa; exact fa
      | ret d => trivial
      | exn c as => trivial
      | stk => trivial
    · have fa := ck_fits Φ h1 ρ
      show fits _ ((exec Φ a ρ).thn fun ρ => exec Φ b ρ)
      cases ea : exec Φ a ρ with
      | next ρ1 =>
        have fb := ck_fits Φ h2 ρ1
        show fits _ (exec Φ b ρ1)
        cases eb : exec Φ b ρ1 with
        | next ρ2 => rw [eb] at fb; exact fb
        | brk ρ2 => rw [eb] at fb; exact (jC_none h3).2 fb
        | cnt ρ2 => rw [eb] at fb; exact (jC_none h4).2 fb
        | ret d => trivial
        | exn c as => trivial
        | stk => trivial
      | brk ρ1 => rw [ea] at fa; exact (jC_none h3).1 fa
      | cnt ρ1 => rw [ea] at fa; exact (jC_none h4).1 fa
      | ret d => trivial
      | exn c as => trivial
      | stk => trivial
  | n + 1, .asg tg e, T, o, h, ρ => by
    have h : ((ck ret false 60 e T).bind fun p => (ckT ret 20 tg p.1 p.2).map fun T => (⟨some T, none, none⟩ : Tyo)) = some o := h
    simp only [Option.bind_eq_some_iff, Option.map_eq_some_iff] at h
    obtain ⟨_, _, _, _, rfl⟩ := h
    exact fits_out fun p => fits_out fun ρ' => fun e => by cases e
  | n + 1, .aug i op e, T, o, h, ρ => by
    have h : ((ckb ret 60 e T).bind fun p => if (pur e && decide (i < p.2.length) && augOk T[i]?) = true then some (⟨some (p.2.set i .fz), none, none⟩ : Tyo) else none) = some o := h
    rw [Option.bind_eq_some_iff] at h
    obtain ⟨p, _, h2⟩ := h
    split at h2
    · cases h2
      exact fits_out fun x => fits_out fun p => fits_out fun d => fun e => by cases e
    · cases h2
  | n + 1, .ex e, T, o, h, ρ => by
    have h : ((ck ret false 60 e T).map fun p => (⟨some p.2, none, none⟩ : Tyo)) = some o := h
    rw [Option.map_eq_some_iff] at h
    obtain ⟨_, _, rfl⟩ := h
    exact fits_out fun p => fun e => by cases e
  | n + 1, .ite c a b, T, o, h, ρ => by
    obtain ⟨T1, x, y, n', b', c', h1, h2, h3, h4, h5, h6, rfl⟩ := i_if h
    refine fits_out fun p => ?_
    show fits _ (if truth p.1 = true then exec Φ a p.2 else exec Φ b p.2)
    split
    · have fb := ck_fits Φ h2 p.2
      cases eb : exec Φ a p.2 with
      | next ρ2 => rw [eb] at fb; exact (jC_none h4).1 fb
      | brk ρ2 => rw [eb] at fb; exact (jC_none h5).1 fb
      | cnt ρ2 => rw [eb] at fb; exact (jC_none h6).1 fb
      | ret d => trivial
      | exn c as => trivial
      | stk => trivial
    · have fb := ck_fits Φ h3 p.2
      cases eb : exec Φ b p.2 with
      | next ρ2 => rw [eb] at fb; exact (jC_none h4).2 fb
      | brk ρ2 => rw [eb] at fb; exact (jC_none h5).2 fb
      | cnt ρ2 => rw [eb] at fb; exact (jC_none h6).2 fb
      | ret d => trivial
      | exn c as => trivial
      | stk => trivial
  | n + 1, .wh c b, T, o, h, ρ => by
    obtain ⟨n', T2, T1, ob, Tq, _, _, _, _, _, _, hj, rfl⟩ := i_while (show ckW ret r n 6 c b T T = some o from h)
    exact loopW_fits ((jC_none hj).1 (by simp)) _ _
  | n + 1, .for_ tg it b, T, o, h, ρ => by
    have h : ((ckI ret it T).bind fun T => ckF ret r n 6 tg b T T) = some o := h
    rw [Option.bind_eq_some_iff] at h
    obtain ⟨T3, _, h⟩ := h
    obtain ⟨n', T2, T1, ob, Tq, _, _, _, _, _, _, hj, rfl⟩ := i_for h
    exact fits_out fun p => fits_out fun xs => loopF_fits ((jC_none hj).1 (by simp)) _ _
  | n + 1, .ret e, T, o, h, ρ => by
    exact fits_out fun p => trivial
  | n + 1, .brk, T, o, h, ρ => by cases h; exact fun e => by cases e
  | n + 1, .cnt, T, o, h, ρ => by cases h; exact fun e => by cases e
  | n + 1, .each i j k, T, o, h, ρ => by
    have h : (if (decide (T[i]? = some (.lst (.lst .fz))) && decide (i ≠ j) && decide (j < T.length)) = true then some (⟨some ((T.set j .dead).set i (.lst (.lst .fz))), none, none⟩ : Tyo) else none) = some o := h
    split at h
    · cases h
      refine fits_out fun d => ?_
      unfold eachO
      split
      · split
        · exact fun e => by cases e
        · trivial
      · trivial
    · cases h
end
end Rf
end

section
/-! Rf5c: statements compiled; what is compiled and checked does what its data say. -/
namespace Rf
open PySem PySem.Spec PyProof.Rows L2
def isComp : Expr → Bool
  | .ListComp _ _ _ _ => true
  | .SetComp _ _ _ _ => true
  | .DictComp _ _ _ _ _ => true
  | _ => false
def isTupE : Expr → Bool
  | .Tuple _ _ _ => true
  | _ => false
/-- name = [..]: the new list is stored by the comprehension -/
def swB (sc : Scope) (y : Str) (py : Pos) (scope : Scope) (p : Pos) : Bool := (match sc.names.lookup y with | some .local => true | _ => false) && (py.line == p.line) && !(scope.names.any fun (n, k) => n == y && (k == .local || k == .cell))
def lcOk (sc : Scope) (y : Str) (py : Pos) : Expr → Bool
  | .ListComp _ _ _ _ => true
  | .DictComp _ _ _ scope p => !swB sc y py scope p
  | e => !isComp e
theorem sw_eq {y : Str} {py p : Pos} {scope : Scope} {env : PySem.Env} (hk : env.scope.kind = .function) : (env.blockKind == .function && env.kindOf y == some .local && py.line == p.line && !(scope.names.any fun (n, k) => n == y && (k == .local || k == .cell))) = swB env.scope y py scope p := by
  have hb : env.blockKind = .function := by unfold Env.blockKind; rw [hk]; rfl
  have e : (env.kindOf y == some .local) = (match env.scope.names.lookup y with | some .local => true | _ => false) := by
    show (env.scope.names.lookup y == some .local) = _
    cases env.scope.names.lookup y with
    | none => rfl
    | some k => cases k <;> rfl
  unfold swB
  rw [hb, e]
  rfl
theorem sw_falseL {elt : Expr} {gs : List Comprehension} {y : Str} {py p : Pos} {scope : Scope} {l : Nat} {env : PySem.Env} (hk : env.scope.kind = .function) (h : swB env.scope y py scope p = false) : swapsWith (.ListComp elt gs scope p) (some (.Name y py)) l env = pure false := by
  show (pure _ : Sem Bool) = _
  exact congrArg pure ((sw_eq hk).trans h)
theorem sw_falseD {kx vx : Expr} {gs : List Comprehension} {y : Str} {py p : Pos} {scope : Scope} {l : Nat} {env : PySem.Env} (hk : env.scope.kind = .function) (h : swB env.scope y py scope p = false) : swapsWith (.DictComp kx vx gs scope p) (some (.Name y py)) l env = pure false := by
  show (pure _ : Sem Bool) = _
  exact congrArg pure ((sw_eq hk).trans h)
def isLocal (sc : Scope) (x : Str) : Bool := match sc.names.lookup x with
  | some .local => true
  | _ => false
def isStarE : Expr → Bool
  | .Starred .. => true
  | _ => false
/-- x, y = a, b: names alone, stored from the right -/
def parOk (sc : Scope) : List Expr → List Expr → Bool
  | [.Name x px, .Name y py], [a, b] => isLocal sc x && isLocal sc y && (py.line == px.line) && !(x == y) && !isStarE a && !isStarE b && !(foldedForSure 8 a && foldedForSure 8 b) && !(constantsAlone 8 a && constantsAlone 8 b)
  | [.Name x px, .Name y py, .Name z pz], [a, b, c] => isLocal sc x && isLocal sc y && isLocal sc z && (py.line == px.line) && (pz.line == px.line) && !(x == y) && !(x == z) && !(y == z) && !isStarE a && !isStarE b && !isStarE c && !(foldedForSure 8 a && (foldedForSure 8 b && foldedForSure 8 c)) && !(constantsAlone 8 a && (constantsAlone 8 b && constantsAlone 8 c))
  | _, _ => false
/-- a tuple is given to a tuple: only in a form that is known -/
def tupOk (sc : Scope) (tg e : Expr) : Bool := match tg, e with
  | .Tuple ts _ _, .Tuple vs _ _ => parOk sc ts vs
  | _, _ => true
def cAsg (C : Cc) (sc : Scope) (tg e : Expr) : Option S := match tg with
  | .Name y py => if isLoc C sc y && lcOk sc y py e then (idxS y C.N 0).bind fun i => (cE C 60 sc e).map fun x => .asg (.var i) x else none
  | tg => if tupOk sc tg e = false then none else (cT C 20 sc tg).bind fun t => (cE C 60 sc e).map fun x => .asg t x
def augOp : Operator → Option BOp
  | .Add => some .add
  | .Sub => some .sub
  | _ => none
/-- for x in xs: x.append(k) -/
def eachS (C : Cc) (sc : Scope) : Expr → Expr → List Stmt → Option S
  | .Name x _, .Name l _, [.Expr (.Call (.Attribute (.Name x' _) m ap) [a] [] cp) _] =>
    if x' == x && m == "append" && isLoc C sc x && isVis sc x && okName x && isVis sc l && okName l && (ap.endLine == cp.line) then
      (idxS l C.N 0).bind fun i => (idxS x C.N 0).bind fun j => (cE C 60 sc a).bind fun e => match e with
        | .lit (.int k) => some (.each i j k)
        | _ => none
    else none
  | _, _, _ => none
mutual
def cS (C : Cc) : Nat → Scope → Stmt → Option S
  | 0, _, _ => none
  | _ + 1, _, .Pass _ => some .skip
  | _ + 1, _, .Break _ => some .brk
  | _ + 1, _, .Continue _ => some .cnt
  | _ + 1, _, .Return none _ => some (.ret (.lit .none))
  | _ + 1, sc, .Return (some e) _ => (cE C 60 sc e).map .ret
  | _ + 1, sc, .Expr e _ => if isComp e then none else (cE C 60 sc e).map .ex
  | _ + 1, sc, .Assign [tg] e _ => cAsg C sc tg e
  | _ + 1, sc, .AugAssign (.Name x _) o e _ => if isLoc C sc x then (idxS x C.N 0).bind fun i => (augOp o).bind fun o => (cE C 60 sc e).map fun y => .aug i o y else none
  | n + 1, sc, .If c a b _ => (cE C 60 sc c).bind fun z => (cSs C n sc a).bind fun x => (cSs C n sc b).map fun y => .ite z x y
  | n + 1, sc, .While c a [] _ => (cE C 60 sc c).bind fun z => (cSs C n sc a).map fun x => .wh z x
  | n + 1, sc, .For tg it a [] _ => match eachS C sc tg it a with
    | some s => some s
    | none => (cItE C 60 sc tg it).bind fun i => (cT C 20 sc tg).bind fun t => (cSs C n sc a).map fun x => .for_ t i x
  | _ + 1, _, _ => none
def cSs (C : Cc) : Nat → Scope → List Stmt → Option S
  | 0, _, _ => none
  | _ + 1, _, [] => some .skip
  | n + 1, sc, s :: r => (cS C n sc s).bind fun x => (cSs C n sc r).map fun y => .seq x y
end
section
variable {K : PySem.W.Frag} {Φ : Calls} {W : Wx} {X : Cx} {T T' T0 T1 T2 Ta Tm : Ty1} {pos : Pos} {t u r : Ow} {σ : L2.St} {H : Hp} {D : Ends}
theorem set_rd {e : E} {i : Nat} (w : WOk W) (hl : i < T1.length) (h : tSt K Φ W (.asg (.var i) e) r T ⟨some (T1.set i t), none, none⟩ D σ H) : tEv K Φ W e T T1 t σ H fun x H1 => gName i x σ H1 D.nx := by
  obtain ⟨H0, G, ρ, F, I, q⟩ := asg_rd (T1 := T1) (t := t) w h
  refine ⟨H0, G, ρ, F, I, q.map fun p _ k v G1 H1 F1 Fv g1 s1 I1 r1 o1 => ?_⟩
  obtain ⟨H0', G', ρ', F', Fv', d, I', r', o', q⟩ := k v G1 H1 F1 Fv g1 s1 I1 r1 o1
  have q : Pst W H0' (if i < ρ'.length then Res.ok (ρ'.set i (some d)) else .stk) _ := q
  rw [if_pos (by rw [← I'.lt]; exact hl)] at q
  exact q _ G' H1 _ (.refl _ _) (fun is e => ⟨rfl, fun j hj => by cases e; exact List.getElem?_set_ne fun z => hj (by simp [z])⟩) (I'.set (by rw [← I'.lt]; exact hl) r' o')
end
section
variable {ret : Nat → Ow} {K : PySem.W.Frag} {xs : XS} {Φ : Calls} {n m : Nat} {C : Cc} {W : Wx} {X : Cx} {sc : Scope} {x : Expr} {e : E} {T T' : Ty1} {t r : Ow} {pos : Pos}
/-! targets of any kind -/
mutual
theorem j_tT (O : Okx C ret K xs Φ W X sc) : ∀ {k n : Nat} {x : Expr} {e : E} {t : Ow} {T T' : Ty1}, cT C n sc x = some e → ckT ret k e t T = some T' → PG X x (tTg K Φ W e t T T')
  | 0, n, x, e, t, T, T', h, hk => by cases e <;> cases hk
  | k + 1, n, x, e, t, T, T', h, hk => by
    cases x with
    | Name y p =>
      obtain ⟨i, rfl, hl, hi⟩ := iT_name h
      have hk : (if i < T.length then some (T.set i t) else none) = some T' := hk
      split at hk
      · rename_i hlt; cases hk; exact g_name (g_ok O hl hi) hlt
      · cases hk
    | Tuple es j p =>
      obtain ⟨n', y, rfl, rfl, h1⟩ := iT_tup h
      obtain ⟨q1, q2, q3⟩ := cTs_len (X := X) h1
      cases t with
      | tup u => exact g_tup O.hK O.calm (j_tTs O (t := u) h1 hk) O.w (.inr rfl) q2 q3 q1
      | _ => exact g_tup O.hK O.calm (j_tTs O (t := .fz) h1 hk) O.w (.inl rfl) q2 q3 q1
    | Subscript o kx p =>
      obtain ⟨n', y, q, i, ek, rfl, rfl, hv, hn, hi, h1, hns, rfl⟩ := iT_sub h
      have ha : ∀ v, assign (.Subscript (.Name y q) kx p) X.env v = (do
          let ov ← holding [v] (eval (.Name y q) X.env)
          let iv ← holding [v, ov] (eval kx X.env)
          standAt p
          holding [v, ov, iv] (setItem ov iv v)
          release [v, ov, iv] []) := fun v => by
        cases kx <;> first | rfl | exact absurd rfl (hns _ _ _ _)
      have P := O.name (pos := q) hv hn hi
      have hk : (match T[i]? with
        | some (.lst c) => (ckb ret k ek T).bind fun p => if (pur ek && decide (p.2 = T) && sub1 (.lst c) (.lst (join c t)) && sub1 t (join c t)) = true then some (T.set i (.lst (join c t))) else none
        | some (.dct c) => (ckb ret k ek T).bind fun p => if (pur ek && decide (p.2 = T) && sub1 (.dct c) (.dct .fz) && sub1 t .fz) = true then some (T.set i (.dct .fz)) else none
        | _ => none) = some T' := hk
      split at hk
      · rename_i c hc
        rw [Option.bind_eq_some_iff] at hk
        obtain ⟨⟨tk, T1⟩, k1, k2⟩ := hk
        split at k2
        · rename_i hq
          simp only [Bool.and_eq_true, decide_eq_true_eq] at hq
          obtain ⟨⟨⟨c1, c2⟩, c3⟩, c4⟩ := hq
          subst c2
          cases k2
          exact g_subL O.hK P (s_toD ((jd ret K xs Φ k n').b O h1 k1) O.w) O.w c1 ha hc c3 c4
        · cases k2
      · rename_i c hc
        rw [Option.bind_eq_some_iff] at hk
        obtain ⟨⟨tk, T1⟩, k1, k2⟩ := hk
        split at k2
        · rename_i hq
          simp only [Bool.and_eq_true, decide_eq_true_eq] at hq
          obtain ⟨⟨⟨c1, c2⟩, c3⟩, c4⟩ := hq
          subst c2
          cases k2
          exact g_subD O.un P (s_toD ((jd ret K xs Φ k n').b O h1 k1) O.w) O.w c1 ha hc c3 c4
        · cases k2
      · cases hk
    | _ => cases n <;> cases h
theorem j_tTs (O : Okx C ret K xs Φ W X sc) : ∀ {k n : Nat} {x : List Expr} {e : E} {t : Ow} {T T' : Ty1}, cTs C n sc x = some e → ckT ret k e t T = some T' → PGs X x (tTgs K Φ W e t T T')
  | 0, n, x, e, t, T, T', h, hk => by cases e <;> cases hk
  | k + 1, n, [], e, t, T, T', h, hk => by
    have e0 := cTs_n0 h
    subst e0
    have hk : (if (t == .tn || t == .fz) = true then some T else none) = some T' := hk
    split at hk
    · rename_i hq
      cases hk
      simp only [Bool.or_eq_true, beq_iff_eq] at hq
      exact g_nil hq
    · cases hk
  | k + 1, n, x :: r, e, t, T, T', h, hk => by
    obtain ⟨a, es, n', rfl, rfl, h1, h2⟩ := cTs_nn h
    cases t with
    | tc u v =>
      have hk : ((ckT ret k a u T).bind fun T => ckT ret k es v T) = some T' := hk
      rw [Option.bind_eq_some_iff] at hk
      obtain ⟨T1, k1, k2⟩ := hk
      exact g_cons (j_tT O h1 k1) (j_tTs O h2 k2) O.w (cT_nostar h1) (.inl rfl)
    | fz =>
      have hk : ((ckT ret k a .fz T).bind fun T => ckT ret k es .fz T) = some T' := hk
      rw [Option.bind_eq_some_iff] at hk
      obtain ⟨T1, k1, k2⟩ := hk
      exact g_cons (j_tT O h1 k1) (j_tTs O h2 k2) O.w (cT_nostar h1) (.inr ⟨rfl, rfl, rfl⟩)
    | _ => cases hk
end
end
end Rf
end

section
/-! Rf5q: for x in xs: x.append(k), xs a list of lists that it alone holds. -/
namespace Rf
open PySem PySem.Spec PyProof.Rows L2
theorem eachD_at {k : Int} : ∀ {ds es : List D}, eachD k ds = some es → es.length = ds.length ∧ ∀ n, n < ds.length → ∃ ys, ds[n]? = some (.list ys) ∧ ys.length < line ∧ es[n]? = some (.list (ys ++ [.int k]))
  | [], es, h => by cases h; exact ⟨rfl, fun n hn => absurd hn (by simp)⟩
  | d :: r, es, h => by
    cases d with
    | list ys =>
      have h : (if ys.length < line then (eachD k r).map (D.list (ys ++ [.int k]) :: ·) else none) = some es := h
      split at h
      · rename_i hl
        rw [Option.map_eq_some_iff] at h
        obtain ⟨fs, h1, rfl⟩ := h
        obtain ⟨e1, e2⟩ := eachD_at h1
        refine ⟨by simp [e1], fun n hn => ?_⟩
        cases n with
        | zero => exact ⟨ys, rfl, hl, rfl⟩
        | succ n => exact e2 n (by simpa using hn)
      · cases h
    | _ => cases h
section
variable {K : PySem.W.Frag} {G H H0 : Hp} {σ : L2.St} {ρ : Env} {T : Ty1} {F : Nat → List Addr}
theorem rl_app {k : Int} : ∀ {n : Nat} {xs : List V} {ds : List D} {F : List Addr} {b' : V} {ys : List D}, RL (R K G H (.lst .fz)) xs ds F → F.Nodup → xs[n]? = some b' → ds[n]? = some (.list ys) →
    ∃ b vs, b' = .ref b ∧ b ∈ F ∧ H b = some (.lst vs) ∧ vs.length = ys.length ∧ RL (R K G (upd H b (.lst (vs ++ [.int k]))) (.lst .fz)) xs (ds.set n (.list (ys ++ [.int k]))) F
  | 0, x :: xs, d :: ds, F, b', ys, ⟨F1, F2, e, r, rl⟩, nd, hx, hd => by
    subst e
    have hx : x = b' := by simpa using hx
    have hd : d = .list ys := by simpa using hd
    subst hx hd
    obtain ⟨a, vs, F3, rfl, e, hg, hh, r3⟩ := r.own
    subst e
    have nd' := nd
    rw [List.cons_append] at nd'
    have na := (List.nodup_cons.mp nd').1
    have l3 := r3.len
    refine ⟨a, vs, rfl, by simp, hh, l3, a :: F3, F2, rfl, ?_, ?_⟩
    · refine .inl ⟨a, _, _, F3, rfl, rfl, rfl, hg, upd_same, ?_⟩
      have := (r3.mono fun v d F1 q r => r.mono (G' := G) (H' := upd H a (.lst (vs ++ [.int k]))) (Same.refl _) (fun b hb => (r.gn b hb).1) fun b hb => upd_ne (fun z => by subst z; exact na (by simp [q b hb]))).app
        (show RL (R K G (upd H a (.lst (vs ++ [.int k]))) .fz) [V.int k] [D.int k] [] from ⟨[], [], rfl, ⟨rfl, .int k⟩, rfl⟩)
      rw [List.append_nil] at this
      exact this
    · exact rl.mono fun v d F1 q r => r.mono (Same.refl _) (fun b hb => (r.gn b hb).1) fun b hb => upd_ne (fun z => by subst z; exact na (by simp [q b hb]))
  | n + 1, x :: xs, d :: ds, F, b', ys, ⟨F1, F2, e, r, rl⟩, nd, hx, hd => by
    subst e
    rw [List.nodup_append] at nd
    obtain ⟨b, vs, rfl, hb, hh, hl, q⟩ := rl_app (k := k) rl nd.2.1 (by simpa using hx) (by simpa using hd)
    exact ⟨b, vs, rfl, List.mem_append_right _ hb, hh, hl, F1, F2, rfl, r.mono (Same.refl _) (fun b hb => (r.gn b hb).1) (fun c hc => upd_ne (fun z => nd.2.2 c hc b hb z)), q⟩
  | _, [], [], _, _, _, _, _, hx, _ => by simp at hx
  | _, [], _ :: _, _, _, _, h, _, _, _ => h.elim
  | _, _ :: _, [], _, _, _, h, _, _, _ => h.elim
theorem SInv.kill (I : SInv K H0 G H σ ρ T F) (j : Nat) : SInv K H0 G H σ (ρ.set j none) (T.set j .dead) (setF F j []) where
  gh := I.gh
  h0 := I.h0
  ls := by simp [I.ls]
  lt := by simp [I.lt]
  sl := fun i t d e1 e2 e3 => by
    by_cases hj : j = i
    · subst hj
      by_cases hl : j < ρ.length
      · rw [List.getElem?_set_self hl] at e3; cases e3
      · rw [List.getElem?_eq_none (by rw [List.length_set]; omega)] at e3; cases e3
    · rw [List.getElem?_set_ne hj] at e1 e3
      have := I.sl i t d e1 e2 e3
      unfold setF; rw [if_neg (Ne.symm hj)]; exact this
  nd := fun i => by
    unfold setF; split
    · exact .nil
    · exact I.nd i
  dj := fun i k a h1 h2 => by
    unfold setF at h1 h2
    split at h1
    · cases h1
    · split at h2
      · cases h2
      · exact I.dj i k a h1 h2
  fr := fun i a h => by
    unfold setF at h
    split at h
    · cases h
    · exact I.fr i a h
theorem SInv.junk (I : SInv K H0 G H σ ρ T F) {j : Nat} (v : V) (hj : T[j]? = some .dead ∨ T.length ≤ j) : SInv K H0 G H (σ.set j (some v)) ρ T F where
  gh := I.gh
  h0 := I.h0
  ls := by simp [I.ls]
  lt := I.lt
  sl := fun i t d e1 e2 e3 => by
    by_cases h : j = i
    · subst h
      rcases hj with hj | hj
      · rw [hj] at e1; cases e1; exact absurd rfl e2
      · rw [List.getElem?_eq_none hj] at e1; cases e1
    · rw [List.getElem?_set_ne h]; exact I.sl i t d e1 e2 e3
  nd := I.nd
  dj := I.dj
  fr := I.fr
theorem set_same {α : Type} {l : List α} {i : Nat} {v : α} (h : l[i]? = some v) : l.set i v = l := by
  apply List.ext_getElem?
  intro t
  by_cases e : i = t
  · subst e
    rw [List.getElem?_set_self (List.getElem?_eq_some_iff.mp h).1, h]
  · rw [List.getElem?_set_ne e]
theorem setF_same (F : Nat → List Addr) (i : Nat) : setF F i (F i) = F := funext fun j => by
  unfold setF; split
  · rename_i h; rw [h]
  · rfl
end
section
variable {K : PySem.W.Frag} {Φ : Calls} {W : Wx} {X : Cx} {T : Ty1} {r : Ow}
theorem r_each {x l : Str} {px pl px' apos cpos epos pos : Pos} {a : Expr} {i j : Nat} {k : Int} (po : PassesOwn (model X.prog X.w) X.A X.env X.xe) (hc : X.calm = true) (hK : X.K = K) (hl : PE X (.Name l pl) (tVar i)) (hx : PG X (.Name x px) (gName j)) (hx' : PE X (.Name x px') (tVar j))
    (ha : PE X a (tC (.int k))) (ns : NoStar a) (m : MOk X (.Name x px') "append" [a] apos cpos) (hsw : swapsWith (.Call (.Attribute (.Name x px') "append" apos) [a] [] cpos) none epos.line X.env = pure false) (e0 : T[i]? = some (.lst (.lst .fz))) (hij : i ≠ j) (hjl : j < T.length) :
    PS X (.For (.Name x px) (.Name l pl) [.Expr (.Call (.Attribute (.Name x px') "append" apos) [a] [] cpos) epos] [] pos) (tSt K Φ W (.each i j k) r T ⟨some ((T.set j .dead).set i (.lst (.lst .fz))), none, none⟩) := by
  refine (ps_for po hc (pi_list hl) hx (pss_one (ps_expr (pe_bm PySem.F.plainAttrs_list PySem.F.slot_list_append PySem.F.type_list_append mt_append hx' (pa_cons ha pa_nil (ns _ _)) m.base m.few m.line (m.stars _ _ rfl) m.plain) hsw)) (fun _ => rfl)).wk fun D σ H ⟨H0, G, ρ, F, I, q⟩ => ?_
  have q : OutP K W H0 G r ⟨some ((T.set j .dead).set i (.lst (.lst .fz))), none, none⟩ D ((getS ρ i).out fun o => eachO k i j ρ o) := q
  have hi : i < T.length := (List.getElem?_eq_some_iff.mp e0).1
  obtain ⟨ds, ex, es, he, q⟩ : ∃ ds, ρ[i]? = some (some (.list ds)) ∧ ∃ es, eachD k ds = some es ∧ OutP K W H0 G r ⟨some ((T.set j .dead).set i (.lst (.lst .fz))), none, none⟩ D (.next ((ρ.set j none).set i (some (.list es)))) := by
    unfold getS at q
    cases ex : ρ[i]? with
    | none => rw [ex] at q; exact (q : False).elim
    | some o =>
      cases o with
      | none => rw [ex] at q; exact (q : False).elim
      | some d =>
        rw [ex] at q
        cases d with
        | list ds =>
          have q : OutP K W H0 G r _ D (match eachD k ds with | some es => Out.next ((ρ.set j none).set i (some (.list es))) | none => .stk) := q
          cases he : eachD k ds with
          | none => rw [he] at q; exact (q : False).elim
          | some es => rw [he] at q; exact ⟨ds, rfl, es, he, q⟩
        | _ => exact (q : False).elim
  obtain ⟨el, ea⟩ := eachD_at he
  obtain ⟨T', e1, q⟩ := q
  cases e1
  obtain ⟨v, hv, rr⟩ := I.sl i _ _ e0 (by simp) ex
  obtain ⟨a0, xs, F0, rfl, eF, hg, hh, rl⟩ := rr.own
  have lx := rl.len
  have T1i : (T.set j .dead)[i]? = some (.lst (.lst .fz)) := by rw [List.getElem?_set_ne (Ne.symm hij)]; exact e0
  have ρl : i < (ρ.set j none).length := by rw [List.length_set, ← I.lt]; exact hi
  have Fi : setF F j [] i = a0 :: F0 := by unfold setF; rw [if_neg hij]; exact eF
  have Tj : ((T.set j .dead).set i (.lst (.lst .fz)))[j]? = some .dead ∨ ((T.set j .dead).set i (.lst (.lst .fz))).length ≤ j := by
    by_cases hjl : j < T.length
    · rw [List.getElem?_set_ne hij, List.getElem?_set_self hjl]; exact .inl rfl
    · refine .inr ?_
      rw [List.length_set, List.length_set]; omega
  have nd0 : (a0 :: F0).Nodup := by rw [← eF]; exact I.nd i
  refine ⟨.ref a0, hv, a0, rfl, ⟨xs, by rw [hK]; exact .inl (.inl hh)⟩, fun n m σ' H' => m = xs.length - n ∧ n ≤ xs.length ∧ σ'[i]? = some (some (.ref a0)) ∧ H' a0 = some (.lst xs) ∧ G a0 = none ∧
    ∃ ds', ds' = es.take n ++ ds.drop n ∧ RL (R K G H' (.lst .fz)) xs ds' F0 ∧ SInv K H0 G H' σ' ((ρ.set j none).set i (some (.list ds'))) ((T.set j .dead).set i (.lst (.lst .fz))) (setF F j []), ⟨_, rfl, Nat.zero_le _, hv, hh, hg, ds, by simp, rl, ?_⟩, fun n m σ' H' ⟨em, hn, hv', hh', hg', ds', ed, rl', I'⟩ => ?_⟩
  · have := I.kill j
    rw [set_same (by rw [List.getElem?_set_ne (Ne.symm hij)]; exact ex), set_same T1i]
    exact this
  · by_cases hie : xs.length ≤ n
    · refine .inl ⟨⟨xs, by rw [hK]; exact .inl (.inl hh'), hie⟩, ?_⟩
      have ee : ds' = es := by rw [ed, List.drop_of_length_le (by omega), List.append_nil, List.take_of_length_le (by omega)]
      subst ee
      exact q σ' G H' _ (.refl _ _) I'
    · have hlt : n < xs.length := by omega
      obtain ⟨ys, y1, y2, y3⟩ := ea n (by omega)
      have dn : ds'[n]? = some (.list ys) := by
        rw [ed, List.getElem?_append_right (by rw [List.length_take]; omega), List.length_take, Nat.min_eq_left (by omega), Nat.sub_self, List.getElem?_drop, Nat.add_zero]; exact y1
      have xn : xs[n]? = some xs[n] := List.getElem?_eq_getElem hlt
      refine .inr ⟨⟨xs, xs[n], by rw [hK]; exact .inl (.inl hh'), xn⟩, fun σ'' H'' => ∃ m', m' < m ∧ (m' = xs.length - (n + 1) ∧ n + 1 ≤ xs.length ∧ σ''[i]? = some (some (.ref a0)) ∧ H'' a0 = some (.lst xs) ∧ G a0 = none ∧
        ∃ ds', ds' = es.take (n + 1) ++ ds.drop (n + 1) ∧ RL (R K G H'' (.lst .fz)) xs ds' F0 ∧ SInv K H0 G H'' σ'' ((ρ.set j none).set i (some (.list ds'))) ((T.set j .dead).set i (.lst (.lst .fz))) (setF F j [])), fun _ _ h => h, fun x H'' hy => ?_⟩
      obtain ⟨rfl, hy⟩ := hy
      have hy := hy xs (by rw [hK]; exact .inl (.inl hh'))
      rw [xn] at hy
      obtain ⟨b, vs, eb, hb, hhb, hlb, rl2⟩ := rl_app (k := k) rl' (List.nodup_cons.mp nd0).2 xn dn
      have exb : x = .ref b := by rw [← eb]; exact (Option.some.inj hy).symm
      subst exb
      have jl : j < σ'.length := by
        have q1 := I'.ls
        have q2 := I'.lt
        simp only [List.length_set] at q1 q2
        omega
      show tDrop _ _ (σ'.set j (some (.ref b))) H''
      refine ⟨.ref b, by rw [List.getElem?_set_self jl], .inl ⟨rfl, vs, by rw [hK]; exact .inl (.inl hhb)⟩, ?_⟩
      refine ⟨b, vs, .int k, rfl, rfl, hhb, by rw [hlb, sizeLine_eq]; exact y2, ?_⟩
      have hba : b ≠ a0 := fun z => by subst z; exact (List.nodup_cons.mp nd0).1 hb
      have I2 := I'.junk (j := j) (.ref b) Tj
      have hv2 : (σ'.set j (some (V.ref b)))[i]? = some (some (.ref a0)) := by rw [List.getElem?_set_ne (Ne.symm hij)]; exact hv'
      have hh2 : upd H'' b (.lst (vs ++ [.int k])) a0 = some (.lst xs) := by rw [upd_ne (Ne.symm hba)]; exact hh'
      have rn : R K G (upd H'' b (.lst (vs ++ [.int k]))) (.lst (.lst .fz)) (.ref a0) (.list (ds'.set n (.list (ys ++ [.int k])))) (a0 :: F0) := .inl ⟨a0, xs, _, F0, rfl, rfl, rfl, hg', hh2, rl2⟩
      have I3 := I2.mut (i := i) (a := b) (by rw [List.length_set]; exact ρl) (by rw [Fi]; exact List.mem_cons_of_mem _ hb) hv2 rn nd0 (fun c hc => (I2.fr i c (by rw [Fi]; exact hc)).1) fun y c hy hc h => hy (I2.dj y i c h (by rw [Fi]; exact hc))
      rw [← Fi, setF_same, List.set_set, List.set_set] at I3
      have e2 : ds'.set n (.list (ys ++ [.int k])) = es.take (n + 1) ++ ds.drop (n + 1) := by
        rw [ed]
        have dl : ds = ds.take n ++ Rf.D.list ys :: ds.drop (n + 1) := by
          obtain ⟨h1, h2⟩ := List.getElem?_eq_some_iff.mp y1
          rw [← h2, List.getElem_cons_drop, List.take_append_drop]
        have t1 : es.take (n + 1) = es.take n ++ [Rf.D.list (ys ++ [.int k])] := by
          rw [List.take_add_one, y3]; rfl
        have d1 : ds.drop n = Rf.D.list ys :: ds.drop (n + 1) := by
          obtain ⟨h1, h2⟩ := List.getElem?_eq_some_iff.mp y1
          rw [← h2, List.getElem_cons_drop]
        have hn2 : n = (es.take n).length := by rw [List.length_take]; omega
        rw [d1, t1, List.append_assoc, List.set_append, if_neg (by omega), ← hn2, Nat.sub_self]
        rfl
      rw [e2] at I3 rl2
      exact ⟨m - 1, by omega, by omega, by omega, hv2, hh2, hg', _, rfl, rl2, I3⟩
end
end Rf
end

section
/-! Rf5p: x, y = a, b. -/
namespace Rf
open PySem PySem.Spec PyProof.Rows L2
theorem isLocal_ok {sc : Scope} {x : Str} (h : isLocal sc x = true) : sc.names.lookup x = some .local := by
  unfold isLocal at h
  split at h
  · rename_i e; exact e
  · cases h
theorem ne_of_beq {x y : Str} (h : (!(x == y)) = true) : x ≠ y := fun e => by subst e; simp at h
/-- slots take values, one behind the other -/
def sets {α : Type} : List (Option α) → List Nat → List α → List (Option α)
  | σ, i :: is, v :: vs => sets (σ.set i (some v)) is vs
  | σ, _, _ => σ
def mkE : List Nat → E
  | [] => .nil
  | i :: r => .cons (.var i) (mkE r)
/-- values by their types, or all frozen -/
def RTx (K : PySem.W.Frag) (G H : Hp) (u : Ow) (vs : List V) (ds : List D) (Fv : List Addr) : Prop := RT K G H u vs ds Fv ∨ (u = .fz ∧ Fv = [] ∧ FzA K G vs ds)
section
variable {ret : Nat → Ow} {K : PySem.W.Frag} {Φ : Calls} {W : Wx} {X : Cx} {T T1 T2 : Ty1} {pos : Pos} {t u r : Ow} {H0 G H : Hp}
theorem par_all : ∀ {is : List Nat} {n : Nat} {u : Ow} {T1 T2 : Ty1} {σ : L2.St} {ρ : Env} {F : Nat → List Addr} {vs : List V} {ds : List D} {Fv : List Addr}, ckT ret n (mkE is) u T1 = some T2 → SInv K H0 G H σ ρ T1 F → RTx K G H u vs ds Fv → Own H0 F Fv → ds.length = is.length →
    ∃ F', SInv K H0 G H (sets σ is vs) (sets ρ is ds) T2 F' ∧ asgn Φ (mkE is) (.tuple ds) ρ = .ok (sets ρ is ds)
  | [], n, u, T1, T2, σ, ρ, F, vs, ds, Fv, hk, I, r, o, hl => by
    cases n with
    | zero => cases hk
    | succ n =>
      have hk : (if (u == .tn || u == .fz) = true then some T1 else none) = some T2 := hk
      split at hk
      · cases hk
        cases ds with
        | nil =>
          have e : sets σ [] vs = σ := by cases vs <;> rfl
          rw [e]
          exact ⟨F, I, rfl⟩
        | cons _ _ => simp at hl
      · cases hk
  | i :: is, n, u, T1, T2, σ, ρ, F, vs, ds, Fv, hk, I, r, o, hl => by
    cases ds with
    | nil => simp at hl
    | cons d ds =>
      -- the first
      have one : ∀ {n : Nat} {t : Ow} {T3 : Ty1}, ckT ret n (.var i) t T1 = some T3 → i < ρ.length ∧ T3 = T1.set i t := fun {n t T3} h => by
        cases n with
        | zero => cases h
        | succ n =>
          have h : (if i < T1.length then some (T1.set i t) else none) = some T3 := h
          split at h
          · rename_i hi; cases h; exact ⟨by rw [← I.lt]; exact hi, rfl⟩
          · cases h
      have go : ∀ {t' u' : Ow} {v : V} {vs' : List V} {F1 F2 : List Addr} {m : Nat}, i < ρ.length → vs = v :: vs' → Fv = F1 ++ F2 → R K G H t' v d F1 → RTx K G H u' vs' ds F2 → ckT ret m (mkE is) u' (T1.set i t') = some T2 →
          ∃ F', SInv K H0 G H (sets σ (i :: is) vs) (sets ρ (i :: is) (d :: ds)) T2 F' ∧ asgn Φ (mkE (i :: is)) (.tuple (d :: ds)) ρ = .ok (sets ρ (i :: is) (d :: ds)) := fun {t' u' v vs' F1 F2 m} hi e1 e2 r1 r2 h2 => by
        subst e1 e2
        have nd := List.nodup_append.mp o.nd
        have o1 : Own H0 F F1 := ⟨nd.1, fun a ha => o.fr a (List.mem_append_left _ ha), fun j a ha => o.dj j a (List.mem_append_left _ ha)⟩
        have I2 := I.set hi r1 o1
        have o2 : Own H0 (setF F i F1) F2 := ⟨nd.2.1, fun a ha => o.fr a (List.mem_append_right _ ha), fun j a ha => by
          unfold setF
          split
          · exact fun hb => nd.2.2 a hb a ha rfl
          · exact o.dj j a (List.mem_append_right _ ha)⟩
        obtain ⟨F', I3, e3⟩ := par_all h2 I2 r2 o2 (by simpa using hl)
        refine ⟨F', I3, ?_⟩
        show ((if i < ρ.length then Res.ok (ρ.set i (some d)) else .stk) >>= fun ρ1 => asgn Φ (mkE is) (.tuple ds) ρ1) = _
        rw [if_pos hi]
        exact e3
      cases n with
      | zero => cases hk
      | succ n =>
        rcases r with r | ⟨rfl, rfl, f⟩
        · cases u with
          | tc a b =>
            obtain ⟨v, vs', d', ds', F1, F2, e1, e2, e3, r1, r2⟩ := r
            cases e2
            have hk : ((ckT ret n (.var i) a T1).bind fun T => ckT ret n (mkE is) b T) = some T2 := hk
            rw [Option.bind_eq_some_iff] at hk
            obtain ⟨T3, h1, h2⟩ := hk
            obtain ⟨hi, rfl⟩ := one h1
            exact go hi e1 e3 r1 (.inl r2) h2
          | tn => obtain ⟨_, e, _⟩ := r; cases e
          | bot => exact r.elim
          | fz => exact r.elim
          | lst _ => exact r.elim
          | dct _ => exact r.elim
          | tup _ => exact r.elim
          | dead => exact r.elim
        · cases f with
          | cons f1 f2 =>
            have hk : ((ckT ret n (.var i) .fz T1).bind fun T => ckT ret n (mkE is) .fz T) = some T2 := hk
            rw [Option.bind_eq_some_iff] at hk
            obtain ⟨T3, h1, h2⟩ := hk
            obtain ⟨hi, rfl⟩ := one h1
            exact go (t' := .fz) (F1 := []) (F2 := []) hi rfl rfl (show R K G H .fz _ _ [] from ⟨rfl, f1⟩) (.inr ⟨rfl, rfl, f2⟩) h2
/-- a tuple of names takes a written tuple -/
theorem par_rd {is : List Nat} {e : E} {D : Ends} {σ : L2.St} {H : Hp} (w : WOk W) (hw : ∀ ρ p, ev Φ e ρ = .ok p → ∃ ds, p.1 = .tuple ds ∧ ds.length = is.length) (hle : lenE (mkE is) = is.length)
    (hk : ckT ret 20 (.tup (mkE is)) t T1 = some T2) (ht : (allFz u = true ∧ t = .fz) ∨ t = .tup u) (h : tSt K Φ W (.asg (.tup (mkE is)) (.tup e)) r T ⟨some T2, none, none⟩ D σ H) :
    tEvL K Φ W e T T1 u σ H fun vs H1 => vs.length = is.length ∧ D.nx (sets σ is vs) H1 := by
  obtain ⟨H0, G, ρ, F, I, q⟩ := h
  have q : OutP K W H0 G r ⟨some T2, none, none⟩ D ((ev Φ e ρ).out fun p => (asgn Φ (.tup (mkE is)) p.1 p.2).out .next) := q
  refine ⟨H0, G, ρ, F, I, (OutP.out q).imp w (Same.refl _) fun p e1 k ds e2 vs G1 H1 F1 Fv g1 s1 I1 r1 o1 => ?_⟩
  obtain ⟨ds', e3, hlen⟩ := hw ρ p e1
  rw [e2] at e3; cases e3
  have hx : ∃ u', RTx K G1 H1 u' vs ds Fv ∧ ckT ret 19 (mkE is) u' T1 = some T2 := by
    rcases ht with ⟨hz, rfl⟩ | rfl
    · obtain ⟨e4, f⟩ := RT.allFz hz r1
      subst e4
      exact ⟨.fz, .inr ⟨rfl, rfl, f⟩, hk⟩
    · exact ⟨u, .inl r1, hk⟩
  obtain ⟨u', rx, hk'⟩ := hx
  obtain ⟨F', I2, e4⟩ := par_all (Φ := Φ) hk' I1 rx o1 hlen
  have hv : vs.length = ds.length := by
    rcases rx with r | ⟨_, _, f⟩
    · exact r.len
    · exact f.len
  refine ⟨hv.trans hlen, ?_⟩
  rw [e2] at k
  have e5 : asgn Φ (.tup (mkE is)) (.tuple ds) p.2 = .ok (sets p.2 is ds) := by
    show (if ds.length = lenE (mkE is) then asgn Φ (mkE is) (.tuple ds) p.2 else .stk) = _
    rw [if_pos (by rw [hle, hlen])]
    exact e4
  rw [e5] at k
  obtain ⟨T', e6, k⟩ := k
  cases e6
  exact k _ G1 H1 F' g1 I2
theorem kindL {env : PySem.Env} {x : Str} (h : env.scope.names.lookup x = some .local) : (env.kindOf x == some .local) = true := by
  show (env.scope.names.lookup x == some .local) = true
  rw [h]; rfl
theorem sw2 {env : PySem.Env} {x y : Str} {px py pt pt2 : Pos} {k k2 : Nat} {a b : Expr} (hk : env.scope.kind = .function) (hx : env.scope.names.lookup x = some .local) (hy : env.scope.names.lookup y = some .local) (hl : (py.line == px.line) = true) (hne : x ≠ y) (na : isStarE a = false) (nb : isStarE b = false)
    (h1 : (!(foldedForSure 8 a && foldedForSure 8 b)) = true) (h2 : (!(constantsAlone 8 a && constantsAlone 8 b)) = true) : swappedStores [.Tuple [.Name x px, .Name y py] k pt] (.Tuple [a, b] k2 pt2) env = pure (some [x, y]) := by
  have hb : env.blockKind = .function := by unfold Env.blockKind; rw [hk]; rfl
  have e1 := kindL hx
  have e2 := kindL hy
  have hd : ([x, y] : List Str).eraseDups.length = 2 := by
    rw [List.eraseDups_cons]
    have : ([y] : List Str).filter (fun b => !b == x) = [y] := by simp [Ne.symm hne]
    rw [this]; rfl
  have nb' : ([a, b].any fun e => match e with | .Starred .. => true | _ => false) = false := by
    show (isStarE a || (isStarE b || false)) = false
    rw [na, nb]; rfl
  have f1 : ([a, b].all (foldedForSure 8)) = false := by
    show (foldedForSure 8 a && (foldedForSure 8 b && true)) = false
    rw [Bool.and_true, ← Bool.not_eq_true']; exact h1
  have f2 : ([a, b].all (constantsAlone 8)) = false := by
    show (constantsAlone 8 a && (constantsAlone 8 b && true)) = false
    rw [Bool.and_true, ← Bool.not_eq_true']; exact h2
  have hf : ([Expr.Name x px, Expr.Name y py].filterMap fun | .Name id pos => if env.kindOf id == some .local && pos.line == px.line then some id else none | _ => none) = [x, y] := by
    have e1' := beq_iff_eq.mp e1
    have e2' := beq_iff_eq.mp e2
    have hl' := beq_iff_eq.mp hl
    simp [List.filterMap_cons, e1', e2', hl']
  have g1 : (!(([Expr.Name x px, Expr.Name y py].length == 2) || ([Expr.Name x px, Expr.Name y py].length == 3)) || [a, b].length != [Expr.Name x px, Expr.Name y py].length || env.blockKind != .function) = false := by
    rw [hb]; rfl
  have g2 : (([x, y] : List Str).length != [Expr.Name x px, Expr.Name y py].length || ([x, y] : List Str).eraseDups.length != ([x, y] : List Str).length) = false := by rw [hd]; rfl
  show (if (!(([Expr.Name x px, Expr.Name y py].length == 2) || ([Expr.Name x px, Expr.Name y py].length == 3)) || [a, b].length != [Expr.Name x px, Expr.Name y py].length || env.blockKind != .function) = true then _ else _) = _
  rw [if_neg (by rw [g1]; simp)]
  show (if ([a, b].any fun e => match e with | .Starred .. => true | _ => false) = true then _ else _) = _
  rw [if_neg (by rw [nb']; simp)]
  show (if (([Expr.Name x px, Expr.Name y py].filterMap fun | .Name id pos => if env.kindOf id == some .local && pos.line == px.line then some id else none | _ => none).length != [Expr.Name x px, Expr.Name y py].length || ([Expr.Name x px, Expr.Name y py].filterMap fun | .Name id pos => if env.kindOf id == some .local && pos.line == px.line then some id else none | _ => none).eraseDups.length != ([Expr.Name x px, Expr.Name y py].filterMap fun | .Name id pos => if env.kindOf id == some .local && pos.line == px.line then some id else none | _ => none).length) = true then _ else _) = _
  rw [hf, if_neg (by rw [g2]; simp)]
  show (if [a, b].all (foldedForSure 8) = true then _ else _) = _
  rw [if_neg (by rw [f1]; simp)]
  show (if [a, b].all (constantsAlone 8) = true then _ else _) = _
  rw [if_neg (by rw [f2]; simp)]
  show (pure (some ([Expr.Name x px, Expr.Name y py].filterMap fun | .Name id pos => if env.kindOf id == some .local && pos.line == px.line then some id else none | _ => none)) : Sem (Option (List Str))) = _
  rw [hf]
theorem sw3 {env : PySem.Env} {x y z : Str} {px py pz pt pt2 : Pos} {k k2 : Nat} {a b c : Expr} (hk : env.scope.kind = .function) (hx : env.scope.names.lookup x = some .local) (hy : env.scope.names.lookup y = some .local) (hz : env.scope.names.lookup z = some .local) (hl : (py.line == px.line) = true) (hl2 : (pz.line == px.line) = true) (hne : x ≠ y) (hne2 : x ≠ z) (hne3 : y ≠ z) (na : isStarE a = false) (nb : isStarE b = false) (nc : isStarE c = false)
    (h1 : (!(foldedForSure 8 a && (foldedForSure 8 b && foldedForSure 8 c))) = true) (h2 : (!(constantsAlone 8 a && (constantsAlone 8 b && constantsAlone 8 c))) = true) : swappedStores [.Tuple [.Name x px, .Name y py, .Name z pz] k pt] (.Tuple [a, b, c] k2 pt2) env = pure (some [x, y, z]) := by
  have hb : env.blockKind = .function := by unfold Env.blockKind; rw [hk]; rfl
  have e1 := kindL hx
  have e2 := kindL hy
  have e3 := kindL hz
  have hd : ([x, y, z] : List Str).eraseDups.length = 3 := by
    rw [List.eraseDups_cons]
    have : ([y, z] : List Str).filter (fun b => !b == x) = [y, z] := by simp [Ne.symm hne, Ne.symm hne2]
    rw [this, List.eraseDups_cons]
    have : ([z] : List Str).filter (fun b => !b == y) = [z] := by simp [Ne.symm hne3]
    rw [this]; rfl
  have nb' : ([a, b, c].any fun e => match e with | .Starred .. => true | _ => false) = false := by
    show (isStarE a || (isStarE b || (isStarE c || false))) = false
    rw [na, nb, nc]; rfl
  have f1 : ([a, b, c].all (foldedForSure 8)) = false := by
    show (foldedForSure 8 a && (foldedForSure 8 b && (foldedForSure 8 c && true))) = false
    rw [Bool.and_true, ← Bool.not_eq_true']; exact h1
  have f2 : ([a, b, c].all (constantsAlone 8)) = false := by
    show (constantsAlone 8 a && (constantsAlone 8 b && (constantsAlone 8 c && true))) = false
    rw [Bool.and_true, ← Bool.not_eq_true']; exact h2
  have hf : ([Expr.Name x px, Expr.Name y py, Expr.Name z pz].filterMap fun | .Name id pos => if env.kindOf id == some .local && pos.line == px.line then some id else none | _ => none) = [x, y, z] := by
    have e1' := beq_iff_eq.mp e1
    have e2' := beq_iff_eq.mp e2
    have hl' := beq_iff_eq.mp hl
    have hl2' := beq_iff_eq.mp hl2
    have e3' := beq_iff_eq.mp e3
    simp [List.filterMap_cons, e1', e2', e3', hl', hl2']
  have g1 : (!(([Expr.Name x px, Expr.Name y py, Expr.Name z pz].length == 2) || ([Expr.Name x px, Expr.Name y py, Expr.Name z pz].length == 3)) || [a, b, c].length != [Expr.Name x px, Expr.Name y py, Expr.Name z pz].length || env.blockKind != .function) = false := by
    rw [hb]; rfl
  have g2 : (([x, y, z] : List Str).length != [Expr.Name x px, Expr.Name y py, Expr.Name z pz].length || ([x, y, z] : List Str).eraseDups.length != ([x, y, z] : List Str).length) = false := by rw [hd]; rfl
  show (if (!(([Expr.Name x px, Expr.Name y py, Expr.Name z pz].length == 2) || ([Expr.Name x px, Expr.Name y py, Expr.Name z pz].length == 3)) || [a, b, c].length != [Expr.Name x px, Expr.Name y py, Expr.Name z pz].length || env.blockKind != .function) = true then _ else _) = _
  rw [if_neg (by rw [g1]; simp)]
  show (if ([a, b, c].any fun e => match e with | .Starred .. => true | _ => false) = true then _ else _) = _
  rw [if_neg (by rw [nb']; simp)]
  show (if (([Expr.Name x px, Expr.Name y py, Expr.Name z pz].filterMap fun | .Name id pos => if env.kindOf id == some .local && pos.line == px.line then some id else none | _ => none).length != [Expr.Name x px, Expr.Name y py, Expr.Name z pz].length || ([Expr.Name x px, Expr.Name y py, Expr.Name z pz].filterMap fun | .Name id pos => if env.kindOf id == some .local && pos.line == px.line then some id else none | _ => none).eraseDups.length != ([Expr.Name x px, Expr.Name y py, Expr.Name z pz].filterMap fun | .Name id pos => if env.kindOf id == some .local && pos.line == px.line then some id else none | _ => none).length) = true then _ else _) = _
  rw [hf, if_neg (by rw [g2]; simp)]
  show (if [a, b, c].all (foldedForSure 8) = true then _ else _) = _
  rw [if_neg (by rw [f1]; simp)]
  show (if [a, b, c].all (constantsAlone 8) = true then _ else _) = _
  rw [if_neg (by rw [f2]; simp)]
  show (pure (some ([Expr.Name x px, Expr.Name y py, Expr.Name z pz].filterMap fun | .Name id pos => if env.kindOf id == some .local && pos.line == px.line then some id else none | _ => none)) : Sem (Option (List Str))) = _
  rw [hf]
theorem r_par2 {x y : Str} {px py pt pt2 : Pos} {k k2 i j : Nat} {a b : Expr} {e : E} (hc : X.calm = true) (hN : X.N.Nodup) (hi : X.N[i]? = some x) (hj : X.N[j]? = some y) (hne : x ≠ y) (hx : X.env.scope.names.lookup x = some .local) (hy : X.env.scope.names.lookup y = some .local) (hw : swappedStores [.Tuple [.Name x px, .Name y py] k pt] (.Tuple [a, b] k2 pt2) X.env = pure (some [x, y]))
    (ha : PA X [a, b] (tEvL K Φ W e T T1 u)) (w : WOk W) (hl : ∀ ρ p, ev Φ e ρ = .ok p → ∃ ds, p.1 = .tuple ds ∧ ds.length = 2) (hk : ckT ret 20 (.tup (mkE [i, j])) t T1 = some T2) (ht : (allFz u = true ∧ t = .fz) ∨ t = .tup u) :
    PS X (.Assign [.Tuple [.Name x px, .Name y py] k pt] (.Tuple [a, b] k2 pt2) pos) (tSt K Φ W (.asg (.tup (mkE [i, j])) (.tup e)) r T ⟨some T2, none, none⟩) := by
  have hij : i ≠ j := fun e => by subst e; rw [hi] at hj; cases hj; exact hne rfl
  refine (ps_par hc hN hi hj hij hx hy ha hw).wk fun D σ H q => ?_
  obtain ⟨H0, G, ρ, F, I, q⟩ := par_rd (is := [i, j]) w hl rfl hk ht q
  refine ⟨H0, G, ρ, F, I, q.map fun p _ k ds e vs G' H' F' Fv g s I' r' o => ?_⟩
  obtain ⟨hv, k⟩ := k ds e vs G' H' F' Fv g s I' r' o
  match vs, hv with
  | [v, w], _ => exact ⟨v, w, rfl, k⟩
theorem r_par3 {x y z : Str} {px py pz pt pt2 : Pos} {k k2 i j l : Nat} {a b c : Expr} {e : E} (hc : X.calm = true) (hN : X.N.Nodup) (hi : X.N[i]? = some x) (hj : X.N[j]? = some y) (hl3 : X.N[l]? = some z) (hne : x ≠ y) (hne2 : x ≠ z) (hne3 : y ≠ z) (hx : X.env.scope.names.lookup x = some .local) (hy : X.env.scope.names.lookup y = some .local) (hz : X.env.scope.names.lookup z = some .local)
    (hw : swappedStores [.Tuple [.Name x px, .Name y py, .Name z pz] k pt] (.Tuple [a, b, c] k2 pt2) X.env = pure (some [x, y, z]))
    (ha : PA X [a, b, c] (tEvL K Φ W e T T1 u)) (w : WOk W) (hl : ∀ ρ p, ev Φ e ρ = .ok p → ∃ ds, p.1 = .tuple ds ∧ ds.length = 3) (hk : ckT ret 20 (.tup (mkE [i, j, l])) t T1 = some T2) (ht : (allFz u = true ∧ t = .fz) ∨ t = .tup u) :
    PS X (.Assign [.Tuple [.Name x px, .Name y py, .Name z pz] k pt] (.Tuple [a, b, c] k2 pt2) pos) (tSt K Φ W (.asg (.tup (mkE [i, j, l])) (.tup e)) r T ⟨some T2, none, none⟩) := by
  have hij : i ≠ j := fun e => by subst e; rw [hi] at hj; cases hj; exact hne rfl
  have hil : i ≠ l := fun e => by subst e; rw [hi] at hl3; cases hl3; exact hne2 rfl
  have hjl : j ≠ l := fun e => by subst e; rw [hj] at hl3; cases hl3; exact hne3 rfl
  refine (ps_par3 hc hN hi hj hl3 hij hil hjl hx hy hz ha hw).wk fun D σ H q => ?_
  obtain ⟨H0, G, ρ, F, I, q⟩ := par_rd (is := [i, j, l]) w hl rfl hk ht q
  refine ⟨H0, G, ρ, F, I, q.map fun p _ k ds e vs G' H' F' Fv g s I' r' o => ?_⟩
  obtain ⟨hv, k⟩ := k ds e vs G' H' F' Fv g s I' r' o
  match vs, hv with
  | [v, w, y], _ => exact ⟨v, w, y, rfl, k⟩
end
end Rf
end

section
/-! Rf5d: statements: the whole. -/
namespace Rf
open PySem PySem.Spec PyProof.Rows L2
theorem cBi_no {f : Str} {b : Bi} (h : cBi f = some b) : b ≠ .range ∧ b ≠ .enumerate ∧ b ≠ .zip := by
  unfold cBi at h
  repeat' split at h
  all_goals first | cases h; exact ⟨by simp, by simp, by simp⟩ | cases h
section
variable {ret : Nat → Ow} {K : PySem.W.Frag} {xs : XS} {Φ : Calls} {n m : Nat} {C : Cc} {W : Wx} {X : Cx} {sc : Scope} {x : Expr} {e : E} {T T' Ta T1 T2 : Ty1} {t r : Ow} {o : Tyo} {pos : Pos}
theorem cE_nobi {es : E} (h : cE C n sc x = some e) : e ≠ .bi .range es ∧ e ≠ .bi .enumerate es ∧ e ≠ .bi .zip es := by
  have key : ∀ b, e = .bi b es → b ≠ .range ∧ b ≠ .enumerate ∧ b ≠ .zip := fun b e1 => by
    subst e1
    have q := c_shape h
    cases x <;> first | cases q | skip
    · rename_i o es p; cases o <;> cases q
    · rename_i o a p; cases o <;> cases q
    · rename_i f as kws p
      obtain ⟨n', rfl, rfl, ⟨y, q, rfl, ⟨g, k, es', hg, hl, h1, e1⟩ | ⟨es', hg, hl, h1, e1⟩ | ⟨b', es', hb, hne, hbi, h1, e1⟩ | ⟨hb, hx⟩⟩ | ⟨_, _, _, _, _, _, _, _, _, _, _, _, _, e1⟩⟩ := i_call h
      · cases e1
      · cases e1; exact ⟨by simp, by simp, by simp⟩
      · cases e1; exact cBi_no hbi
      · obtain ⟨_, _, hxx⟩ := i_x hx
        clear hx
        cases hxx <;> exact ⟨by simp, by simp, by simp⟩
      · cases e1
    · rename_i a i p
      rcases i_sub h with ⟨_, _, _, _, e1, _⟩ | ⟨_, _, _, _, _, _, _, _, _, e1, _⟩ | ⟨_, _, _, _, _, _, _, _, _, e1, _⟩
      · cases e1
      · cases e1
      · cases e1; exact ⟨by simp, by simp, by simp⟩
  exact ⟨fun e => (key _ e).1 rfl, fun e => (key _ e).2.1 rfl, fun e => (key _ e).2.2 rfl⟩
theorem j_for {tg : Expr} (O : Okx C ret K xs Φ W X sc) (h : cItE C n sc tg x = some e) (hk : ckI ret e T = some Ta) : PI X tg x (tIt K Φ W true e T Ta) := by
  rcases i_walk h with ⟨n', rfl, h1⟩ | ⟨n', f, q, as, p, es, rfl, rfl, hb, h1, hw⟩
  · have hg : ckI ret e T = (ck ret false 60 e T).map (·.2) := by
      cases e with
      | bi b es => cases b <;> first | rfl | exact absurd rfl (cE_nobi (es := es) h1).1 | exact absurd rfl (cE_nobi (es := es) h1).2.1 | exact absurd rfl (cE_nobi (es := es) h1).2.2
      | _ => rfl
    rw [hg, Option.map_eq_some_iff] at hk
    obtain ⟨⟨t, T1⟩, k1, rfl⟩ := hk
    exact i_val O.hK (p_ofF (s_frz ((jd ret K xs Φ 60 n').v O h1 k1) O.w) O.w) O.w
  · obtain ⟨g1, g2⟩ := blt_ok hb
    have G := O.gl g1
    have M := O.blt _ g2
    have st := cEs_star h1
    have ln : ∀ (k : Nat), as.length = k → ∀ ρ p ds, ev Φ es ρ = .ok p → p.1 = .tuple ds → ds.length = k := fun k hl ρ p ds hp e => by
      obtain ⟨ds', e1, e2⟩ := cEs_len h1 hp
      rw [e] at e1; cases e1
      rw [e2, hl]
    rcases hw with ⟨rfl, hl, rfl⟩ | ⟨el, k, tp, rfl, ⟨rfl, hl, rfl⟩ | ⟨rfl, hl, rfl⟩⟩
    · have hk : (ckc ret 60 (.bi .range es) T).map (·.2) = some Ta := hk
      rw [Option.map_eq_some_iff] at hk
      obtain ⟨⟨t, T1⟩, k0, rfl⟩ := hk
      obtain ⟨m', hm, k1⟩ := bi_ckc k0
      have P := ps_ofC (j_cs (m := m') (fun a ha => jd ret K xs Φ a) O h1 k1) O.w
      rcases hl with hl | hl
      · match as, hl with
        | [a], _ => exact i_range1 G M P O.w (st a (by simp)) (ln 1 rfl)
      · match as, hl with
        | [a, b], _ => exact i_range2 G M P O.w (st a (by simp)) (st b (by simp)) (ln 2 rfl)
    · have hk : (ckf ret 60 es T).map (·.2) = some Ta := hk
      rw [Option.map_eq_some_iff] at hk
      obtain ⟨⟨t, T1⟩, k0, rfl⟩ := hk
      have P := ps_ofF ((jd ret K xs Φ 60 n').fs O h1 k0) O.w
      match as, hl with
      | [a], _ => exact i_enum O.hK G M P O.w (st a (by simp)) (ln 1 rfl)
    · have hk : (ckf ret 60 es T).map (·.2) = some Ta := hk
      rw [Option.map_eq_some_iff] at hk
      obtain ⟨⟨t, T1⟩, k0, rfl⟩ := hk
      have P := ps_ofF ((jd ret K xs Φ 60 n').fs O h1 k0) O.w
      match as, hl with
      | [a, b], _ => exact i_zip O.hK G M P O.w (st a (by simp)) (st b (by simp)) (ln 2 rfl)
theorem i_asg {tg e : E} (h : ckS ret r (n + 1) (.asg tg e) T = some o) : ∃ t T1 T2, ck ret false 60 e T = some (t, T1) ∧ ckT ret 20 tg t T1 = some T2 ∧ o = ⟨some T2, none, none⟩ := by
  have h : ((ck ret false 60 e T).bind fun p => (ckT ret 20 tg p.1 p.2).map fun T => (⟨some T, none, none⟩ : Tyo)) = some o := h
  simp only [Option.bind_eq_some_iff, Option.map_eq_some_iff, Prod.exists] at h
  obtain ⟨t, T1, h1, T2, h2, rfl⟩ := h
  exact ⟨t, T1, T2, h1, h2, rfl⟩
theorem parOk_inv {ts vs : List Expr} (h : parOk sc ts vs = true) : (∃ x px y py a b, ts = [.Name x px, .Name y py] ∧ vs = [a, b] ∧ (isLocal sc x = true ∧ isLocal sc y = true) ∧ (py.line == px.line) = true ∧ x ≠ y ∧ (isStarE a = false ∧ isStarE b = false) ∧ (!(foldedForSure 8 a && foldedForSure 8 b)) = true ∧ (!(constantsAlone 8 a && constantsAlone 8 b)) = true) ∨
    ∃ x px y py z pz a b c, ts = [.Name x px, .Name y py, .Name z pz] ∧ vs = [a, b, c] ∧ (isLocal sc x = true ∧ isLocal sc y = true ∧ isLocal sc z = true) ∧ ((py.line == px.line) = true ∧ (pz.line == px.line) = true) ∧ (x ≠ y ∧ x ≠ z ∧ y ≠ z) ∧ (isStarE a = false ∧ isStarE b = false ∧ isStarE c = false) ∧ (!(foldedForSure 8 a && (foldedForSure 8 b && foldedForSure 8 c))) = true ∧ (!(constantsAlone 8 a && (constantsAlone 8 b && constantsAlone 8 c))) = true := by
  unfold parOk at h
  split at h
  · rename_i x px y py a b
    rw [Bool.and_eq_true, Bool.and_eq_true, Bool.and_eq_true, Bool.and_eq_true, Bool.and_eq_true, Bool.and_eq_true, Bool.and_eq_true] at h
    obtain ⟨⟨⟨⟨⟨⟨⟨h1, h2⟩, h3⟩, h4⟩, h5⟩, h6⟩, h7⟩, h8⟩ := h
    exact .inl ⟨x, px, y, py, a, b, rfl, rfl, ⟨h1, h2⟩, h3, ne_of_beq h4, ⟨by simpa using h5, by simpa using h6⟩, h7, h8⟩
  · rename_i x px y py z pz a b c
    rw [Bool.and_eq_true, Bool.and_eq_true, Bool.and_eq_true, Bool.and_eq_true, Bool.and_eq_true, Bool.and_eq_true, Bool.and_eq_true, Bool.and_eq_true, Bool.and_eq_true, Bool.and_eq_true, Bool.and_eq_true, Bool.and_eq_true] at h
    obtain ⟨⟨⟨⟨⟨⟨⟨⟨⟨⟨⟨⟨h1, h2⟩, h2'⟩, h3⟩, h3'⟩, h4⟩, h4'⟩, h4''⟩, h5⟩, h6⟩, h6'⟩, h7⟩, h8⟩ := h
    exact .inr ⟨x, px, y, py, z, pz, a, b, c, rfl, rfl, ⟨h1, h2, h2'⟩, ⟨h3, h3'⟩, ⟨ne_of_beq h4, ne_of_beq h4', ne_of_beq h4''⟩, ⟨by simpa using h5, by simpa using h6, by simpa using h6'⟩, h7, h8⟩
  · cases h
theorem j_asg (O : Okx C ret K xs Φ W X sc) (kd : sc.kind = .function) {tg x : Expr} {s : S} (h : cAsg C sc tg x = some s) (hk : ckS ret r (n + 1) s T = some o) : PS X (.Assign [tg] x pos) (tSt K Φ W s r T o) := by
  have kdx : X.env.scope.kind = .function := by rw [O.hs]; exact kd
  have gen0 : (∀ y p, tg ≠ .Name y p) → (¬ (isTupE tg = true ∧ isTupE x = true)) → ((cT C 20 sc tg).bind fun t => (cE C 60 sc x).map fun y => S.asg t y) = some s → PS X (.Assign [tg] x pos) (tSt K Φ W s r T o) := fun hnn ht h => by
    simp only [Option.bind_eq_some_iff, Option.map_eq_some_iff] at h
    obtain ⟨et, h1, ex, h2, rfl⟩ := h
    obtain ⟨t, T1, T2, k1, k2, rfl⟩ := i_asg hk
    refine r_asg ((jd ret K xs Φ 60 60).v O h2 k1) (j_tT O h1 k2) O.w ?_ ?_ ?_
    · cases tg <;> first | exact absurd rfl (hnn _ _) | (cases x <;> rfl)
    · cases tg <;> first | rfl | (cases x <;> first | rfl | exact absurd ⟨rfl, rfl⟩ ht | cases h1)
    · rw [cT_nostar h1 []]; rfl
  have gen : (∀ y p, tg ≠ .Name y p) → (if tupOk sc tg x = false then none else (cT C 20 sc tg).bind fun t => (cE C 60 sc x).map fun y => S.asg t y) = some s → PS X (.Assign [tg] x pos) (tSt K Φ W s r T o) := fun hnn h => by
    split at h
    · cases h
    · rename_i ht
      by_cases hb : isTupE tg = true ∧ isTupE x = true
      · obtain ⟨hb1, hb2⟩ := hb
        cases tg <;> first | cases hb1 | skip
        cases x <;> first | cases hb2 | skip
        rename_i ts k pt vs k2 pt2 _
        have hp : parOk sc ts vs = true := by
          have : tupOk sc (.Tuple ts k pt) (.Tuple vs k2 pt2) = parOk sc ts vs := rfl
          rw [this] at ht; simpa using ht
        simp only [Option.bind_eq_some_iff, Option.map_eq_some_iff] at h
        obtain ⟨et, h1, ex, h2, rfl⟩ := h
        obtain ⟨t, T1, T2, k1, k2, rfl⟩ := i_asg hk
        obtain ⟨n', y', e59, rfl, h3, _⟩ := i_tup h2
        obtain rfl : n' = 59 := by omega
        obtain ⟨u, k3, hu⟩ := ck_tup (m := 59) k1
        obtain ⟨n2, z', _, rfl, h4⟩ := iT_tup h1
        have hN : X.N.Nodup := by rw [O.hN]; exact O.nd
        have lk : ∀ {x : Str}, isLocal sc x = true → X.env.scope.names.lookup x = some .local := fun h => by rw [O.hs]; exact isLocal_ok h
        have ix : ∀ {x : Str} {i : Nat}, idxS x C.N 0 = some i → X.N[i]? = some x := fun h => by rw [O.hN]; exact idxS_at h
        rcases parOk_inv hp with ⟨x, px, y, py, a, b, rfl, rfl, ⟨l1, l2⟩, q1, q2, ⟨q3, q4⟩, q5, q6⟩ | ⟨x, px, y, py, z, pz, a, b, c, rfl, rfl, ⟨l1, l2, l3⟩, ⟨q1, q1'⟩, ⟨q2, q2', q2''⟩, ⟨q3, q4, q4'⟩, q5, q6⟩
        · obtain ⟨_, _, _, rfl, rfl, h5, h6⟩ := cTs_nn h4
          obtain ⟨_, _, _, rfl, rfl, h7, h8⟩ := cTs_nn h6
          have e0 := cTs_n0 h8
          subst e0
          obtain ⟨i, rfl, _, hi⟩ := iT_name h5
          obtain ⟨j, rfl, _, hj⟩ := iT_name h7
          exact r_par2 O.calm hN (ix hi) (ix hj) q2 (lk l1) (lk l2) (sw2 kdx (lk l1) (lk l2) q1 q2 q3 q4 q5 q6) ((jd ret K xs Φ 59 _).ls O h3 k3) O.w (fun ρ p hp => cEs_len h3 hp) k2 hu
        · obtain ⟨_, _, _, rfl, rfl, h5, h6⟩ := cTs_nn h4
          obtain ⟨_, _, _, rfl, rfl, h7, h8⟩ := cTs_nn h6
          obtain ⟨_, _, _, rfl, rfl, h9, h10⟩ := cTs_nn h8
          have e0 := cTs_n0 h10
          subst e0
          obtain ⟨i, rfl, _, hi⟩ := iT_name h5
          obtain ⟨j, rfl, _, hj⟩ := iT_name h7
          obtain ⟨l, rfl, _, hl⟩ := iT_name h9
          exact r_par3 O.calm hN (ix hi) (ix hj) (ix hl) q2 q2' q2'' (lk l1) (lk l2) (lk l3) (sw3 kdx (lk l1) (lk l2) (lk l3) q1 q1' q2 q2' q2'' q3 q4 q4' q5 q6) ((jd ret K xs Φ 59 _).ls O h3 k3) O.w (fun ρ p hp => cEs_len h3 hp) k2 hu
      · exact gen0 hnn hb h
  cases tg with
  | Name y py =>
    have h : (if (isLoc C sc y && lcOk sc y py x) = true then (idxS y C.N 0).bind fun i => (cE C 60 sc x).map fun e => S.asg (.var i) e else none) = some s := h
    split at h
    · rename_i hc
      simp only [Bool.and_eq_true] at hc
      simp only [Option.bind_eq_some_iff, Option.map_eq_some_iff] at h
      obtain ⟨i, h1, ex, h2, rfl⟩ := h
      obtain ⟨t, T1, T2, k1, k2, rfl⟩ := i_asg hk
      have k2 : (if i < T1.length then some (T1.set i t) else none) = some T2 := k2
      split at k2
      · rename_i hl
        cases k2
        obtain ⟨l1, l2⟩ := isLoc_ok hc.1
        have hN : X.N.Nodup := by rw [O.hN]; exact O.nd
        have hi : X.N[i]? = some y := by rw [O.hN]; exact idxS_at h1
        have plain : (∀ l, swapsWith x (some (.Name y py)) l X.env = pure false) → PS X (.Assign [.Name y py] x pos) (tSt K Φ W (.asg (.var i) ex) r T ⟨some (T1.set i t), none, none⟩) := fun hx => by
          refine r_set hN hi (by rw [O.hs]; exact l1) ?_ ((jd ret K xs Φ 60 60).v O h2 k1) O.w hl (hx _)
          rcases l2 with h | ⟨h, h'⟩
          · exact .inr (by rw [O.hs]; exact h)
          · exact .inl (O.fn _ h h')
        have kd' : X.env.scope.kind = .function := by rw [O.hs]; exact kd
        cases x with
        | ListComp elt gs scope p =>
          obtain ⟨n', tg, it, ifs, ei, tt, c, y', e0, rfl, hb, rfl, c1, c2, c3, c4⟩ := i_comp h2
          cases e0
          obtain ⟨ti, Ta, is, T0, te, q1, hi', hs, ho, hio, hN', q2, q3, pc, pe, rfl⟩ := ck_comp (m := 59) k1
          have ok : BlkOk X.N X.env.scope scope (ownOf C.N scope) := by rw [O.hN, O.hs]; exact blkOk_by hb
          cases hsw : swB X.env.scope y py scope p with
          | false => exact plain fun l => sw_falseL kd' hsw
          | true =>
          unfold swB at hsw
          simp only [Bool.and_eq_true, Bool.not_eq_true'] at hsw
          have hloc : X.env.scope.names.lookup y = some .local := by
            have := hsw.1.1
            split at this
            · assumption
            · cases this
          exact (ps_setLc O.calm hN hi hloc (sw_true kd' hloc hsw.1.2 hsw.2) ((jd ret K xs Φ 59 59).it O c1 q1) ok (fun s H a cl fp => j_tN (O.blk s H scope cl a fp) c2 hN') (fun s H a cl fp => j_ifs (m := 59) (fun a ha => jd ret K xs Φ a) (O.blk s H scope cl a fp) c3 q2)
            (fun s H a cl fp => (jd ret K xs Φ 59 59).v (O.blk s H scope cl a fp) c4 q3) (it_fold c1)).wk fun D σ H q => lc_rd O.w hs ho hi' hio pc pe hN' (set_rd O.w hl q)
        | SetComp _ _ _ _ => exact absurd hc.2 (by simp [lcOk, isComp])
        | DictComp k v gs scope p =>
          have hsw : (!swB sc y py scope p) = true := hc.2
          exact plain fun l => sw_falseD kd' (by rw [O.hs]; simpa using hsw)
        | _ => exact plain fun _ => rfl
      · cases k2
    · cases h
  | _ => exact gen (by simp) h
theorem st_le {st : Stmt} {s : S} (h : PS X st (tSt K Φ W s r T1 o)) (l : le T T1) : PS X st (tSt K Φ W s r T o) :=
  h.wk fun D σ H ⟨H0, G, ρ, F, I, q⟩ => by
    obtain ⟨G', F', g, I'⟩ := I.le l
    exact ⟨H0, G', ρ, F', I', OutP.later g q⟩
end
end Rf
end

section
/-! Rf5e: bodies: what is compiled and checked does what its data say. -/
namespace Rf
open PySem PySem.Spec PyProof.Rows L2
section
variable {ret : Nat → Ow} {K : PySem.W.Frag} {xs : XS} {Φ : Calls} {C : Cc} {W : Wx} {X : Cx} {sc : Scope} {r : Ow}
theorem ret_inv {n : Nat} {e : E} {T : Ty1} {o : Tyo} (h : ckS ret r (n + 1) (.ret e) T = some o) : ∃ t T1, ck ret true 60 e T = some (t, T1) ∧ sub1 t r = true ∧ o = ⟨none, none, none⟩ := by
  have h : ((ck ret true 60 e T).bind fun p => if sub1 p.1 r = true then some (⟨none, none, none⟩ : Tyo) else none) = some o := h
  rw [Option.bind_eq_some_iff] at h
  obtain ⟨⟨t, T1⟩, h1, h2⟩ := h
  split at h2
  · rename_i hs; cases h2; exact ⟨t, T1, h1, hs, rfl⟩
  · cases h2
theorem subs_frz : ∀ T : Ty1, subs T (frzT T) = true
  | [] => rfl
  | t :: r => by
    show (sub t (if isVal t = true then Ow.fz else .dead) && subs r (frzT r)) = true
    rw [subs_frz r, Bool.and_true]
    cases t <;> rfl
theorem t_bor {c : Expr} {ec : E} {T T' : Ty1} (h : PT X c (tTst K Φ W ec (frzT T) T')) (hp : pur ec = true) (w : WOk W) : PT X c (tTst K Φ W ec T T) :=
  h.wk fun σ H Q ⟨H0, G, ρ, F, I, q⟩ => by
    obtain ⟨G', F', g, I', _⟩ := I.weak (subs_frz T)
    refine ⟨H0, G', ρ, F', I', q.imp w (Same.refl _) fun p ep k G1 H1 F1 g1 s1 I1 => ?_⟩
    have e := ev_pur ec hp ep
    have s := s1 hp
    exact k G H1 F (.refl _ _) (fun _ => s) (by rw [e]; exact I.grow s)
theorem j_tst (O : Okx C ret K xs Φ W X sc) {c : Expr} {z : E} {T T1 : Ty1} (h1 : cE C 60 sc c = some z) (k : ckB ret z T = some T1) : PT X c (tTst K Φ W z T T1) := by
  unfold ckB at k
  split at k
  · rename_i hq
    rw [Bool.and_eq_true] at hq
    obtain ⟨T', h⟩ := Option.isSome_iff_exists.mp hq.2
    cases k
    exact t_bor ((jd ret K xs Φ 60 60).t O h1 h) hq.1 O.w
  · exact (jd ret K xs Φ 60 60).t O h1 k
theorem j_each (O : Okx C ret K xs Φ W X sc) (po : PassesOwn (model X.prog X.w) X.A X.env X.xe) {tg it : Expr} {b : List Stmt} {p : Pos} {s : S} {m : Nat} {T : Ty1} {o : Tyo} (h : eachS C sc tg it b = some s) (hk : ckS ret r (m + 1) s T = some o) : PS X (.For tg it b [] p) (tSt K Φ W s r T o) := by
  unfold eachS at h
  split at h
  · rename_i x px l pl x' px' mm ap a cp ep
    split at h
    · rename_i hc
      simp only [Bool.and_eq_true, beq_iff_eq] at hc
      obtain ⟨⟨⟨⟨⟨⟨⟨rfl, rfl⟩, h3⟩, h4⟩, h5⟩, h6⟩, h7⟩, h8⟩ := hc
      simp only [Option.bind_eq_some_iff] at h
      obtain ⟨i, hi, j, hj, e, he, h⟩ := h
      split at h
      · rename_i k
        cases h
        have hk : (if (decide (T[i]? = some (.lst (.lst .fz))) && decide (i ≠ j) && decide (j < T.length)) = true then some (⟨some ((T.set j .dead).set i (.lst (.lst .fz))), none, none⟩ : Tyo) else none) = some o := hk
        split at hk
        · rename_i hq
          cases hk
          simp only [Bool.and_eq_true, decide_eq_true_eq] at hq
          obtain ⟨v, P, f⟩ := j_lit O he
          have ev : v = .int k := by have := f (fun _ => none); cases this; rfl
          subst ev
          exact r_each po O.calm O.hK (O.name h6 h7 hi) (g_ok O h3 hj) (O.name h4 h5 hj) P (c_nostar he) (j_mok O (fun a ha => by rw [List.mem_singleton] at ha; subst ha; exact c_nostar he) (by simpa using h8) (by simp)) rfl hq.1.1 hq.1.2 hq.2
        · cases hk
      · cases h
    · cases h
  · cases h
mutual
theorem j_s (O : Okx C ret K xs Φ W X sc) (kd : sc.kind = .function) (po : PassesOwn (model X.prog X.w) X.A X.env X.xe) : ∀ {n m : Nat} {x : Stmt} {s : S} {T : Ty1} {o : Tyo}, cS C n sc x = some s → ckS ret r m s T = some o → PS X x (tSt K Φ W s r T o)
  | 0, m, x, s, T, o, h, hk => by cases h
  | n + 1, 0, x, s, T, o, h, hk => by cases hk
  | n + 1, m + 1, x, s, T, o, h, hk => by
    cases x with
    | Pass p =>
      have h : some S.skip = some s := h
      cases h
      have hk : some (⟨some T, none, none⟩ : Tyo) = some o := hk
      cases hk
      exact r_pass
    | Break p =>
      have h : some S.brk = some s := h
      cases h
      have hk : some (⟨none, some T, none⟩ : Tyo) = some o := hk
      cases hk
      exact r_brk
    | Continue p =>
      have h : some S.cnt = some s := h
      cases h
      have hk : some (⟨none, none, some T⟩ : Tyo) = some o := hk
      cases hk
      exact r_cnt
    | Return e p =>
      cases e with
      | none =>
        have h : some (S.ret (.lit .none)) = some s := h
        cases h
        obtain ⟨t, T1, k1, hs, rfl⟩ := ret_inv hk
        have k1 : some (Ow.fz, T) = some (t, T1) := k1
        cases k1
        exact r_retN hs
      | some e =>
        have h : (cE C 60 sc e).map S.ret = some s := h
        rw [Option.map_eq_some_iff] at h
        obtain ⟨y, h1, rfl⟩ := h
        obtain ⟨t, T1, k1, hs, rfl⟩ := ret_inv hk
        exact r_ret ((jd ret K xs Φ 60 60).v O h1 k1) O.w hs
    | Expr e p =>
      have h : (if isComp e = true then none else (cE C 60 sc e).map S.ex) = some s := h
      split at h
      · cases h
      · rename_i hc
        rw [Option.map_eq_some_iff] at h
        obtain ⟨y, h1, rfl⟩ := h
        have hk : ((ck ret false 60 y T).map fun p => (⟨some p.2, none, none⟩ : Tyo)) = some o := hk
        rw [Option.map_eq_some_iff] at hk
        obtain ⟨⟨t, T1⟩, k1, rfl⟩ := hk
        refine r_expr ((jd ret K xs Φ 60 60).v O h1 k1) O.w ?_
        cases e <;> first | rfl | exact absurd rfl hc
    | Assign tgs e p =>
      rcases tgs with _ | ⟨tg, _ | ⟨tg2, r⟩⟩
      · cases h
      · exact j_asg O kd h hk
      · cases h
    | AugAssign tg op e p =>
      cases tg with
      | Name y py =>
        have h : (if isLoc C sc y = true then (idxS y C.N 0).bind fun i => (augOp op).bind fun o => (cE C 60 sc e).map fun y => S.aug i o y else none) = some s := h
        split at h
        · rename_i hl
          simp only [Option.bind_eq_some_iff, Option.map_eq_some_iff] at h
          obtain ⟨i, h1, bo, h2, ex, h3, rfl⟩ := h
          have hk : ((ckb ret 60 ex T).bind fun p => if (pur ex && decide (i < p.2.length) && augOk T[i]?) = true then some (⟨some (p.2.set i .fz), none, none⟩ : Tyo) else none) = some o := hk
          rw [Option.bind_eq_some_iff] at hk
          obtain ⟨⟨t, T1⟩, k1, k2⟩ := hk
          split at k2
          · rename_i hq
            simp only [Bool.and_eq_true, decide_eq_true_eq] at hq
            cases k2
            obtain ⟨l1, l2⟩ := isLoc_ok hl
            refine r_aug (by rw [O.hN]; exact O.nd) (by rw [O.hN]; exact idxS_at h1) (by rw [O.hs]; exact l1) ?_ (s_toD ((jd ret K xs Φ 60 60).b O h3 k1) O.w) O.w hq.1.1 hq.1.2 ?_ ?_
            · rcases l2 with h | ⟨h, h'⟩
              · exact .inr (by rw [O.hs]; exact h)
              · exact .inl (O.fn _ h h')
            · unfold augOp at h2
              split at h2
              · cases h2; exact .inl ⟨rfl, rfl⟩
              · cases h2; exact .inr ⟨rfl, rfl⟩
              · cases h2
            · have := hq.2
              unfold augOk at this
              split at this
              · rename_i e; exact .inl e
              · rename_i e; exact .inr e
              · cases this
          · cases k2
        · cases h
      | _ => cases h
    | If c a b p =>
      have h : ((cE C 60 sc c).bind fun z => (cSs C n sc a).bind fun x => (cSs C n sc b).map fun y => S.ite z x y) = some s := h
      simp only [Option.bind_eq_some_iff, Option.map_eq_some_iff] at h
      obtain ⟨z, h1, sa, h2, sb, h3, rfl⟩ := h
      obtain ⟨T1, x, y, n', b', c', k1, k2, k3, k4, k5, k6, rfl⟩ := i_if hk
      exact r_if (j_tst O h1 k1) (j_ss O kd po h2 k2) (j_ss O kd po h3 k3) O.w ⟨(jC_l k4).1, (jC_l k5).1, (jC_l k6).1⟩ ⟨(jC_l k4).2, (jC_l k5).2, (jC_l k6).2⟩ (ck_fits Φ k2) (ck_fits Φ k3)
    | While c a b p =>
      cases b with
      | nil =>
        have h : ((cE C 60 sc c).bind fun z => (cSs C n sc a).map fun x => S.wh z x) = some s := h
        simp only [Option.bind_eq_some_iff, Option.map_eq_some_iff] at h
        obtain ⟨z, h1, sa, h2, rfl⟩ := h
        obtain ⟨n', T2, T1, ob, Tq, _, k1, k2, k3, k4, k5, k6, rfl⟩ := i_while (show ckW ret r m 6 z sa T T = some o from hk)
        exact st_le (r_while po ((jd ret K xs Φ 60 60).t O h1 k1) (j_ss O kd po h2 k2) O.w (ck_fits Φ k2) k3 k4 k6) k5
      | cons _ _ => cases h
    | For tg it a b p =>
      cases b with
      | nil =>
        have h : (match eachS C sc tg it a with
          | some s => some s
          | none => (cItE C 60 sc tg it).bind fun i => (cT C 20 sc tg).bind fun t => (cSs C n sc a).map fun x => S.for_ t i x) = some s := h
        cases hee : eachS C sc tg it a with
        | some s' =>
          rw [hee] at h
          cases h
          exact j_each O po hee hk
        | none =>
        rw [hee] at h
        have h : ((cItE C 60 sc tg it).bind fun i => (cT C 20 sc tg).bind fun t => (cSs C n sc a).map fun x => S.for_ t i x) = some s := h
        simp only [Option.bind_eq_some_iff, Option.map_eq_some_iff] at h
        obtain ⟨ei, h1, et, h2, sa, h3, rfl⟩ := h
        have hk : ((ckI ret ei T).bind fun T => ckF ret r m 6 et sa T T) = some o := hk
        rw [Option.bind_eq_some_iff] at hk
        obtain ⟨Ta, k0, hk⟩ := hk
        obtain ⟨n', T1, T2, ob, Tq, _, k1, k2, k3, k4, k5, k6, rfl⟩ := i_for hk
        exact r_for po O.calm (j_for O h1 k0) (j_tT O h2 k1) (j_ss O kd po h3 k2) O.w (ck_fits Φ k2) k5 k3 k4 k6 (it_fold h1)
      | cons _ _ => cases h
    | _ => cases h
theorem j_ss (O : Okx C ret K xs Φ W X sc) (kd : sc.kind = .function) (po : PassesOwn (model X.prog X.w) X.A X.env X.xe) : ∀ {n m : Nat} {x : List Stmt} {s : S} {T : Ty1} {o : Tyo}, cSs C n sc x = some s → ckS ret r m s T = some o → PSs X x (tSt K Φ W s r T o)
  | 0, m, x, s, T, o, h, hk => by cases h
  | n + 1, 0, x, s, T, o, h, hk => by cases hk
  | n + 1, m + 1, [], s, T, o, h, hk => by
    have h : some S.skip = some s := h
    cases h
    have hk : some (⟨some T, none, none⟩ : Tyo) = some o := hk
    cases hk
    exact r_nil
  | n + 1, m + 1, x :: rest, s, T, o, h, hk => by
    have h : ((cS C n sc x).bind fun x => (cSs C n sc rest).map fun y => S.seq x y) = some s := h
    simp only [Option.bind_eq_some_iff, Option.map_eq_some_iff] at h
    obtain ⟨a, h1, b, h2, rfl⟩ := h
    obtain ⟨oa, k1, ⟨e, rfl⟩ | ⟨T1, p, b', c, e1, k2, k3, k4, rfl⟩⟩ := i_seq hk
    · exact r_seq0 (j_s O kd po h1 k1) e (ck_fits Φ k1)
    · exact r_seq (j_s O kd po h1 k1) e1 (j_ss O kd po h2 k2) (ck_fits Φ k1) (ck_fits Φ k2) ⟨fun T e => ⟨T, e, .inl rfl⟩, (jC_l k3).2, (jC_l k4).2⟩ (jC_l k3).1 (jC_l k4).1
end
end
end Rf
end

section
/-! Rf6: a def keeps what its data say. -/
namespace Rf
open PySem PySem.Spec PyProof.Rows L2
/-- exceptions do not leave a def -/
def xs0 : XS := ⟨fun _ => Value.none, fun _ _ _ _ => True⟩
/-- what a def promises: no exception leaves it -/
def sp0 (K : PySem.W.Frag) (Φ : Calls) (f : Nat) (n : Nat) (t : Ow) : Sp := fun vs H Q _ => vs.length = n ∧ ∃ G ds, Same G H ∧ FzA K G vs ds ∧
  Pst Wn H (Φ f ds) fun d => ∀ v G' H' Fv, GS H G G' → Same G' H' → Same H H' → R K G' H' t v d Fv → Fv.Nodup → (∀ a ∈ Fv, H a = none) → Q v H'
theorem sp_sp0 {K : PySem.W.Frag} {Φ : Calls} {f n : Nat} {t : Ow} : ∀ vs H Q, spD K xs0 Φ f n t vs H Q E0 → sp0 K Φ f n t vs H Q E0 := fun vs H Q ⟨h1, G, ds, h2, h3, h4⟩ => ⟨h1, G, ds, h2, h3, by
  cases e : Φ f ds with
  | ok d => rw [e] at h4; exact h4
  | exn c as => rw [e] at h4; exact absurd (h4 none H (Same.refl H) trivial) id
  | stk => rw [e] at h4; exact h4⟩
/-- None is such a value -/
def okNone : Ow → Bool
  | .fz => true
  | .lst .fz => true
  | _ => false
theorem okNone_R {K : PySem.W.Frag} {G H : Hp} : ∀ {t : Ow}, okNone t = true → R K G H t .non .none []
  | .fz, _ => ⟨rfl, .non⟩
  | .lst .fz, _ => .inr ⟨rfl, rfl, .non, rfl⟩
/-- how the text of a def is checked -/
structure DefOk (C : Cc) (ret : Nat → Ow) (f : Nat) (st : Stmt) (N ps : List Str) (body : S) : Prop where
  sc : FnScope N ps (defScope st)
  hN : C.N = N
  hb : C.blk = none
  hc : cSs C 200 (defScope st) (defBody st) = some body
  ck : ∃ o, ckS ret (ret f) 200 body (List.replicate ps.length .fz ++ List.replicate (N.length - ps.length) .bot) = some o ∧ o.b = none ∧ o.c = none ∧ (o.n = none ∨ okNone (ret f) = true)
  le : ps.length ≤ N.length
section
variable {P : Program} {w : World} {K : PySem.W.Frag} {mg : Str → Option Value} {base : Heap}
/-- the module's names as the compiler takes them, calls to a depth -/
structure GlOk (P : Program) (w : World) (K : PySem.W.Frag) (mg : Str → Option Value) (base : Heap) (gl : List (Str × GV)) (bl : List Str) (ret : Nat → Ow) (Φ : Calls) (k : Nat) : Prop where
  blt : ∀ x, gl.lookup x = none ∧ x ∈ bl → mg x = none
  gcd : ∀ x, gl.lookup x = some .gcd → mg x = some (.builtin "math.gcd")
  cst : ∀ x d, gl.lookup x = some (.cst d) → ∃ u v, mg x = some u ∧ RelV v u ∧ ∀ G, Fz K G v d
  kdc : ∀ x kvs, gl.lookup x = some (.kdc kvs) → ∃ a, mg x = some (.ref a) ∧ KdOk K w a kvs
  call : ∀ x f n, gl.lookup x = some (.fn f n) → ∃ fa fd ps, FnOk P w K mg base CX0 k fa fd ps (sp0 K Φ f n (ret f)) ∧ mg x = some (.ref fa) ∧ PySem.W.keepIn K (.ref fa) = true ∧ Binds K fd ps []
/-- the body of a def, in any surroundings (where repr is compiled, nothing's repr may be under way) -/
theorem body_ok {C : Cc} {ret : Nat → Ow} {Φ : Calls} {f : Nat} {qual : Str} {st : Stmt} {fa : Addr} {N ps : List Str} {body : S} {k : Nat} {Φ' : Calls} {cdv : Value} {A : Around} {outer : List PySem.Env} {s : Shared} {H : Hp} {vs : List V} {Q : VK} {E : XK} (D : DefOk C ret f st N ps body) (g : GlOk P w K mg base C.gl C.bl ret Φ k)
    (hΦ : ∀ ds, Φ' f ds = runFn Φ ⟨ps.length, N.length, body⟩ ds) (hrp : C.rp = true → A.guards = some []) (hr : Room k (A.deeper (envOfC qual (defScope st) s.heap.objs.size fa cdv))) (hsp : sp0 K Φ' f ps.length (ret f) vs H Q E) :
    ∃ t, PSs (cxOf CX0 P w K mg base N qual (defScope st) fa cdv A outer s H E).nox (defBody st) t ∧ t { nx := fun _ H' => Q .non H', rt := Q } (start N vs) H := by
  obtain ⟨hl, G, ds, sG, fz, hp⟩ := hsp
  obtain ⟨o, hk, ob, oc, on⟩ := D.ck
  have O : Okx C ret K xs0 Φ Wn (cxOf CX0 P w K mg base N qual (defScope st) fa cdv A outer s H E).nox (defScope st) := {
    hK := rfl
    hs := rfl
    hN := D.hN.symm
    nd := by rw [D.hN]; exact D.sc.nd
    calm := rfl
    un := by have := hr.un; show (A.deeper _).units + 65 < cLine; omega
    w := wn_ok
    rp := hrp
    fn := fun _ _ _ => rfl
    blt := g.blt
    gcd := g.gcd
    cst := g.cst
    kdc := g.kdc
    call := fun y f n hy => by
      obtain ⟨fa, fd, ps, h1, h2, h3, h4⟩ := g.call y f n hy
      exact ⟨CX0, k, fa, fd, ps, E0, _, h1, sp_sp0, sp_sp0, hr, h2, h3, h4, fun c as H w => w.elim, pass0, fun _ _ _ _ _ => pass0⟩ }
  refine ⟨_, j_ss O D.sc.kind PassesOwn.never D.hc hk, H, G, ds.map some ++ List.replicate (N.length - ps.length) none, fun _ => [], ?_, ?_⟩
  · have hd : ds.length = ps.length := fz.len.symm.trans hl
    refine ⟨sG, Same.refl H, ?_, ?_, fun i t d e1 e2 e3 => ?_, fun _ => .nil, fun i j a h => (by cases h), fun i a h => (by cases h)⟩
    · unfold L2.start
      rw [List.length_append, List.length_map, List.length_replicate, List.length_append, List.length_map, List.length_replicate, hl, hd]
    · rw [List.length_append, List.length_replicate, List.length_replicate, List.length_append, List.length_map, List.length_replicate, hd]
    · by_cases hi : i < ds.length
      · rw [List.getElem?_append_left (by rw [List.length_map]; exact hi)] at e3
        rw [List.getElem?_map] at e3
        rw [List.getElem?_append_left (by rw [List.length_replicate]; omega)] at e1
        obtain ⟨h1, h2⟩ := List.getElem?_eq_some_iff.mp e1
        rw [List.getElem_replicate] at h2
        subst h2
        cases hd2 : ds[i]? with
        | none => rw [hd2] at e3; cases e3
        | some d' =>
          rw [hd2] at e3
          cases e3
          obtain ⟨v, q1, q2⟩ := fz.get hd2
          refine ⟨v, ?_, rfl, q2⟩
          unfold L2.start
          rw [List.getElem?_append_left (by rw [List.length_map, fz.len]; exact hi), List.getElem?_map, q1]
          rfl
      · rw [List.getElem?_append_right (by rw [List.length_map]; omega)] at e3
        obtain ⟨h1, h2⟩ := List.getElem?_eq_some_iff.mp e3
        rw [List.getElem_replicate] at h2
        cases h2
  · have hd : ds.length = ps.length := fz.len.symm.trans hl
    rw [hΦ] at hp
    unfold runFn at hp
    rw [if_pos ⟨hd, D.le⟩] at hp
    have ft := ck_fits Φ hk (ds.map some ++ List.replicate (N.length - ps.length) none)
    cases e : exec Φ body (ds.map some ++ List.replicate (N.length - ps.length) none) with
    | next ρ' =>
      rw [e] at hp ft
      have hp : ∀ v G' H' Fv, GS H G G' → Same G' H' → Same H H' → R K G' H' (ret f) v .none Fv → Fv.Nodup → (∀ a ∈ Fv, H a = none) → Q v H' := hp
      rcases on with on | on
      · exact absurd on ft
      · cases en : o.n with
        | none => exact absurd en ft
        | some T' =>
          refine ⟨T', en, fun σ' G' H' F' gg I => ?_⟩
          exact hp .non G' H' [] gg I.gh I.h0 (okNone_R on) .nil (fun a h => by cases h)
    | brk ρ' => rw [e] at ft; exact absurd ob ft
    | cnt ρ' => rw [e] at ft; exact absurd oc ft
    | ret d => rw [e] at hp; exact hp
    | exn c as => rw [e] at hp; exact hp
    | stk => rw [e] at hp; exact hp
theorem def_ok {C : Cc} {ret : Nat → Ow} {Φ : Calls} {f : Nat} {x qual : Str} {st : Stmt} {fa : Addr} {fd : FuncData} {N ps : List Str} {body : S} {k : Nat} {Φ' : Calls} (F : Fun K x qual st fa fd) (D : DefOk C ret f st N ps body) (g : GlOk P w K mg base C.gl C.bl ret Φ k) (hrp : C.rp = false)
    (hΦ : ∀ ds, Φ' f ds = runFn Φ ⟨ps.length, N.length, body⟩ ds) : FnOk P w K mg base CX0 (k + 1) fa fd ps (sp0 K Φ' f ps.length (ret f)) :=
  F.ok D.sc (fun vs H Q E h => h.1) fun cdv A outer s H vs Q E hr hsp => body_ok D g hΦ (fun h => by rw [hrp] at h; cases h) hr hsp
end
end Rf
end

section
/-! Rf7: a program's defs, to any depth. -/
namespace Rf
open PySem PySem.Spec PyProof.Rows L2
section
variable {P : Program} {w : World} {K : PySem.W.Frag} {mg : Str → Option Value} {base : Heap}
/-- the module as it stands: what its names are, and how its defs are compiled and checked -/
structure ProgOk (w : World) (K : PySem.W.Frag) (mg : Str → Option Value) (gl : List (Str × GV)) (bl : List Str) (ret : Nat → Ow) (fns : List Fn) : Prop where
  blt : ∀ x, gl.lookup x = none ∧ x ∈ bl → mg x = none
  gcd : ∀ x, gl.lookup x = some .gcd → mg x = some (.builtin "math.gcd")
  cst : ∀ x d, gl.lookup x = some (.cst d) → ∃ u v, mg x = some u ∧ RelV v u ∧ ∀ G, Fz K G v d
  kdc : ∀ x kvs, gl.lookup x = some (.kdc kvs) → ∃ a, mg x = some (.ref a) ∧ KdOk K w a kvs
  fn : ∀ x f n, gl.lookup x = some (.fn f n) → ∃ st N ps body fa fd qual, n = ps.length ∧ fns[f]? = some ⟨ps.length, N.length, body⟩ ∧ DefOk ⟨N, gl, none, false, bl⟩ ret f st N ps body ∧ Fun K x qual st fa fd ∧ mg x = some (.ref fa) ∧ PySem.W.keepIn K (.ref fa) = true ∧ Binds K fd ps []
theorem prog_ok {gl : List (Str × GV)} {bl : List Str} {ret : Nat → Ow} {fns : List Fn} (p : ProgOk w K mg gl bl ret fns) : ∀ n, GlOk P w K mg base gl bl ret (calls fns n) n
  | 0 => ⟨p.blt, p.gcd, p.cst, p.kdc, fun x f n h => by
    obtain ⟨st, N, ps, body, fa, fd, qual, rfl, h1, h2, h3, h4, h5, h6⟩ := p.fn x f n h
    exact ⟨fa, fd, ps, ⟨fun vs H Q E q => q.1, fun A outer s H args us vs Q E _ _ _ _ q => by
      obtain ⟨_, _, _, _, _, q⟩ := q
      exact (q : False).elim⟩, h4, h5, h6⟩⟩
  | m + 1 => ⟨p.blt, p.gcd, p.cst, p.kdc, fun x f n h => by
    obtain ⟨st, N, ps, body, fa, fd, qual, rfl, h1, h2, h3, h4, h5, h6⟩ := p.fn x f n h
    refine ⟨fa, fd, ps, def_ok h3 h2 (prog_ok p m) rfl (fun ds => ?_), h4, h5, h6⟩
    show (match fns[f]? with | some fn => runFn (calls fns m) fn ds | none => Res.stk) = _
    rw [h1]⟩
end
end Rf
end

section
/-! Rf8: the law's own def, called as the claim calls it; the end. -/
namespace Rf
open PySem PySem.Spec PyProof.Rows L2
section
variable {P : Program} {w : World} {K : PySem.W.Frag} {mg : Str → Option Value} {base : Heap}
/-- a def is run in surroundings that are known -/
theorem run_at {x qual : Str} {st : Stmt} {fa : Addr} {fd : FuncData} {N ps : List Str} {k : Nat} {A : Around} {outer : List PySem.Env} {s : Shared} {H : Hp} {args : Args} {us : List Value} {vs : List V} {Q : VK} {E : XK} (F : Fun K x qual st fa fd) (S : FnScope N ps (defScope st)) (hl : vs.length = ps.length) (hr : Room (k + 1) A)
    (e0 : Env0 P w K mg base A outer s H) (hb : BindsTo s fd args (ps.zip us)) (rv : Vals vs us)
    (hbody : ∀ cdv, Room k (A.deeper (envOfC qual (defScope st) s.heap.objs.size fa cdv)) → ∃ t, PSs (cxOf CX0 P w K mg base N qual (defScope st) fa cdv A outer s H E).nox (defBody st) t ∧ t { nx := fun _ H' => Q .non H', rt := Q } (start N vs) H) :
    codeAny (model P w) A (.call (.ref fa) args) (CR CX0 outer P w H s Q E) s := by
  obtain ⟨oc, od, kV, doc, pm, an, cdv, ct, osl, rfl, lk, hcd⟩ := F.ex
  have inK : K.In s.heap := e0.mod.kin.keeps fun b o q => (e0.bs b o q).1
  have hlim : s.heap.NoLimit := e0.mod.nolimit.keeps fun b o q => (e0.bs b o q).1
  have kinds : ∀ y ∈ ps.zip us, (defScope st).names.lookup y.1 = some .local ∨ ((defScope st).names.lookup y.1 = some .cell ∧ ((cellsFrom (s.heap.objs.size + 1) (defScope st).names []).lookup y.1).isSome = true) := fun ⟨nm, v⟩ hy => by
    rcases S.par nm (List.of_mem_zip hy).1 with h | h
    · exact .inl h
    · exact .inr ⟨h, PySem.W.cellsFrom_some _ _ _ (.inl h)⟩
  refine codeAny_call_function hr.depth (inK _ _ lk) rfl S.co S.gen rfl (PySem.W.codeRec_of inK hcd) (hb _ _ _ _ ?_)
  refine wpAny_newFunctionEnv_cells S.kind kinds fun env hv sA z => ?_
  subst hv
  refine ⟨hlim.keeps z.toInCall.keep, codeAny_func ?_⟩
  obtain ⟨t, ht, hq⟩ := hbody cdv (hr.deeper _)
  have I : Inv (cxOf CX0 P w K mg base N qual (defScope st) fa cdv A outer s H E) [] (start N vs) H sA := inv_start S hr.hd e0 hl rv z
  refine wpAny_mono (ht.nox.run [] sA (start N vs) H _ I hq) (fun fl s' hs => ?_) fun e s' hs => hs
  have done : ∀ {σ' : L2.St} {H' : Hp} {v : V} {u : Value}, Inv (cxOf CX0 P w K mg base N qual (defScope st) fa cdv A outer s H E) [] σ' H' s' → RelV v u → Q v H' → CE outer P w H s Q u s' := fun {_ H' v _} J r q => ⟨v, H', J.os, J.bare, J.base, J.hok, r, q⟩
  cases fl with
  | ret u => obtain ⟨v, σ', H', J, r, q⟩ := hs; exact done J r q
  | next => obtain ⟨σ', H', J, q⟩ := hs; exact done (v := V.non) (u := Value.none) J rfl q
  | brk => obtain ⟨_, _, _, q⟩ := hs; exact q.elim
  | cont => obtain ⟨_, _, _, q⟩ := hs; exact q.elim
/-- what the law's def must do, called with the script -/
def LawRun (P : Program) (w : World) (K : PySem.W.Frag) (mg : Str → Option Value) (fa : Addr) (n : Nat) : Prop :=
  ∀ (base : Heap) (s : Shared) (H : Hp) (a : Addr) (ns : List Int), Env0 P w K mg base callerA [] s H → ns.length ≤ n → SqL K H a (ns.map V.int) →
    codeAny (model P w) callerA (.call (.ref fa) ⟨[.ref a], []⟩) (CR CX0 [] P w H s (fun v _ => v = .bl true) E0) s
theorem head_call {mb : Str → Option Value} {fa a : Addr} {n : Nat} {s₁ : Shared} {vs : List Value} {ns : List Int} (inK : K.In s₁.heap) (hM : s₁.heap.Ns mainGlobals mg) (hB : s₁.heap.Ns builtinsNs mb) (hbb : ∀ x : Str, x ≠ "__name__" → mb x = bootBuiltins x)
    (hlim : s₁.heap.NoLimit) (gens : s₁.gens = #[]) (ha : s₁.heap.get? a = some { cls := .type "list", data := .seq vs.toArray }) (hi : IntsAre vs ns) (hl : ns.length ≤ n) (hn : n ≤ sizeLine) (L : LawRun P w K mg fa n) :
    codeAny (model P w) callerA (.call (.ref fa) ⟨[.ref a], []⟩) (fun r s' => r = .ok (.ret (.bool true)) ∧ OldK s₁.heap s'.heap ∧ s'.os = s₁.os ∧ AllBare s'.gens) s₁ := by
  have rv := vals_ints hi
  have hle := Nat.le_trans hl hn
  have core : ∀ H : Hp, Only H → SqL K H a (ns.map V.int) → HOk P w H s₁.heap → (∀ b, H b ≠ none → b = a) → (H a ≠ none → K.lookup a = none) →
      codeAny (model P w) callerA (.call (.ref fa) ⟨[.ref a], []⟩) (fun r s' => r = .ok (.ret (.bool true)) ∧ OldK s₁.heap s'.heap ∧ s'.os = s₁.os ∧ AllBare s'.gens) s₁ := by
    intro H hO hS ok only free
    have none_of : ∀ b, (b = a → H b = none) → H b = none := fun b h => by
      by_cases e : H b = none
      · exact e
      · exact h (only b e)
    have noD : ∀ {b : Addr} {o : Obj} {es : Array DictEntry} {ep : Nat}, s₁.heap.get? b = some o → o.data = .dict es ep → H b = none := fun {b o es ep} e d => none_of b fun eb => by
      subst eb
      rw [ha] at e; cases e; cases d
    have ns_ : ∀ {b : Addr} {m : Str → Option Value}, s₁.heap.Ns b m → (hidT s₁.heap H).Ns b m := fun {b m} ⟨o, es, ep, e, d, r⟩ => ⟨o, es, ep, hidT_get e (noD e d), d, r⟩
    have kb : K.In (hidT s₁.heap H) := fun b o e => hidT_get (inK b o e) (by
      by_cases z : H b = none
      · exact z
      · have eb := only b z
        subst eb
        rw [free z] at e; cases e)
    have e0 : Env0 P w K mg (hidT s₁.heap H) callerA [] s₁ H := {
      frames := rfl
      mod := ⟨kb, ns_ hM, ⟨mb, ns_ hB, hbb⟩, let ⟨mc, h1, h2⟩ := hlim; ⟨mc, ns_ h1, h2⟩⟩
      bs := fun b o e => of_hidT e
      bsz := Nat.le_of_eq (hidT_size _ _)
      funs := trivial
      frf := fun b hb => by cases hb
      hok := ok
      bare := .of_eq gens }
    refine codeAny_mono (L _ s₁ H a ns e0 hl hS) fun r s' h => ?_
    cases r with
    | error e => exact False.elim h
    | ok fl =>
      cases fl with
      | ret u =>
        obtain ⟨v, H', os, bare, un, ok', r', rfl⟩ := h
        cases (show u = Value.bool true from r')
        refine ⟨rfl, OldK.of_keep fun b o e => ?_, os, bare⟩
        cases z : H b with
        | none => exact un.keep b o e z (fun h => by cases h) (fun h => by cases h)
        | some y =>
          rcases hO b with z' | ⟨ob, xs, z'⟩
          · rw [z'] at z; cases z
          · obtain ⟨e1, _⟩ := ok b _ z'
            obtain ⟨e2, _⟩ := ok' b _ (un.frzs b ob _ z')
            rw [e] at e1; cases e1
            exact e2
      | _ => exact False.elim h
  by_cases hk : K.lookup a = none
  · refine core (fun b => if b = a then some (.frz { cls := .type "list", data := .seq vs.toArray } (.lst (ns.map V.int))) else none) (fun b => ?_) (.inl (.inr ⟨_, if_pos rfl⟩)) (fun b u z => ?_) (fun b z => ?_) fun _ => hk
    · by_cases eb : b = a
      · exact .inr ⟨_, _, if_pos eb⟩
      · exact .inl (if_neg eb)
    · by_cases eb : b = a
      · subst eb
        cases (if_pos rfl).symm.trans z
        exact ⟨ha, by rw [List.length_map]; exact hle, vs, _, rv, ha⟩
      · cases (if_neg eb).symm.trans z
    · by_cases eb : b = a
      · exact eb
      · exact absurd (if_neg eb) z
  · obtain ⟨o, ho⟩ := Option.ne_none_iff_exists'.mp hk
    have e := inK a o ho
    rw [ha] at e
    cases e
    exact core (fun _ => none) (fun _ => .inl rfl) (.inr ⟨_, vs.toArray, _, ho, rfl, rfl, rfl, by rw [List.size_toArray, hi.length]; exact hle, by simpa using rv⟩) (fun b u z => by cases z) (fun b z => absurd rfl z) fun z => absurd rfl z
/-- THE END: from the run of the law's def to the walk that the head asks -/
theorem walk_law {l : PySem.W.OpenLaw} {n : Nat} {q : Program} {loose : List Str} {XP : (Str → Option Value) → Heap → Prop} {YP : World → Heap → Prop} {d : DefRec} {K : Params → PySem.W.Frag} (hn : l.most = some n) (hn2 : n ≤ sizeLine) (hdf : d.params.defaults = [])
    (hY : ∀ (w : World) (h : Heap), YP w h → (K w.params).In h)
    (F : ∀ (w : World) (mg : Str → Option Value) (fa : Addr) (h : Heap), (K w.params).In h → h.Ns mainGlobals mg → mg d.name = some (.ref fa) → LawRun l.prog w (K w.params) mg fa n) :
    PySem.W.WalkO q loose XP YP l.row.toRowW d [] (fun f vs => PySem.call f vs) := by
  refine Att.attach_call hn hdf fun w s₀ s₁ mg mb fa o pm cd doc a vs ns G Y ho hd hcd hmg hobj hints hlen gens => ?_
  have inK := hY w _ Y
  exact head_call inK G.T.g G.T.b G.T.builtins G.T.nolimit gens hobj hints hlen hn2 (F w mg fa _ inK G.T.g hmg)
/-- the law's own def: true by data, true by the program -/
theorem law_run {gl : List (Str × GV)} {bl : List Str} {ret : Nat → Ow} {fns : List Fn} (p : ProgOk w K mg gl bl ret fns) {f m n : Nat} {x qual : Str} {st : Stmt} {fa : Addr} {fd : FuncData} {N : List Str} {pn : Str} {body : S} (F : Fun K x qual st fa fd) (D : DefOk ⟨N, gl, none, true, bl⟩ ret f st N [pn] body)
    (hb : ∀ (s : Shared) (u : Value), BindsTo s fd ⟨[u], []⟩ [(pn, u)]) (hr : Room (m + 1) callerA) (hret : ret f = .fz) (ht : ∀ ns : List Int, ns.length ≤ n → runFn (calls fns m) ⟨1, N.length, body⟩ [.scr ns] = .ok (.bool true)) : LawRun P w K mg fa n := by
  intro base s H a ns e0 hl hS
  refine run_at (ps := [pn]) (us := [.ref a]) (vs := [.ref a]) (k := m) F D.sc rfl hr e0 (hb s _) (.cons rfl .nil) fun cdv hr' => ?_
  refine body_ok (Q := fun v _ => v = .bl true) (E := E0) (Φ' := fun _ ds => runFn (calls fns m) ⟨1, N.length, body⟩ ds) D (prog_ok p m) (fun ds => rfl) (fun _ => rfl) hr' ⟨rfl, H, [.scr ns], Same.refl H, .cons (.scr hS) .nil, ?_⟩
  show Pst Wn H (runFn (calls fns m) ⟨1, N.length, body⟩ [.scr ns]) _
  rw [ht ns hl]
  intro v G' H' Fv g s1 s2 r nd fr
  rw [hret] at r
  have r2 := r.2
  cases r2
  rfl
end
end Rf
end

section
/-! Rf9: a module's facts, one by one. -/
namespace Rf
open PySem PySem.Spec PyProof.Rows L2
/-- all of a written list, one by one -/
inductive Chain {α : Type} (P : α → Prop) : List α → Prop
  | nil : Chain P []
  | cons {a : α} {l : List α} : P a → Chain P l → Chain P (a :: l)
theorem forall_chain {α : Type} {P : α → Prop} {l : List α} (h : Chain P l) : ∀ a ∈ l, P a := by
  induction h with
  | nil => intro a ha; cases ha
  | cons p _ ih =>
    intro a ha
    rcases List.mem_cons.mp ha with rfl | ha
    · exact p
    · exact ih a ha
/-- a def's text is compiled and checked -/
def ckDef (ret : Nat → Ow) (f p n : Nat) (body : S) : Bool :=
  match ckS ret (ret f) 200 body (List.replicate p .fz ++ List.replicate (n - p) .bot) with
  | some o => o.b.isNone && o.c.isNone && (o.n.isNone || okNone (ret f))
  | none => false
theorem defOk_mk {C : Cc} {ret : Nat → Ow} {f : Nat} {st : Stmt} {N ps : List Str} {body : S} (sc : FnScope N ps (defScope st)) (hN : C.N = N) (hb : C.blk = none) (hc : cSs C 200 (defScope st) (defBody st) = some body) (hk : ckDef ret f ps.length N.length body = true) (le : ps.length ≤ N.length) : DefOk C ret f st N ps body where
  sc := sc
  hN := hN
  hb := hb
  hc := hc
  ck := by
    unfold ckDef at hk
    split at hk
    · rename_i o ho
      simp only [Bool.and_eq_true, Bool.or_eq_true, Option.isNone_iff_eq_none] at hk
      exact ⟨o, ho, hk.1.1, hk.1.2, hk.2⟩
    · cases hk
  le := le
/-- a constant of the module: a number, a text, a tuple -/
theorem cst_int {K : PySem.W.Frag} {h : Heap} {mg : Str → Option Value} {x : Str} {i : Int} {t : Tok} (X : K.In h) (G : h.Ns mainGlobals mg) (a : PySem.W.nsIn K mainGlobals x = some (some (.int i t))) : ∃ u v, mg x = some u ∧ RelV v u ∧ ∀ G, Fz K G v (.int i) := ⟨_, .int i, PySem.W.mg_of X G a, ⟨t, rfl⟩, fun _ => .int i⟩
theorem cst_str {K : PySem.W.Frag} {h : Heap} {mg : Str → Option Value} {x i : Str} {t : Tok} (X : K.In h) (G : h.Ns mainGlobals mg) (a : PySem.W.nsIn K mainGlobals x = some (some (.str i t))) (hz : i.length ≤ line) : ∃ u v, mg x = some u ∧ RelV v u ∧ ∀ G, Fz K G v (.str i) := ⟨_, .str i, PySem.W.mg_of X G a, ⟨t, rfl⟩, fun _ => .str i hz⟩
theorem cst_tup {K : PySem.W.Frag} {h : Heap} {mg : Str → Option Value} {x : Str} {q : Addr} {oq : Option Addr} {its : Array Value} {nq : Nat} {sl : Array (Option Value)} {vs : List V} {ds : List D} (X : K.In h) (G : h.Ns mainGlobals mg) (a : PySem.W.nsIn K mainGlobals x = some (some (.ref q))) (l : K.lookup q = some ⟨.type "tuple", oq, .seq its nq, sl⟩)
    (hz : its.size ≤ sizeLine) (hv : Vals vs its.toList) (hf : ∀ G, FzA K G vs ds) : ∃ u v, mg x = some u ∧ RelV v u ∧ ∀ G, Fz K G v (.tuple ds) := ⟨_, .ref q, PySem.W.mg_of X G a, rfl, fun G => .tup (.inr ⟨_, its, nq, l, rfl, rfl, hz, hv⟩) (hf G)⟩
/-- a written dict, by its keys -/
theorem kd_one {K : PySem.W.Frag} {w : World} {a : Addr} {es : Array DictEntry} {n : Nat} {x : Str} {u : Value} {v : V} (l : K.lookup a = some ⟨.type "dict", none, .dict es n, #[]⟩) (hk : PySem.W.KeysLit w.params es.toList) (e : PySem.W.nsIn K a x = some (some u)) (r : RelV v u) : KDct K w a x v := ⟨es, n, u, l, hk, e, r⟩
theorem kd_nil {K : PySem.W.Frag} {w : World} {a : Addr} : KdOk K w a [] := fun z d h => by cases h
theorem kd_cons {K : PySem.W.Frag} {w : World} {a : Addr} {x : Str} {d : D} {kvs : List (D × D)} {v : V} (h : KDct K w a x v) (f : ∀ G, Fz K G v d) (r : KdOk K w a kvs) : KdOk K w a ((.str x, d) :: kvs) := fun z d' e => by
  by_cases hx : x = z
  · subst hx
    have : look (.str x) ((.str x, d) :: kvs) = some d := by simp [look, keyEq]
    rw [this] at e; cases e
    exact ⟨v, h, f⟩
  · have : look (.str z) ((.str x, d) :: kvs) = look (.str z) kvs := by simp [look, keyEq, hx]
    rw [this] at e
    exact r z d' e
/-- what a global name is -/
def GvOk (w : World) (K : PySem.W.Frag) (mg : Str → Option Value) (gl : List (Str × GV)) (bl : List Str) (ret : Nat → Ow) (fns : List Fn) (x : Str) : GV → Prop
  | .fn f n => ∃ st N ps body fa fd qual, n = ps.length ∧ fns[f]? = some ⟨ps.length, N.length, body⟩ ∧ DefOk ⟨N, gl, none, false, bl⟩ ret f st N ps body ∧ Fun K x qual st fa fd ∧ mg x = some (.ref fa) ∧ PySem.W.keepIn K (.ref fa) = true ∧ Binds K fd ps []
  | .kdc kvs => ∃ a, mg x = some (.ref a) ∧ KdOk K w a kvs
  | .gcd => mg x = some (.builtin "math.gcd")
  | .cst d => ∃ u v, mg x = some u ∧ RelV v u ∧ ∀ G, Fz K G v d
  | .oth => True
theorem lookup_mem {α : Type} {x : Str} {v : α} : ∀ {l : List (Str × α)}, l.lookup x = some v → (x, v) ∈ l
  | [], h => by cases h
  | (y, u) :: r, h => by
    rw [List.lookup_cons] at h
    split at h
    · rename_i e
      rw [beq_iff_eq] at e
      cases h; subst e; exact List.mem_cons_self
    · exact List.mem_cons_of_mem _ (lookup_mem h)
theorem progOk_mk {w : World} {K : PySem.W.Frag} {mg : Str → Option Value} {gl : List (Str × GV)} {bl : List Str} {ret : Nat → Ow} {fns : List Fn} (h : ∀ y ∈ gl, GvOk w K mg gl bl ret fns y.1 y.2) (b : ∀ x ∈ bl, mg x = none) : ProgOk w K mg gl bl ret fns where
  blt := fun x hx => b x hx.2
  gcd := fun x hx => h _ (lookup_mem hx)
  cst := fun x d hx => h _ (lookup_mem hx)
  kdc := fun x kvs hx => h _ (lookup_mem hx)
  fn := fun x f n hx => h _ (lookup_mem hx)
end Rf
end

section
/-! Pm1: reading the plain interpreter backwards: what must hold for an answer to be so. -/
namespace Rf
open PySem
@[irreducible] def Res.sat {α : Type} (r : Res α) (P : α → Prop) : Prop := match r with
  | .ok a => P a
  | _ => False
@[irreducible] def Out.sat (o : Out) (N B C : Env → Prop) (R : D → Prop) : Prop := match o with
  | .next ρ => N ρ
  | .brk ρ => B ρ
  | .cnt ρ => C ρ
  | .ret d => R d
  | _ => False
section
variable {α β : Type} {P Q : α → Prop} {Φ : Calls} {ρ : Env} {N B C : Env → Prop} {R : D → Prop}
theorem s_ok {a : α} : (Res.ok a).sat P = P a := by with_unfolding_all rfl
theorem s_pure {a : α} : (pure a : Res α).sat P = P a := by with_unfolding_all rfl
theorem s_stk : (Res.stk : Res α).sat P = False := by with_unfolding_all rfl
theorem s_exn {c : Nat} {as : List D} : (Res.exn c as : Res α).sat P = False := by with_unfolding_all rfl
theorem s_bind {r : Res α} {f : α → Res β} {P : β → Prop} : (r >>= f).sat P = r.sat fun a => (f a).sat P := by cases r <;> with_unfolding_all rfl
theorem s_noexn {r : Res α} : r.noexn.sat P = r.sat P := by cases r <;> with_unfolding_all rfl
theorem Res.sat.imp {r : Res α} (h : r.sat P) (i : ∀ a, P a → Q a) : r.sat Q := by unfold Res.sat at *; cases r <;> first | exact i _ h | exact h
theorem sat_eq {r : Res α} {a : α} : r.sat (fun x => x = a) ↔ r = .ok a := by cases r <;> simp [Res.sat]
theorem sat_of_eq {r : Res α} {a : α} (h : r = .ok a) (p : P a) : r.sat P := by rw [h, s_ok]; exact p
theorem sat_ex {r : Res α} (h : r.sat P) : ∃ a, r = .ok a ∧ P a := by unfold Res.sat at h; cases r <;> first | exact ⟨_, rfl, h⟩ | exact h.elim
theorem sat_ite {c : Prop} [Decidable c] {a b : Res α} : (if c then a else b).sat P = if c then a.sat P else b.sat P := by split <;> with_unfolding_all rfl
theorem s_if {c : Prop} [Decidable c] {r : Res α} : (if c then r else .stk).sat P = (c ∧ r.sat P) := by by_cases h : c <;> simp [h, Res.sat]
theorem o_next : (Out.next ρ).sat N B C R = N ρ := by with_unfolding_all rfl
theorem o_brk : (Out.brk ρ).sat N B C R = B ρ := by with_unfolding_all rfl
theorem o_cnt : (Out.cnt ρ).sat N B C R = C ρ := by with_unfolding_all rfl
theorem o_ret {d : D} : (Out.ret d).sat N B C R = R d := by with_unfolding_all rfl
theorem o_stk : Out.stk.sat N B C R = False := by with_unfolding_all rfl
theorem o_thn {o : Out} {f : Env → Out} : (o.thn f).sat N B C R = o.sat (fun ρ => (f ρ).sat N B C R) B C R := by cases o <;> with_unfolding_all rfl
theorem o_out {r : Res α} {f : α → Out} : (r.out f).sat N B C R = r.sat fun a => (f a).sat N B C R := by cases r <;> with_unfolding_all rfl
theorem o_ite {c : Prop} [Decidable c] {a b : Out} : (if c then a else b).sat N B C R = if c then a.sat N B C R else b.sat N B C R := by split <;> with_unfolding_all rfl
theorem Out.sat.imp {o : Out} {N' B' C' : Env → Prop} {R' : D → Prop} (h : o.sat N B C R) (hn : ∀ ρ, N ρ → N' ρ) (hb : ∀ ρ, B ρ → B' ρ) (hc : ∀ ρ, C ρ → C' ρ) (hr : ∀ d, R d → R' d) : o.sat N' B' C' R' := by
  unfold Out.sat at *
  cases o <;> first | exact hn _ h | exact hb _ h | exact hc _ h | exact hr _ h | exact h
theorem o_cut {o : Out} {N' : Env → Prop} (h : o.sat N' B C R) (hn : ∀ ρ, N' ρ → N ρ) : o.sat N B C R := h.imp hn (fun _ h => h) (fun _ h => h) (fun _ h => h)
/-! statements -/
theorem x_skip : (exec Φ .skip ρ).sat N B C R = N ρ := by with_unfolding_all rfl
theorem x_seq {s t : S} : (exec Φ (.seq s t) ρ).sat N B C R = (exec Φ s ρ).sat (fun ρ => (exec Φ t ρ).sat N B C R) B C R := by simp only [exec, o_thn]
theorem x_asg {tg e : E} : (exec Φ (.asg tg e) ρ).sat N B C R = (ev Φ e ρ).sat fun p => (asgn Φ tg p.1 p.2).sat N := by simp only [exec, o_out, o_next]
theorem x_aug {i : Nat} {o : BOp} {e : E} : (exec Φ (.aug i o e) ρ).sat N B C R = (getS ρ i).sat fun x => (ev Φ e ρ).sat fun p => (augD o x p.1).sat fun d => N (p.2.set i (some d)) := by simp only [exec, o_out]; with_unfolding_all rfl
theorem x_ex {e : E} : (exec Φ (.ex e) ρ).sat N B C R = (ev Φ e ρ).sat fun p => N p.2 := by simp only [exec, o_out]; with_unfolding_all rfl
theorem x_ite {c : E} {a b : S} : (exec Φ (.ite c a b) ρ).sat N B C R = (ev Φ c ρ).sat fun p => if truth p.1 = true then (exec Φ a p.2).sat N B C R else (exec Φ b p.2).sat N B C R := by simp only [exec, o_out, o_ite]
theorem x_for {tg it : E} {b : S} : (exec Φ (.for_ tg it b) ρ).sat N B C R = (ev Φ it ρ).sat fun p => (itemsD p.1).sat fun xs => (loopF (asgn Φ tg) (exec Φ b) xs p.2).sat N B C R := by simp only [exec, o_out]
theorem x_wh {c : E} {b : S} : (exec Φ (.wh c b) ρ).sat N B C R = (loopW (ev Φ c) (exec Φ b) wturns ρ).sat N B C R := by simp only [exec]
theorem x_ret {e : E} : (exec Φ (.ret e) ρ).sat N B C R = (ev Φ e ρ).sat fun p => R p.1 := by simp only [exec, o_out]; with_unfolding_all rfl
theorem x_brk : (exec Φ .brk ρ).sat N B C R = B ρ := by with_unfolding_all rfl
theorem x_cnt : (exec Φ .cnt ρ).sat N B C R = C ρ := by with_unfolding_all rfl
theorem run_sat {f : Fn} {ds : List D} {P : D → Prop} (h1 : ds.length = f.ps) (h2 : f.ps ≤ f.ns) (h : (exec Φ f.body (ds.map some ++ List.replicate (f.ns - f.ps) none)).sat (fun _ => P .none) (fun _ => False) (fun _ => False) P) : (runFn Φ f ds).sat P := by
  unfold runFn
  rw [if_pos ⟨h1, h2⟩]
  revert h
  unfold Out.sat Res.sat
  cases exec Φ f.body (ds.map some ++ List.replicate (f.ns - f.ps) none) <;> exact fun h => h
/-! targets -/
theorem t_var {i : Nat} {d : D} {N : Env → Prop} : (asgn Φ (.var i) d ρ).sat N = (i < ρ.length ∧ N (ρ.set i (some d))) := by
  simp only [asgn, s_if, s_ok]
theorem t_tup {es : E} {ds : List D} {N : Env → Prop} : (asgn Φ (.tup es) (.tuple ds) ρ).sat N = (ds.length = lenE es ∧ (asgn Φ es (.tuple ds) ρ).sat N) := by
  simp only [asgn, s_if]
theorem t_tupL {es : E} {ds : List D} {N : Env → Prop} : (asgn Φ (.tup es) (.list ds) ρ).sat N = (ds.length = lenE es ∧ (asgn Φ es (.tuple ds) ρ).sat N) := by
  simp only [asgn, s_if]
theorem t_nil {N : Env → Prop} : (asgn Φ .nil (.tuple []) ρ).sat N = N ρ := by with_unfolding_all rfl
theorem t_cons {t r : E} {d : D} {ds : List D} {N : Env → Prop} : (asgn Φ (.cons t r) (.tuple (d :: ds)) ρ).sat N = (asgn Φ t d ρ).sat fun ρ => (asgn Φ r (.tuple ds) ρ).sat N := by simp only [asgn, s_bind]
theorem t_sub {i : Nat} {k : E} {d : D} {N : Env → Prop} : (asgn Φ (.sub (.var i) k) d ρ).sat N = (getS ρ i).sat fun o => (ev Φ k ρ).sat fun p => (putD o p.1 d).sat fun o => N (p.2.set i (some o)) := by simp only [asgn, s_bind]; with_unfolding_all rfl
theorem n_var {i : Nat} {d : D} {N : Env → Prop} : (bindN (.var i) d ρ).sat N = (i < ρ.length ∧ N (ρ.set i (some d))) := by
  simp only [bindN, s_if, s_ok]
theorem n_tup {es : E} {ds : List D} {N : Env → Prop} : (bindN (.tup es) (.tuple ds) ρ).sat N = (ds.length = lenE es ∧ (bindN es (.tuple ds) ρ).sat N) := by
  simp only [bindN, s_if]
theorem n_nil {N : Env → Prop} : (bindN .nil (.tuple []) ρ).sat N = N ρ := by with_unfolding_all rfl
theorem n_cons {t r : E} {d : D} {ds : List D} {N : Env → Prop} : (bindN (.cons t r) (.tuple (d :: ds)) ρ).sat N = (bindN t d ρ).sat fun ρ => (bindN r (.tuple ds) ρ).sat N := by simp only [bindN, s_bind]
/-! expressions -/
variable {P : D × Env → Prop}
def consD (d : D) : D → Res D
  | .tuple ds => .ok (.tuple (d :: ds))
  | _ => .stk
theorem c_cons' {d : D} {ds : List D} {P : D → Prop} : (consD d (.tuple ds)).sat P = P (.tuple (d :: ds)) := by with_unfolding_all rfl
def lstD : D → Res D
  | .tuple ds => .ok (.list ds)
  | _ => .stk
theorem c_lst {ds : List D} {P : D → Prop} : (lstD (.tuple ds)).sat P = P (.list ds) := by with_unfolding_all rfl
def negD : D → Res D
  | .int i => .ok (.int (-i))
  | _ => .stk
theorem c_neg {i : Int} {P : D → Prop} : (negD (.int i)).sat P = P (.int (-i)) := by with_unfolding_all rfl
theorem c_tup {ds : List D} {P : List D → Prop} : (tupOf (.tuple ds)).sat P = P ds := by with_unfolding_all rfl
theorem e_nil : (ev Φ .nil ρ).sat P = P (.tuple [], ρ) := by with_unfolding_all rfl
theorem e_cons {e es : E} : (ev Φ (.cons e es) ρ).sat P = (ev Φ e ρ).sat fun p => (ev Φ es p.2).sat fun q => (consD p.1 q.1).sat fun d => P (d, q.2) := by
  simp only [ev, s_bind]; congr 1; funext p; congr 1; funext q; obtain ⟨d, ρ1⟩ := q; cases d <;> with_unfolding_all rfl
theorem e_var {i : Nat} : (ev Φ (.var i) ρ).sat P = (getS ρ i).sat fun d => P (d, ρ) := by simp only [ev, s_bind]; with_unfolding_all rfl
theorem e_lit {d : D} : (ev Φ (.lit d) ρ).sat P = P (d, ρ) := by with_unfolding_all rfl
theorem e_tup {es : E} : (ev Φ (.tup es) ρ).sat P = (ev Φ es ρ).sat P := by simp only [ev]
theorem e_lst {es : E} : (ev Φ (.lst es) ρ).sat P = (ev Φ es ρ).sat fun p => (lstD p.1).sat fun d => P (d, p.2) := by
  simp only [ev, s_bind]; congr 1; funext q; obtain ⟨d, ρ1⟩ := q; cases d <;> with_unfolding_all rfl
theorem e_neg {a : E} : (ev Φ (.neg a) ρ).sat P = (ev Φ a ρ).sat fun p => (negD p.1).sat fun d => P (d, p.2) := by
  simp only [ev, s_bind]; congr 1; funext q; obtain ⟨d, ρ1⟩ := q; cases d <;> with_unfolding_all rfl
theorem e_not {a : E} : (ev Φ (.not a) ρ).sat P = (ev Φ a ρ).sat fun p => P (.bool (!truth p.1), p.2) := by simp only [ev, s_bind]; with_unfolding_all rfl
theorem e_bin {o : BOp} {a b : E} : (ev Φ (.bin o a b) ρ).sat P = (ev Φ a ρ).sat fun p => (ev Φ b p.2).sat fun q => (binD o p.1 q.1).sat fun d => P (d, q.2) := by simp only [ev, s_bind]; with_unfolding_all rfl
theorem e_cmp {o : COp} {a b : E} : (ev Φ (.cmp o a b) ρ).sat P = (ev Φ a ρ).sat fun p => (ev Φ b p.2).sat fun q => (cmpD o p.1 q.1).sat fun t => P (.bool t, q.2) := by simp only [ev, s_bind]; with_unfolding_all rfl
theorem e_and {a b : E} : (ev Φ (.and a b) ρ).sat P = (ev Φ a ρ).sat fun p => if truth p.1 = true then (ev Φ b p.2).sat P else P p := by
  simp only [ev, s_bind, sat_ite]; with_unfolding_all rfl
theorem e_or {a b : E} : (ev Φ (.or a b) ρ).sat P = (ev Φ a ρ).sat fun p => if truth p.1 = true then P p else (ev Φ b p.2).sat P := by
  simp only [ev, s_bind, sat_ite]; with_unfolding_all rfl
theorem e_ite {c a b : E} : (ev Φ (.ite c a b) ρ).sat P = (ev Φ c ρ).sat fun p => if truth p.1 = true then (ev Φ a p.2).sat P else (ev Φ b p.2).sat P := by
  simp only [ev, s_bind, sat_ite]
theorem e_sub {a i : E} : (ev Φ (.sub a i) ρ).sat P = (ev Φ a ρ).sat fun p => (ev Φ i p.2).sat fun q => (subD p.1 q.1).sat fun d => P (d, q.2) := by simp only [ev, s_bind]; with_unfolding_all rfl
theorem e_slc {a lo hi : E} : (ev Φ (.slc a lo hi) ρ).sat P = (ev Φ a ρ).sat fun p => (ev Φ lo p.2).sat fun l => (endD lo l.1).sat fun lo => (ev Φ hi l.2).sat fun h => (endD hi h.1).sat fun hi => (slcD p.1 lo hi).sat fun d => P (d, h.2) := by simp only [ev, s_bind]; with_unfolding_all rfl
theorem e_call {f : Nat} {es : E} : (ev Φ (.call f es) ρ).sat P = (ev Φ es ρ).sat fun p => (tupOf p.1).sat fun ds => (Φ f ds).sat fun d => P (d, p.2) := by simp only [ev, s_bind]; with_unfolding_all rfl
theorem e_bi {b : Bi} {es : E} : (ev Φ (.bi b es) ρ).sat P = (ev Φ es ρ).sat fun p => (tupOf p.1).sat fun ds => (biD b ds).sat fun d => P (d, p.2) := by simp only [ev, s_bind]; with_unfolding_all rfl
theorem e_isi {a : E} {ts : List Ty} : (ev Φ (.isi a ts) ρ).sat P = (ev Φ a ρ).sat fun p => (isiD ts p.1).sat fun b => P (.bool b, p.2) := by simp only [ev, s_bind]; with_unfolding_all rfl
/-- a method on a list that changes it -/
theorem e_mt {m : Mt} {i : Nat} {es : E} (hm : m.chg = true) : (ev Φ (.mt m (.var i) es) ρ).sat P = (getS ρ i).sat fun x => mtOn m x = true ∧ (ev Φ es ρ).sat fun p => (tupOf p.1).sat fun ds => (mtM m x ds).sat fun q => P (q.1, p.2.set i (some q.2)) := by
  simp only [ev, s_bind, s_if, hm, if_true]
  with_unfolding_all rfl
/-- a comprehension's turn -/
def itemF (Φ : Calls) (own : List Nat) (tg c elt : E) (ρ : Env) (d : D) : Res (Option D) := do
  let ρ1 ← bindN tg d (wipeD ρ own)
  let (t, ρ1) ← ev Φ c ρ1
  if truth t then do
    let (y, _) ← ev Φ elt ρ1
    .ok (some y)
  else .ok none
theorem i_sat {own : List Nat} {tg c elt : E} {d : D} {P : Option D → Prop} : (itemF Φ own tg c elt ρ d).sat P = (bindN tg d (wipeD ρ own)).sat fun ρ1 => (ev Φ c ρ1).sat fun p => if truth p.1 = true then (ev Φ elt p.2).sat fun q => P (some q.1) else P none := by
  simp only [itemF, s_bind, sat_ite]; with_unfolding_all rfl
theorem e_comp {own : List Nat} {tg it c elt : E} : (ev Φ (.comp own tg it c elt) ρ).sat P = (ev Φ it ρ).sat fun p => (itemsD p.1).sat fun xs => xs.length ≤ line ∧ (fmapR (itemF Φ own tg c elt p.2) xs).sat fun ds => P (.list ds, p.2) := by
  simp only [ev, s_bind]
  congr 1; funext p; congr 1; funext xs
  by_cases h : xs.length ≤ line
  · simp only [h, if_true, true_and, s_bind, s_noexn, s_ok]; with_unfolding_all rfl
  · simp only [h, if_false, s_stk, false_and]
/-- a dict comprehension's turn -/
def itemK (Φ : Calls) (own : List Nat) (tg k v : E) (ρ : Env) (acc : List (D × D)) (d : D) : Res (List (D × D)) := do
  let ρ1 ← bindN tg d (wipeD ρ own)
  let (a, ρ1) ← ev Φ k ρ1
  let (b, _) ← ev Φ v ρ1
  if isKey a && decide (acc.length < line) then .ok (put a b acc) else .stk
theorem e_dcomp {own : List Nat} {tg it k v : E} : (ev Φ (.dcomp own tg it k v) ρ).sat P = (ev Φ it ρ).sat fun p => (itemsD p.1).sat fun xs => (foldR (itemK Φ own tg k v p.2) [] xs).sat fun ds => P (.dict ds, p.2) := by
  simp only [ev, s_bind, s_noexn]; with_unfolding_all rfl
/-! places of an environment -/
theorem g_zero {d : D} {P : D → Prop} : (getS (some d :: ρ) 0).sat P = P d := by with_unfolding_all rfl
theorem g_succ {x : Option D} {i : Nat} {P : D → Prop} : (getS (x :: ρ) (i + 1)).sat P = (getS ρ i).sat P := by unfold getS; rw [List.getElem?_cons_succ]
theorem z_zero {x y : Option D} : (x :: ρ).set 0 y = y :: ρ := id rfl
theorem z_succ {x y : Option D} {i : Nat} : (x :: ρ).set (i + 1) y = x :: ρ.set i y := id rfl
theorem wipe_nil : wipeD ρ [] = ρ := id rfl
theorem wipe_cons {v : Nat} {vs : List Nat} : wipeD ρ (v :: vs) = (wipeD ρ vs).set v none := id rfl
end
/-! loops -/
theorem loop_sat {t : D → Env → Res Env} {b : Env → Out} {N B C : Env → Prop} {R : D → Prop} (I : Nat → Env → Prop) (N' : Env → Prop) {xs : List D} {ρ : Env} (h0 : I 0 ρ)
    (hs : ∀ i d ρ, xs[i]? = some d → I i ρ → (t d ρ).sat fun ρ1 => (b ρ1).sat (I (i + 1)) N' (I (i + 1)) R) (hN : ∀ ρ, I xs.length ρ → N' ρ) (hN' : ∀ ρ, N' ρ → N ρ) : (loopF t b xs ρ).sat N B C R := by
  induction xs generalizing I ρ with
  | nil => unfold loopF; rw [o_next]; exact hN' _ (hN _ h0)
  | cons d ds ih =>
    have h1 := hs 0 d ρ rfl h0
    unfold loopF
    rw [o_out]
    refine h1.imp fun ρ1 h2 => ?_
    have go : ∀ ρ2, I 1 ρ2 → (loopF t b ds ρ2).sat N B C R := fun ρ2 h => ih (fun i => I (i + 1)) h (fun i d ρ e h => hs (i + 1) d ρ e h) hN
    revert h2
    cases b ρ1 <;> intro h2 <;> (simp only [o_next, o_brk, o_cnt, o_ret, o_stk] at h2 ⊢) <;> first | exact go _ h2 | exact hN' _ h2 | exact h2 | (unfold Out.sat at *; exact h2)
theorem rng_eq : ∀ (n : Nat) (lo : Int), rng lo n = (List.range n).map fun k => D.int (lo + (k : Nat))
  | 0, lo => rfl
  | n + 1, lo => by
    rw [List.range_succ_eq_map, List.map_cons, List.map_map, rng, rng_eq n (lo + 1)]
    congr 1
    · simp
    · apply List.map_congr_left
      intro k _
      simp only [Function.comp]
      congr 1; push_cast; omega
theorem rng_lenP (n : Nat) (lo : Int) : (rng lo n).length = n := by rw [rng_eq]; simp
theorem rng_getP {n : Nat} {lo : Int} {i : Nat} {d : D} (h : (rng lo n)[i]? = some d) : i < n ∧ d = .int (lo + (i : Nat)) := by
  rw [rng_eq, List.getElem?_map, Option.map_eq_some_iff] at h
  obtain ⟨k, h1, rfl⟩ := h
  obtain ⟨h2, h3⟩ := List.getElem?_eq_some_iff.mp h1
  rw [List.getElem_range] at h3
  subst h3
  exact ⟨by simpa using h2, rfl⟩
/-- a loop over a range -/
theorem loop_rng {t : D → Env → Res Env} {b : Env → Out} {N B C : Env → Prop} {R : D → Prop} (I : Nat → Env → Prop) (N' : Env → Prop) {n : Nat} {lo : Int} {ρ : Env} (h0 : I 0 ρ)
    (hs : ∀ i ρ, i < n → I i ρ → (t (.int (lo + (i : Nat))) ρ).sat fun ρ1 => (b ρ1).sat (I (i + 1)) N' (I (i + 1)) R) (hN : ∀ ρ, I n ρ → N' ρ) (hN' : ∀ ρ, N' ρ → N ρ) : (loopF t b (rng lo n) ρ).sat N B C R :=
  loop_sat I N' h0 (fun i d ρ e h => by obtain ⟨h1, rfl⟩ := rng_getP e; exact hs i ρ h1 h) (fun ρ h => hN ρ (by rw [rng_lenP] at h; exact h)) hN'
/-- .. over typed things -/
theorem loop_map {α : Type} {t : D → Env → Res Env} {b : Env → Out} {N B C : Env → Prop} {R : D → Prop} (I : Nat → Env → Prop) (N' : Env → Prop) {as : List α} {e : α → D} {ρ : Env} (h0 : I 0 ρ)
    (hs : ∀ i a ρ, as[i]? = some a → I i ρ → (t (e a) ρ).sat fun ρ1 => (b ρ1).sat (I (i + 1)) N' (I (i + 1)) R) (hN : ∀ ρ, I as.length ρ → N' ρ) (hN' : ∀ ρ, N' ρ → N ρ) : (loopF t b (as.map e) ρ).sat N B C R :=
  loop_sat I N' h0 (fun i d ρ e h => by
    rw [List.getElem?_map, Option.map_eq_some_iff] at e
    obtain ⟨a, h1, rfl⟩ := e
    exact hs i a ρ h1 h) (fun ρ h => hN ρ (by rw [List.length_map] at h; exact h)) hN'
/-! comprehensions -/
theorem fm_map {F : D → Res (Option D)} {α β : Type} {as : List α} {ea : α → D} {eb : β → D} (g : α → β) {P : List D → Prop} (h : ∀ a ∈ as, (F (ea a)).sat fun o => o = some (eb (g a))) (hp : P ((as.map g).map eb)) : (fmapR F (as.map ea)).sat P := by
  have e : fmapR F (as.map ea) = .ok ((as.map g).map eb) := by
    clear hp
    induction as with
    | nil => rfl
    | cons a r ih =>
      have h1 := sat_eq.mp (h a List.mem_cons_self)
      have h2 := ih fun b hb => h b (List.mem_cons_of_mem _ hb)
      simp only [List.map_cons, fmapR, h1, Res.bind_ok, h2]
  rw [e, s_ok]; exact hp
theorem fm_filter {F : D → Res (Option D)} {α β : Type} {as : List α} {ea : α → D} {eb : β → D} (g : α → Option β) {P : List D → Prop} (h : ∀ a ∈ as, (F (ea a)).sat fun o => o = (g a).map eb) (hp : P ((as.filterMap g).map eb)) : (fmapR F (as.map ea)).sat P := by
  have e : fmapR F (as.map ea) = .ok ((as.filterMap g).map eb) := by
    clear hp
    induction as with
    | nil => rfl
    | cons a r ih =>
      have h1 := sat_eq.mp (h a List.mem_cons_self)
      have h2 := ih fun b hb => h b (List.mem_cons_of_mem _ hb)
      simp only [List.map_cons, fmapR, h1, Res.bind_ok, h2, List.filterMap_cons]
      cases g a <;> with_unfolding_all rfl
  rw [e, s_ok]; exact hp
/-- each turn gives something of a kind -/
theorem fm_some {F : D → Res (Option D)} {α β : Type} {as : List α} {ea : α → D} {eb : β → D} (Q : α → β → Prop) {P : List D → Prop} (h : ∀ a ∈ as, (F (ea a)).sat fun o => ∃ b, o = some (eb b) ∧ Q a b) (hp : ∀ bs : List β, bs.length = as.length → (∀ (i : Nat) (b : β), bs[i]? = some b → ∃ a, as[i]? = some a ∧ Q a b) → P (bs.map eb)) : (fmapR F (as.map ea)).sat P := by
  have e : ∃ bs : List β, fmapR F (as.map ea) = .ok (bs.map eb) ∧ bs.length = as.length ∧ ∀ (i : Nat) (b : β), bs[i]? = some b → ∃ a, as[i]? = some a ∧ Q a b := by
    clear hp
    induction as with
    | nil => exact ⟨[], rfl, rfl, fun i b h => by simp at h⟩
    | cons a r ih =>
      obtain ⟨o, h1, b, rfl, q⟩ := sat_ex (h a List.mem_cons_self)
      obtain ⟨bs, h2, h3, h4⟩ := ih fun b hb => h b (List.mem_cons_of_mem _ hb)
      refine ⟨b :: bs, by simp only [List.map_cons, fmapR, h1, Res.bind_ok, h2], by simp [h3], fun i c hc => ?_⟩
      cases i with
      | zero => simp at hc; subst hc; exact ⟨a, rfl, q⟩
      | succ i => exact h4 i c (by simpa using hc)
  obtain ⟨bs, h1, h2, h3⟩ := e
  rw [h1, s_ok]; exact hp bs h2 h3
/-! primitives -/
section
variable {P : D → Prop}
theorem p_add {a b : Int} : (binD .add (.int a) (.int b)).sat P = P (.int (a + b)) := by with_unfolding_all rfl
theorem p_sub {a b : Int} : (binD .sub (.int a) (.int b)).sat P = P (.int (a - b)) := by with_unfolding_all rfl
theorem p_mul {a b : Int} : (binD .mul (.int a) (.int b)).sat P = (mulOk a b = true ∧ P (.int (a * b))) := by
  simp only [binD, s_if, s_ok]
theorem p_fdiv {a b : Int} : (binD .fdiv (.int a) (.int b)).sat P = (divOk b = true ∧ P (.int (a / b))) := by
  simp only [binD, s_if, s_ok]
theorem p_mod {a b : Int} : (binD .mod (.int a) (.int b)).sat P = (0 < b ∧ P (.int (a % b))) := by
  simp only [binD, s_if, s_ok]
theorem p_pow {a b : Int} : (binD .pow (.int a) (.int b)).sat P = ((0 ≤ b ∧ b ≤ 1000000 ∧ a.natAbs < 2 ^ 64) ∧ P (.int (a ^ b.toNat))) := by
  simp only [binD, s_if, s_ok]
theorem p_addL {a b : List D} : (binD .add (.list a) (.list b)).sat P = (a.length + b.length ≤ line ∧ P (.list (a ++ b))) := by
  simp only [binD, s_if, s_ok]
theorem p_addT {a b : List D} : (binD .add (.tuple a) (.tuple b)).sat P = (a.length + b.length ≤ line ∧ P (.tuple (a ++ b))) := by
  simp only [binD, s_if, s_ok]
theorem p_auga {a b : Int} : (augD .add (.int a) (.int b)).sat P = P (.int (a + b)) := by with_unfolding_all rfl
theorem p_augs {a b : Int} : (augD .sub (.int a) (.int b)).sat P = P (.int (a - b)) := by with_unfolding_all rfl
variable {B : Bool → Prop}
theorem q_lt {a b : Int} : (cmpD .lt (.int a) (.int b)).sat B = B (decide (a < b)) := by with_unfolding_all rfl
theorem q_le {a b : Int} : (cmpD .le (.int a) (.int b)).sat B = B (decide (a ≤ b)) := by with_unfolding_all rfl
theorem q_gt {a b : Int} : (cmpD .gt (.int a) (.int b)).sat B = B (decide (b < a)) := by with_unfolding_all rfl
theorem q_ge {a b : Int} : (cmpD .ge (.int a) (.int b)).sat B = B (decide (b ≤ a)) := by with_unfolding_all rfl
theorem q_eq {a b : D} : (cmpD .eq a b).sat B = (shq a b = true ∧ B (eqD a b)) := by
  simp only [cmpD, s_if, s_ok]
theorem q_ne {a b : D} : (cmpD .ne a b).sat B = (shq a b = true ∧ B (!eqD a b)) := by
  simp only [cmpD, s_if, s_ok]
theorem q_isN {a : D} : (cmpD .is a .none).sat B = B (match a with | .none => true | _ => false) := by cases a <;> with_unfolding_all rfl
theorem q_isnotN {a : D} : (cmpD .isnot a .none).sat B = B (match a with | .none => false | _ => true) := by cases a <;> with_unfolding_all rfl
theorem q_in {a b : D} : (cmpD .isin a b).sat B = (inD a b).sat B := by with_unfolding_all rfl
theorem q_notin {a b : D} : (cmpD .notin a b).sat B = (inD a b).sat fun r => B (!r) := by simp only [cmpD, s_bind]; with_unfolding_all rfl
theorem q_inL {a : D} {ds : List D} : (inD a (.list ds)).sat B = ((shp a && shp (.list ds)) = true ∧ B (ds.any fun z => eqD z a)) := by
  simp only [inD, s_if, s_ok]
theorem p_len {ds : List D} : (biD .len [.list ds]).sat P = P (.int ds.length) := by with_unfolding_all rfl
theorem p_lenT {ds : List D} : (biD .len [.tuple ds]).sat P = P (.int ds.length) := by with_unfolding_all rfl
theorem p_lenS {ns : List Int} : (biD .len [.scr ns]).sat P = P (.int ns.length) := by with_unfolding_all rfl
theorem p_list {ds : List D} : (biD .list [.list ds]).sat P = P (.list ds) := by with_unfolding_all rfl
theorem p_listT {ds : List D} : (biD .list [.tuple ds]).sat P = P (.list ds) := by with_unfolding_all rfl
theorem p_int {i : Int} : (biD .int [.int i]).sat P = P (.int i) := by with_unfolding_all rfl
theorem p_intB {b : Bool} : (biD .int [.bool b]).sat P = P (.int (if b then 1 else 0)) := by with_unfolding_all rfl
theorem p_abs {i : Int} : (biD .abs [.int i]).sat P = P (.int (if i < 0 then -i else i)) := by with_unfolding_all rfl
theorem p_range {j : Int} : (biD .range [.int j]).sat P = ((rOk j && decide (j ≤ line)) = true ∧ P (.list (rng 0 j.toNat))) := by
  simp only [biD, s_if, s_ok]
theorem p_range2 {i j : Int} : (biD .range [.int i, .int j]).sat P = ((rOk i && rOk j && decide (j - i ≤ line)) = true ∧ P (.list (rng i (j - i).toNat))) := by
  simp only [biD, s_if, s_ok]
theorem boolsD_map : ∀ bs : List Bool, boolsD (bs.map D.bool) = some bs
  | [] => rfl
  | b :: r => by simp only [List.map_cons, boolsD, boolsD_map r, Option.map_some]
theorem intsD_map : ∀ bs : List Int, intsD (bs.map D.int) = some bs
  | [] => rfl
  | b :: r => by simp only [List.map_cons, intsD, intsD_map r, Option.map_some]
theorem p_all {bs : List Bool} : (biD .all [.list (bs.map D.bool)]).sat P = P (.bool (bs.all id)) := by simp only [biD, boolsD_map, s_ok]
theorem p_any {bs : List Bool} : (biD .any [.list (bs.map D.bool)]).sat P = P (.bool (bs.any id)) := by simp only [biD, boolsD_map, s_ok]
theorem p_sum {ns : List Int} : (biD .sum [.list (ns.map D.int)]).sat P = P (.int ns.sum) := by simp only [biD, intsD_map, s_ok]
theorem p_sorted {ns : List Int} : (biD .sorted [.list (ns.map D.int)]).sat P = P (.list ((srt ns).map D.int)) := by simp only [biD, intsD_map, s_ok]
theorem p_gcd {a b : Int} : (biD .gcd [.int a, .int b]).sat P = P (.int ((Nat.gcd a.natAbs b.natAbs : Nat) : Int)) := by with_unfolding_all rfl
theorem p_repr {ds : List D} : (biD .repr [.list ds]).sat P = (reprOk (.list ds) = true ∧ P (.str (PyData.shown (cast (.list ds))))) := by
  simp only [biD, reprD, s_if, s_ok]
theorem p_reprT {ds : List D} : (biD .repr [.tuple ds]).sat P = (reprOk (.tuple ds) = true ∧ P (.str (PyData.shown (cast (.tuple ds))))) := by
  simp only [biD, reprD, s_if, s_ok]
theorem p_append {ds : List D} {x : D} {P : D × D → Prop} : (mtM .append (.list ds) [x]).sat P = (ds.length < line ∧ P (.none, .list (ds ++ [x]))) := by
  simp only [mtM, s_if, s_ok]
theorem p_items {ds : List D} {P : List D → Prop} : (itemsD (.list ds)).sat P = P ds := by with_unfolding_all rfl
theorem p_itemsT {ds : List D} {P : List D → Prop} : (itemsD (.tuple ds)).sat P = P ds := by with_unfolding_all rfl
theorem p_itemsS {ns : List Int} {P : List D → Prop} : (itemsD (.scr ns)).sat P = P (ns.map .int) := by with_unfolding_all rfl
theorem p_subL {ds : List D} {i : Int} : (subD (.list ds) (.int i)).sat P = ∃ d, atL ds i = some d ∧ P d := by
  simp only [subD]; cases atL ds i <;> simp [Res.sat]
theorem p_subT {ds : List D} {i : Int} : (subD (.tuple ds) (.int i)).sat P = ∃ d, atL ds i = some d ∧ P d := by
  simp only [subD]; cases atL ds i <;> simp [Res.sat]
theorem p_end {e : E} {i : Int} {P : Option Int → Prop} (h : e ≠ .nil) : (endD e (.int i)).sat P = P (some i) := by cases e <;> first | with_unfolding_all rfl | exact absurd rfl h
theorem p_endN {P : Option Int → Prop} : (endD .nil (.tuple [])).sat P = P none := by with_unfolding_all rfl
theorem p_slc {ds : List D} {lo hi : Option Int} : (slcD (.list ds) lo hi).sat P = P (.list (cutL ds lo hi)) := by with_unfolding_all rfl
theorem p_putL {ds : List D} {i : Int} {x : D} : (putD (.list ds) (.int i) x).sat P = ∃ j, L2.ixN ds.length i = some j ∧ P (.list (ds.set j x)) := by
  simp only [putD]; cases L2.ixN ds.length i <;> simp [Res.sat]
end
theorem ixN_nat {n k : Nat} (h : k < n) : L2.ixN n (k : Int) = some k := by
  unfold L2.ixN; rw [if_pos (by omega), if_pos (by omega)]; simp
theorem ixN_pos {n : Nat} {i : Int} (h0 : 0 ≤ i) (h : i < n) : L2.ixN n i = some i.toNat := by
  unfold L2.ixN; rw [if_pos h0, if_pos h]
theorem atL_nat {ds : List D} {k : Nat} : atL ds (k : Int) = ds[k]? := by
  unfold atL L2.atI
  by_cases h : k < ds.length
  · rw [ixN_nat h]; rfl
  · unfold L2.ixN; rw [if_pos (by omega), if_neg (by omega)]; simp; omega
theorem at0 {x : D} {r : List D} : atL (x :: r) 0 = some x := by
  rw [show (0 : Int) = ((0 : Nat) : Int) from rfl, atL_nat]; rfl
theorem at1 {x y : D} {r : List D} : atL (x :: y :: r) 1 = some y := by
  rw [show (1 : Int) = ((1 : Nat) : Int) from rfl, atL_nat]; rfl
theorem at2 {x y z : D} {r : List D} : atL (x :: y :: z :: r) 2 = some z := by
  rw [show (2 : Int) = ((2 : Nat) : Int) from rfl, atL_nat]; rfl
theorem atL_map {α : Type} {e : α → D} {as : List α} {i : Int} {a : α} (h0 : 0 ≤ i) (h : as[i.toNat]? = some a) : atL (as.map e) i = some (e a) := by
  obtain ⟨k, rfl⟩ := Int.eq_ofNat_of_zero_le h0
  rw [atL_nat, List.getElem?_map]
  simp at h
  rw [h]; rfl
theorem cut_nat {α : Type} {xs : List α} {a b : Nat} (h : b ≤ xs.length) : cutL xs (some (a : Int)) (some (b : Int)) = (xs.drop a).take (b - a) := by
  unfold cutL
  rw [show sIx xs.length 0 (some (a : Int)) = min a xs.length from HT.sIx_nat _ _ _, show sIx xs.length xs.length (some (b : Int)) = min b xs.length from HT.sIx_nat _ _ _, Nat.min_eq_left h]
  by_cases ha : a ≤ xs.length
  · rw [Nat.min_eq_left ha]
  · rw [Nat.min_eq_right (by omega), List.drop_eq_nil_of_le (by omega), List.drop_eq_nil_of_le (by omega)]; simp
theorem shpI (n : Nat) (i : Int) : shpB n (.int i) = true := by cases n <;> rfl
theorem shp_ints (n : Nat) (ns : List Int) : shpB (n + 1) (.list (ns.map D.int)) = true := by
  simp only [shpB, List.all_map, List.all_eq_true, Function.comp]
  intro x _; first | exact shpI n x | simp [shpI]
theorem any_ints (x : Int) : ∀ ns : List Int, ((ns.map D.int).any fun z => eqD z (.int x)) = decide (x ∈ ns)
  | [] => by simp
  | a :: r => by
    rw [List.map_cons, List.any_cons, any_ints x r]
    simp only [eqD, List.mem_cons, Bool.decide_or]
    by_cases h : a = x
    · subst h; simp
    · have h2 : ¬ x = a := fun e => h e.symm
      simp [h, h2]
theorem q_in_ints {x : Int} {ns : List Int} {B : Bool → Prop} : (inD (.int x) (.list (ns.map D.int))).sat B = B (decide (x ∈ ns)) := by
  rw [q_inL, any_ints]
  have h1 := shpI 9 x
  have h2 := shp_ints 8 ns
  have e : (shp (.int x) && shp (.list (ns.map D.int))) = true := by rw [show shp (.int x) = true from h1, show shp (.list (ns.map D.int)) = true from h2]; with_unfolding_all rfl
  simp [e]
theorem eqA_ints : ∀ as bs : List Int, eqA (as.map D.int) (bs.map D.int) = decide (as = bs)
  | [], [] => rfl
  | [], _ :: _ => rfl
  | _ :: _, [] => rfl
  | a :: r, b :: s => by
    simp only [List.map_cons, eqA, eqD, eqA_ints r s, List.cons.injEq, Bool.decide_and]
    by_cases h : a = b <;> simp [h]
mutual
theorem eqD_refl : ∀ (n : Nat) (d : D), shpB n d = true → eqD d d = true
  | _, .none, _ => rfl
  | _, .bool _, _ => by simp [eqD]
  | _, .int _, _ => by simp [eqD]
  | _, .str _, _ => by simp [eqD]
  | n + 1, .list xs, h => by simp only [shpB] at h; simp only [eqD]; exact eqA_refl n xs h
  | n + 1, .tuple xs, h => by simp only [shpB] at h; simp only [eqD]; exact eqA_refl n xs h
  | 0, .list _, h => by simp [shpB] at h
  | 0, .tuple _, h => by simp [shpB] at h
  | n, .dict _, h => by cases n <;> simp [shpB] at h
  | n, .scr _, h => by cases n <;> simp [shpB] at h
theorem eqA_refl : ∀ (n : Nat) (xs : List D), xs.all (shpB n) = true → eqA xs xs = true
  | _, [], _ => rfl
  | n, x :: r, h => by
    simp only [List.all_cons, Bool.and_eq_true] at h
    simp only [eqA, eqD_refl n x h.1, eqA_refl n r h.2, Bool.and_self]
end
theorem truth_b {b : Bool} : (truth (.bool b) = true) = (b = true) := id rfl
theorem mul_lit {a b : Int} (h1 : -(2 ^ 64) < b) (h2 : b < 2 ^ 64) : mulOk a b = true := by
  unfold mulOk; simp only [Bool.or_eq_true, decide_eq_true_eq]; exact .inl (.inr ⟨h1, h2⟩)
theorem mul_lit' {a b : Int} (h1 : -(2 ^ 64) < a) (h2 : a < 2 ^ 64) : mulOk a b = true := by
  unfold mulOk; simp only [Bool.or_eq_true, decide_eq_true_eq]; exact .inl (.inl ⟨h1, h2⟩)
theorem log2_lt {n k : Nat} (h : n < 2 ^ k) (hk : 0 < k) : n.log2 < k := by
  by_cases h0 : n = 0
  · subst h0; simpa using hk
  · exact (Nat.log2_lt h0).mpr h
theorem div_lit {b : Int} (h1 : 0 < b) (h2 : b < 2 ^ 256) : divOk b = true := by
  unfold divOk
  obtain ⟨k, rfl⟩ := Int.eq_ofNat_of_zero_le (Int.le_of_lt h1)
  have h3 : k < 2 ^ 256 := by omega
  have := log2_lt h3 (by decide)
  simp only [Int.natAbs_natCast, Bool.and_eq_true, Bool.or_eq_true, decide_eq_true_eq]
  exact ⟨h1, .inr (by omega)⟩
/-! small facts for simp -/
section
variable {Φ : Calls} {ρ : Env} {x : Option D} {i : Nat} {es : E} {P : D × Env → Prop}
theorem lt_zero : (0 < List.length (x :: ρ)) = True := by simp
theorem lt_succ : (i + 1 < List.length (x :: ρ)) = (i < List.length ρ) := by simp
theorem ln_cons {d : D} {ds : List D} {e r : E} : (List.length (d :: ds) = lenE (.cons e r)) = (ds.length = lenE r) := by simp [lenE]
theorem ln_nil : (List.length ([] : List D) = lenE .nil) = True := by simp [lenE]
theorem e_app : (ev Φ (.mt .append (.var i) es) ρ).sat P = (getS ρ i).sat fun x => mtOn .append x = true ∧ (ev Φ es ρ).sat fun p => (tupOf p.1).sat fun ds => (mtM .append x ds).sat fun q => P (q.1, p.2.set i (some q.2)) := e_mt rfl
theorem e_pop : (ev Φ (.mt .pop (.var i) es) ρ).sat P = (getS ρ i).sat fun x => mtOn .pop x = true ∧ (ev Φ es ρ).sat fun p => (tupOf p.1).sat fun ds => (mtM .pop x ds).sat fun q => P (q.1, p.2.set i (some q.2)) := e_mt rfl
theorem m_on {ds : List D} : (mtOn .append (.list ds) = true) = True := by simp [mtOn]
theorem q_eqI {a b : Int} {B : Bool → Prop} : (cmpD .eq (.int a) (.int b)).sat B = B (decide (a = b)) := by
  rw [q_eq]
  have e : shq (.int a) (.int b) = true := rfl
  have e2 : eqD (.int a) (.int b) = decide (a = b) := by simp only [eqD]; by_cases h : a = b <;> simp [h]
  simp [e, e2]
theorem q_neI {a b : Int} {B : Bool → Prop} : (cmpD .ne (.int a) (.int b)).sat B = B (decide (a ≠ b)) := by
  rw [q_ne]
  have e : shq (.int a) (.int b) = true := rfl
  have e2 : eqD (.int a) (.int b) = decide (a = b) := by simp only [eqD]; by_cases h : a = b <;> simp [h]
  simp [e, e2]
end
theorem q_eqS {a b : Str} {B : Bool → Prop} : (cmpD .eq (.str a) (.str b)).sat B = B (a == b) := by
  rw [q_eq]
  have e : shq (.str a) (.str b) = true := rfl
  simp [e, eqD]
theorem q_neS {a b : Str} {B : Bool → Prop} : (cmpD .ne (.str a) (.str b)).sat B = B (a != b) := by
  rw [q_ne]
  have e : shq (.str a) (.str b) = true := rfl
  simp [e, eqD, bne]
theorem q_eqB {a b : Bool} {B : Bool → Prop} : (cmpD .eq (.bool a) (.bool b)).sat B = B (decide (a = b)) := by
  rw [q_eq]
  have e : shq (.bool a) (.bool b) = true := rfl
  have e2 : eqD (.bool a) (.bool b) = decide (a = b) := by simp only [eqD]; cases a <;> cases b <;> with_unfolding_all rfl
  simp [e, e2]
theorem q_neB {a b : Bool} {B : Bool → Prop} : (cmpD .ne (.bool a) (.bool b)).sat B = B (decide (a ≠ b)) := by
  rw [q_ne]
  have e : shq (.bool a) (.bool b) = true := rfl
  have e2 : (!eqD (.bool a) (.bool b)) = decide (a ≠ b) := by simp only [eqD]; cases a <;> cases b <;> with_unfolding_all rfl
  rw [e2]; simp [e]
theorem i_bb {b : Bool} {B : Bool → Prop} : (isiD [.bool] (.bool b)).sat B = B true := by with_unfolding_all rfl
theorem i_tt {ds : List D} {B : Bool → Prop} : (isiD [.tuple] (.tuple ds)).sat B = B true := by with_unfolding_all rfl
theorem i_ll {ds : List D} {B : Bool → Prop} : (isiD [.list] (.list ds)).sat B = B true := by with_unfolding_all rfl
theorem run_eq {Φ : Calls} {p n : Nat} {b : S} {ds : List D} {P : D → Prop} : (runFn Φ ⟨p, n, b⟩ ds).sat P = ((ds.length = p ∧ p ≤ n) ∧ (exec Φ b (ds.map some ++ List.replicate (n - p) none)).sat (fun _ => P .none) (fun _ => False) (fun _ => False) P) := by
  unfold runFn
  rw [s_if]
  congr 1
  cases exec Φ b (ds.map some ++ List.replicate (n - p) none) <;> with_unfolding_all rfl
end Rf
end

section
/-! templates of the laws' helpers: the numbers of the defs they call are arguments. -/
namespace Rf
open PySem
/-- targets -/
def aTargets : S := (.seq (.asg (.tup (.cons (.var 2) (.cons (.var 3) (.cons (.var 4) .nil)))) (.sub (.var 0) (.var 1))) (.seq (.ite (.cmp .eq (.var 3) (.lit (.str (Str.ofString "draw")))) (.seq (.ret (.comp [5, 6] (.tup (.cons (.var 5) (.cons (.var 6) .nil))) (.var 4) (.lit (.bool true)) (.var 6))) .skip) .skip) (.seq (.ret (.bi .list (.cons (.var 4) .nil))) .skip)))
/-- _law_draws -/
def aDraws : S := (.seq (.asg (.var 2) (.comp [8] (.var 8) (.var 0) (.lit (.bool true)) (.var 8))) (.seq (.asg (.var 3) (.lst .nil)) (.seq (.for_ (.var 4) (.bi .range (.cons (.var 1) .nil)) (.seq (.asg (.var 5) (.lit (.int (0)))) (.seq (.ite (.cmp .gt (.bi .len (.cons (.var 2) .nil)) (.lit (.int (0)))) (.seq (.asg (.var 6) (.bin .mod (.bi .int (.cons (.var 4) .nil)) (.bi .len (.cons (.var 2) .nil)))) (.seq (.ite (.cmp .ge (.sub (.var 2) (.var 6)) (.bin .pow (.lit (.int (10))) (.lit (.int (18))))) (.seq (.asg (.var 5) (.bin .mod (.bi .int (.cons (.sub (.var 2) (.var 6)) .nil)) (.lit (.int (1000))))) (.seq (.asg (.sub (.var 2) (.var 6)) (.bin .fdiv (.sub (.var 2) (.var 6)) (.lit (.int (1000))))) .skip)) (.seq (.asg (.var 7) (.bin .mod (.bi .int (.cons (.bin .add (.bin .add (.bin .mul (.sub (.var 2) (.var 6)) (.lit (.int (48271)))) (.bin .mul (.var 4) (.lit (.int (69621))))) (.lit (.int (11)))) .nil)) (.lit (.int (2147483647))))) (.seq (.asg (.var 7) (.bin .mod (.bi .int (.cons (.bin .add (.bin .mul (.var 7) (.lit (.int (16807)))) (.var 6)) .nil)) (.lit (.int (2147483629))))) (.seq (.asg (.var 5) (.bin .mod (.bi .int (.cons (.bin .fdiv (.var 7) (.lit (.int (7)))) .nil)) (.lit (.int (1000))))) .skip)))) .skip)) .skip) (.seq (.ex (.mt .append (.var 3) (.cons (.var 5) .nil))) .skip)))) (.seq (.ret (.var 3)) .skip))))
/-- _law_gcd -/
def aGcd : S := (.seq (.asg (.var 0) (.bi .abs (.cons (.var 0) .nil))) (.seq (.asg (.var 1) (.bi .abs (.cons (.var 1) .nil))) (.seq (.for_ (.var 2) (.bi .range (.cons (.lit (.int (4000))) .nil)) (.seq (.ite (.cmp .eq (.var 1) (.lit (.int (0)))) (.seq .brk .skip) .skip) (.seq (.asg (.var 3) (.bin .mod (.bi .int (.cons (.var 0) .nil)) (.var 1))) (.seq (.asg (.var 0) (.var 1)) (.seq (.asg (.var 1) (.var 3)) .skip))))) (.seq (.ret (.var 0)) .skip))))
/-- _law_number calls _law_gcd -/
def aNumber (c0 : Nat) : S := (.seq (.ite (.cmp .lt (.var 1) (.lit (.int (0)))) (.seq (.asg (.var 0) (.neg (.var 0))) (.seq (.asg (.var 1) (.neg (.var 1))) .skip)) .skip) (.seq (.asg (.var 2) (.call c0 (.cons (.var 0) (.cons (.var 1) .nil)))) (.seq (.ret (.tup (.cons (.bin .fdiv (.var 0) (.var 2)) (.cons (.bin .fdiv (.var 1) (.var 2)) .nil)))) .skip)))
/-- _law_plus calls _law_number -/
def aPlus (c0 : Nat) : S := (.seq (.ret (.call c0 (.cons (.bin .add (.bin .mul (.sub (.var 0) (.lit (.int (0)))) (.sub (.var 1) (.lit (.int (1))))) (.bin .mul (.sub (.var 1) (.lit (.int (0)))) (.sub (.var 0) (.lit (.int (1)))))) (.cons (.bin .mul (.sub (.var 0) (.lit (.int (1)))) (.sub (.var 1) (.lit (.int (1))))) .nil)))) .skip)
/-- _law_times calls _law_number -/
def aTimes (c0 : Nat) : S := (.seq (.ret (.call c0 (.cons (.bin .mul (.sub (.var 0) (.lit (.int (0)))) (.sub (.var 1) (.lit (.int (0))))) (.cons (.bin .mul (.sub (.var 0) (.lit (.int (1)))) (.sub (.var 1) (.lit (.int (1))))) .nil)))) .skip)
/-- _law_less -/
def aLess : S := (.seq (.ret (.cmp .lt (.bin .mul (.sub (.var 0) (.lit (.int (0)))) (.sub (.var 1) (.lit (.int (1))))) (.bin .mul (.sub (.var 1) (.lit (.int (0)))) (.sub (.var 0) (.lit (.int (1))))))) .skip)
/-- _law_place calls _law_number -/
def aPlace (c0 : Nat) : S := (.seq (.asg (.var 3) (.bin .mod (.bi .int (.cons (.sub (.var 0) (.lit (.int (0)))) .nil)) (.lit (.int (7))))) (.seq (.asg (.var 4) (.bin .mod (.bi .int (.cons (.sub (.var 0) (.lit (.int (1)))) .nil)) (.bin .add (.var 2) (.lit (.int (1)))))) (.seq (.asg (.var 5) (.sub (.lst (.cons (.lit (.int (1))) (.cons (.lit (.int (2))) (.cons (.lit (.int (3))) (.cons (.lit (.int (1))) (.cons (.lit (.int (2))) (.cons (.lit (.int (3))) (.cons (.lit (.int (4))) (.cons (.lit (.int (5))) (.cons (.lit (.int (6))) .nil)))))))))) (.bin .mod (.bi .int (.cons (.sub (.var 0) (.lit (.int (2)))) .nil)) (.lit (.int (9)))))) (.seq (.asg (.var 6) (.comp [8] (.var 8) (.bi .range (.cons (.var 5) .nil)) (.lit (.bool true)) (.bin .mod (.bi .int (.cons (.sub (.var 0) (.bin .add (.lit (.int (3))) (.var 8))) .nil)) (.var 1)))) (.seq (.ite (.cmp .lt (.var 3) (.lit (.int (3)))) (.seq (.asg (.var 7) (.comp [8] (.var 8) (.bi .range (.cons (.var 5) .nil)) (.lit (.bool true)) (.bin .add (.lit (.int (1))) (.bin .mod (.bi .int (.cons (.sub (.var 0) (.bin .add (.lit (.int (9))) (.var 8))) .nil)) (.lit (.int (5))))))) (.seq (.ret (.tup (.cons (.var 4) (.cons (.lit (.str (Str.ofString "draw"))) (.cons (.comp [8] (.var 8) (.bi .range (.cons (.var 5) .nil)) (.lit (.bool true)) (.tup (.cons (.call c0 (.cons (.sub (.var 7) (.var 8)) (.cons (.bi .sum (.cons (.var 7) .nil)) .nil))) (.cons (.sub (.var 6) (.var 8)) .nil)))) .nil))))) .skip)) .skip) (.seq (.ret (.tup (.cons (.var 4) (.cons (.sub (.lst (.cons (.lit (.str (Str.ofString "ours"))) (.cons (.lit (.str (Str.ofString "theirs"))) .nil))) (.bin .mod (.var 3) (.lit (.int (2))))) (.cons (.var 6) .nil))))) .skip))))))
/-- _law_game calls _law_place -/
def aGame (c0 : Nat) : S := (.seq (.asg (.var 3) (.bin .add (.lit (.int (1))) (.bin .mod (.bi .int (.cons (.sub (.var 0) (.lit (.int (0)))) .nil)) (.var 1)))) (.seq (.ret (.comp [4] (.var 4) (.bi .range (.cons (.var 3) .nil)) (.lit (.bool true)) (.call c0 (.cons (.slc (.var 0) (.bin .add (.lit (.int (1))) (.bin .mul (.lit (.int (15))) (.var 4))) (.bin .add (.lit (.int (16))) (.bin .mul (.lit (.int (15))) (.var 4)))) (.cons (.var 3) (.cons (.var 2) .nil)))))) .skip))
/-- _law_targets -/
def aLTargets : S := (.seq (.ite (.cmp .eq (.sub (.var 0) (.lit (.int (1)))) (.lit (.str (Str.ofString "draw")))) (.seq (.ret (.comp [1, 2] (.tup (.cons (.var 1) (.cons (.var 2) .nil))) (.sub (.var 0) (.lit (.int (2)))) (.lit (.bool true)) (.var 2))) .skip) .skip) (.seq (.ret (.bi .list (.cons (.sub (.var 0) (.lit (.int (2)))) .nil))) .skip))
/-- _law_some -/
def aSome : S := (.seq (.ret (.comp [2] (.var 2) (.bi .range (.cons (.bi .len (.cons (.var 0) .nil)) .nil)) (.cmp .gt (.bin .mod (.bi .int (.cons (.sub (.var 1) (.var 2)) .nil)) (.lit (.int (4)))) (.lit (.int (0)))) (.var 2))) .skip)
end Rf
end

section
/-! Pm2: the laws' own helpers. -/
namespace Rf
open PySem
theorem rOk_nat {c : Nat} (h : c ≤ 100000) : (rOk c && decide ((c : Int) ≤ (line : Nat))) = true := by
  simp only [rOk, Bool.and_eq_true, decide_eq_true_eq, line]; omega
theorem sp_draws {Φ : Calls} {ns : List Int} {c : Nat} (hn : ns.length ≤ 63) (hc : c ≤ 100000) : (runFn Φ ⟨2, 9, aDraws⟩ [.scr ns, .int c]).sat fun d => ∃ vs : List Int, d = .list (vs.map .int) ∧ vs.length = c ∧ ∀ v ∈ vs, 0 ≤ v ∧ v < 1000 := by
  rw [run_eq]
  refine ⟨⟨rfl, by decide⟩, ?_⟩
  show (exec Φ aDraws [some (.scr ns), some (.int c), none, none, none, none, none, none, none]).sat _ _ _ _
  unfold aDraws
  simp only [x_skip, x_seq, x_asg, x_aug, x_ex, x_ite, x_for, x_ret, x_brk, x_cnt, t_var, t_tup, t_tupL, t_nil, t_cons, t_sub, n_var, n_tup, n_nil, n_cons, c_cons', c_lst, c_neg, c_tup, e_nil, e_cons, e_var, e_lit, e_tup, e_lst, e_neg, e_not, e_bin, e_cmp, e_and, e_or, e_ite, e_sub, e_slc, e_call, e_bi, e_isi, e_app, e_pop, e_comp, e_dcomp, i_sat, g_zero, g_succ, z_zero, z_succ, wipe_nil, wipe_cons, p_add, p_sub, p_mul, p_fdiv, p_mod, p_pow, p_addL, p_addT, p_auga, p_augs, q_lt, q_le, q_gt, q_ge, q_isN, q_isnotN, q_in, q_notin, q_in_ints, p_len, p_lenT, p_lenS, p_list, p_listT, p_int, p_intB, p_abs, p_range, p_range2, p_all, p_any, p_sum, p_gcd, p_append, p_items, p_itemsT, p_itemsS, p_subL, p_subT, at0, at1, at2, truth_b, lt_zero, lt_succ, ln_cons, ln_nil, p_slc, p_putL, true_and, and_true, decide_eq_true_eq, m_on, q_eqI, q_neI, Option.some.injEq, exists_eq_left', exists_eq_left, if_true, if_false, eq_self, Bool.false_eq_true, Bool.not_eq_true, List.length_map, reduceCtorEq, not_false_eq_true, sat_ite, s_ok, q_eqS, q_neS, q_eqB, q_neB, i_bb, i_tt, i_ll, p_end, p_endN, ne_eq]
  refine ⟨by simp only [line]; omega, fm_map (as := ns) (ea := .int) (eb := .int) id ?_ ?_⟩
  · intro a _
    simp only [x_skip, x_seq, x_asg, x_aug, x_ex, x_ite, x_for, x_ret, x_brk, x_cnt, t_var, t_tup, t_tupL, t_nil, t_cons, t_sub, n_var, n_tup, n_nil, n_cons, c_cons', c_lst, c_neg, c_tup, e_nil, e_cons, e_var, e_lit, e_tup, e_lst, e_neg, e_not, e_bin, e_cmp, e_and, e_or, e_ite, e_sub, e_slc, e_call, e_bi, e_isi, e_app, e_pop, e_comp, e_dcomp, i_sat, g_zero, g_succ, z_zero, z_succ, wipe_nil, wipe_cons, p_add, p_sub, p_mul, p_fdiv, p_mod, p_pow, p_addL, p_addT, p_auga, p_augs, q_lt, q_le, q_gt, q_ge, q_isN, q_isnotN, q_in, q_notin, q_in_ints, p_len, p_lenT, p_lenS, p_list, p_listT, p_int, p_intB, p_abs, p_range, p_range2, p_all, p_any, p_sum, p_gcd, p_append, p_items, p_itemsT, p_itemsS, p_subL, p_subT, at0, at1, at2, truth_b, lt_zero, lt_succ, ln_cons, ln_nil, p_slc, p_putL, true_and, and_true, decide_eq_true_eq, m_on, q_eqI, q_neI, Option.some.injEq, exists_eq_left', exists_eq_left, if_true, if_false, eq_self, Bool.false_eq_true, Bool.not_eq_true, List.length_map, reduceCtorEq, not_false_eq_true, sat_ite, s_ok, q_eqS, q_neS, q_eqB, q_neB, i_bb, i_tt, i_ll, p_end, p_endN, ne_eq]
    rfl
  rw [List.map_id]
  refine ⟨rOk_nat hc, ?_⟩
  refine loop_rng (fun i ρ => ∃ (rs vs : List Int) (x4 x5 x6 x7 x8 : Option D), ρ = [some (.scr ns), some (.int c), some (.list (rs.map .int)), some (.list (vs.map .int)), x4, x5, x6, x7, x8] ∧ rs.length = ns.length ∧ vs.length = i ∧ ∀ v ∈ vs, 0 ≤ v ∧ v < 1000)
    (fun ρ => ∃ (rs vs : List Int) (x4 x5 x6 x7 x8 : Option D), ρ = [some (.scr ns), some (.int c), some (.list (rs.map .int)), some (.list (vs.map .int)), x4, x5, x6, x7, x8] ∧ vs.length = c ∧ ∀ v ∈ vs, 0 ≤ v ∧ v < 1000) ?_ ?_ ?_ ?_
  · exact ⟨ns, [], none, none, none, none, none, rfl, rfl, rfl, fun v h => by cases h⟩
  · rintro i ρ hi ⟨rs, vs, x4, x5, x6, x7, x8, rfl, h1, h2, h3⟩
    have hv : vs.length < line := by simp only [line]; omega
    have app : ∀ v : Int, 0 ≤ v ∧ v < 1000 → (vs ++ [v]).length = i + 1 ∧ ∀ u ∈ vs ++ [v], 0 ≤ u ∧ u < 1000 := fun v h => ⟨by simp [h2], fun u hu => by
      rcases List.mem_append.mp hu with hu | hu
      · exact h3 u hu
      · rw [List.mem_singleton] at hu; subst hu; exact h⟩
    simp only [x_skip, x_seq, x_asg, x_aug, x_ex, x_ite, x_for, x_ret, x_brk, x_cnt, t_var, t_tup, t_tupL, t_nil, t_cons, t_sub, n_var, n_tup, n_nil, n_cons, c_cons', c_lst, c_neg, c_tup, e_nil, e_cons, e_var, e_lit, e_tup, e_lst, e_neg, e_not, e_bin, e_cmp, e_and, e_or, e_ite, e_sub, e_slc, e_call, e_bi, e_isi, e_app, e_pop, e_comp, e_dcomp, i_sat, g_zero, g_succ, z_zero, z_succ, wipe_nil, wipe_cons, p_add, p_sub, p_mul, p_fdiv, p_mod, p_pow, p_addL, p_addT, p_auga, p_augs, q_lt, q_le, q_gt, q_ge, q_isN, q_isnotN, q_in, q_notin, q_in_ints, p_len, p_lenT, p_lenS, p_list, p_listT, p_int, p_intB, p_abs, p_range, p_range2, p_all, p_any, p_sum, p_gcd, p_append, p_items, p_itemsT, p_itemsS, p_subL, p_subT, at0, at1, at2, truth_b, lt_zero, lt_succ, ln_cons, ln_nil, p_slc, p_putL, true_and, and_true, decide_eq_true_eq, m_on, q_eqI, q_neI, Option.some.injEq, exists_eq_left', exists_eq_left, if_true, if_false, eq_self, Bool.false_eq_true, Bool.not_eq_true, List.length_map, reduceCtorEq, not_false_eq_true, sat_ite, s_ok, q_eqS, q_neS, q_eqB, q_neB, i_bb, i_tt, i_ll, p_end, p_endN, ne_eq]
    by_cases h0 : 0 < (rs.length : Int)
    · have hp : 0 < rs.length := by omega
      have hj : ((0 + (i : Int)) % (rs.length : Int)) = ((i % rs.length : Nat) : Int) := by rw [Int.zero_add]; rfl
      have hlt : i % rs.length < rs.length := Nat.mod_lt _ hp
      generalize hk : i % rs.length = k at hj hlt
      have hat : atL (rs.map D.int) (k : Int) = some (.int rs[k]) := by rw [atL_nat, List.getElem?_map, List.getElem?_eq_getElem hlt]; rfl
      rw [if_pos h0]
      simp only [x_skip, x_seq, x_asg, x_aug, x_ex, x_ite, x_for, x_ret, x_brk, x_cnt, t_var, t_tup, t_tupL, t_nil, t_cons, t_sub, n_var, n_tup, n_nil, n_cons, c_cons', c_lst, c_neg, c_tup, e_nil, e_cons, e_var, e_lit, e_tup, e_lst, e_neg, e_not, e_bin, e_cmp, e_and, e_or, e_ite, e_sub, e_slc, e_call, e_bi, e_isi, e_app, e_pop, e_comp, e_dcomp, i_sat, g_zero, g_succ, z_zero, z_succ, wipe_nil, wipe_cons, p_add, p_sub, p_mul, p_fdiv, p_mod, p_pow, p_addL, p_addT, p_auga, p_augs, q_lt, q_le, q_gt, q_ge, q_isN, q_isnotN, q_in, q_notin, q_in_ints, p_len, p_lenT, p_lenS, p_list, p_listT, p_int, p_intB, p_abs, p_range, p_range2, p_all, p_any, p_sum, p_gcd, p_append, p_items, p_itemsT, p_itemsS, p_subL, p_subT, at0, at1, at2, truth_b, lt_zero, lt_succ, ln_cons, ln_nil, p_slc, p_putL, true_and, and_true, decide_eq_true_eq, m_on, q_eqI, q_neI, Option.some.injEq, exists_eq_left', exists_eq_left, if_true, if_false, eq_self, Bool.false_eq_true, Bool.not_eq_true, List.length_map, reduceCtorEq, not_false_eq_true, sat_ite, s_ok, q_eqS, q_neS, q_eqB, q_neB, i_bb, i_tt, i_ll, p_end, p_endN, ne_eq, hj, hat, ixN_nat hlt]
      refine ⟨h0, ⟨by decide, by decide, by decide⟩, ?_⟩
      split
      · refine ⟨by decide, div_lit (by decide) (by decide), hv, rs.set k (rs[k] / 1000), vs ++ [rs[k] % 1000], _, _, _, _, _, by rw [List.map_set, List.map_append]; rfl, by rw [List.length_set, h1], app _ (by omega)⟩
      · refine ⟨mul_lit (by decide) (by decide), mul_lit (by decide) (by decide), by decide, mul_lit (by decide) (by decide), by decide, div_lit (by decide) (by decide), by decide, hv, rs, vs ++ [_], _, _, _, _, _, by rw [List.map_append]; rfl, h1, app _ (by omega)⟩
    · rw [if_neg h0]
      exact ⟨hv, rs, vs ++ [0], _, _, _, _, _, by rw [List.map_append]; rfl, h1, app _ (by omega)⟩
  · rintro ρ ⟨rs, vs, x4, x5, x6, x7, x8, rfl, h1, h2, h3⟩
    exact ⟨rs, vs, _, _, _, _, _, rfl, by omega, h3⟩
  · rintro ρ ⟨rs, vs, x4, x5, x6, x7, x8, rfl, h2, h3⟩
    simp only [x_skip, x_seq, x_asg, x_aug, x_ex, x_ite, x_for, x_ret, x_brk, x_cnt, t_var, t_tup, t_tupL, t_nil, t_cons, t_sub, n_var, n_tup, n_nil, n_cons, c_cons', c_lst, c_neg, c_tup, e_nil, e_cons, e_var, e_lit, e_tup, e_lst, e_neg, e_not, e_bin, e_cmp, e_and, e_or, e_ite, e_sub, e_slc, e_call, e_bi, e_isi, e_app, e_pop, e_comp, e_dcomp, i_sat, g_zero, g_succ, z_zero, z_succ, wipe_nil, wipe_cons, p_add, p_sub, p_mul, p_fdiv, p_mod, p_pow, p_addL, p_addT, p_auga, p_augs, q_lt, q_le, q_gt, q_ge, q_isN, q_isnotN, q_in, q_notin, q_in_ints, p_len, p_lenT, p_lenS, p_list, p_listT, p_int, p_intB, p_abs, p_range, p_range2, p_all, p_any, p_sum, p_gcd, p_append, p_items, p_itemsT, p_itemsS, p_subL, p_subT, at0, at1, at2, truth_b, lt_zero, lt_succ, ln_cons, ln_nil, p_slc, p_putL, true_and, and_true, decide_eq_true_eq, m_on, q_eqI, q_neI, Option.some.injEq, exists_eq_left', exists_eq_left, if_true, if_false, eq_self, Bool.false_eq_true, Bool.not_eq_true, List.length_map, reduceCtorEq, not_false_eq_true, sat_ite, s_ok, q_eqS, q_neS, q_eqB, q_neB, i_bb, i_tt, i_ll, p_end, p_endN, ne_eq]
    exact ⟨vs, rfl, h2, h3⟩
/-- draws as natural numbers -/
abbrev nI (n : Nat) : D := .int (n : Int)
theorem nat_ints : ∀ {vs : List Int}, (∀ v ∈ vs, 0 ≤ v) → vs.map D.int = (vs.map Int.toNat).map nI
  | [], _ => rfl
  | v :: r, h => by
    rw [List.map_cons, List.map_cons, List.map_cons, nat_ints fun u hu => h u (List.mem_cons_of_mem _ hu)]
    congr 1
    show D.int v = D.int (v.toNat : Int)
    rw [Int.toNat_of_nonneg (h v List.mem_cons_self)]
theorem sp_drawsN {Φ : Calls} {ns : List Int} {c : Nat} (hn : ns.length ≤ 63) (hc : c ≤ 100000) : (runFn Φ ⟨2, 9, aDraws⟩ [.scr ns, .int c]).sat fun d => ∃ vs : List Nat, d = .list (vs.map nI) ∧ vs.length = c ∧ ∀ v ∈ vs, v < 1000 := by
  refine (sp_draws hn hc).imp fun d ⟨vs, h1, h2, h3⟩ => ⟨vs.map Int.toNat, ?_, by rw [List.length_map, h2], fun v hv => ?_⟩
  · rw [h1, nat_ints fun v hv => (h3 v hv).1]
  · obtain ⟨u, h4, rfl⟩ := List.mem_map.mp hv
    have := h3 u h4
    omega
/-! gcd -/
theorem sp_gcd {Φ : Calls} {a b : Int} (hb : a.natAbs * b.natAbs < 2 ^ 3000) : (runFn Φ ⟨2, 4, aGcd⟩ [.int a, .int b]).sat fun d => d = .int (Int.gcd a b : Nat) := by
  rw [run_eq]
  refine ⟨⟨rfl, by decide⟩, ?_⟩
  show (exec Φ aGcd [some (.int a), some (.int b), none, none]).sat _ _ _ _
  unfold aGcd
  simp only [x_skip, x_seq, x_asg, x_aug, x_ex, x_ite, x_for, x_ret, x_brk, x_cnt, t_var, t_tup, t_tupL, t_nil, t_cons, t_sub, n_var, n_tup, n_nil, n_cons, c_cons', c_lst, c_neg, c_tup, e_nil, e_cons, e_var, e_lit, e_tup, e_lst, e_neg, e_not, e_bin, e_cmp, e_and, e_or, e_ite, e_sub, e_slc, e_call, e_bi, e_isi, e_app, e_pop, e_comp, e_dcomp, i_sat, g_zero, g_succ, z_zero, z_succ, wipe_nil, wipe_cons, p_add, p_sub, p_mul, p_fdiv, p_mod, p_pow, p_addL, p_addT, p_auga, p_augs, q_lt, q_le, q_gt, q_ge, q_isN, q_isnotN, q_in, q_notin, q_in_ints, p_len, p_lenT, p_lenS, p_list, p_listT, p_int, p_intB, p_abs, p_range, p_range2, p_all, p_any, p_sum, p_gcd, p_append, p_items, p_itemsT, p_itemsS, p_subL, p_subT, at0, at1, at2, truth_b, lt_zero, lt_succ, ln_cons, ln_nil, p_slc, p_putL, true_and, and_true, decide_eq_true_eq, m_on, q_eqI, q_neI, Option.some.injEq, exists_eq_left', exists_eq_left, if_true, if_false, eq_self, Bool.false_eq_true, Bool.not_eq_true, List.length_map, reduceCtorEq, not_false_eq_true, sat_ite, s_ok, q_eqS, q_neS, q_eqB, q_neB, i_bb, i_tt, i_ll, p_end, p_endN, ne_eq]
  have ab : ∀ x : Int, (if x < 0 then -x else x) = (x.natAbs : Int) := fun x => by split <;> omega
  simp only [ab]
  refine ⟨by decide, ?_⟩
  rw [show (4000 : Int).toNat = 4000 from rfl]
  refine loop_rng (fun i ρ => ∃ (x y : Nat) (x2 x3 : Option D), ρ = [some (nI x), some (nI y), x2, x3] ∧ Nat.gcd x y = Int.gcd a b ∧ (i = 0 → x * y < 2 ^ 3000) ∧ (0 < i → y < x ∧ x * y * 2 ^ (i - 1) < 2 ^ 3000))
    (fun ρ => ∃ (x2 x3 : Option D), ρ = [some (.int (Int.gcd a b : Nat)), some (.int 0), x2, x3]) ?_ ?_ ?_ ?_
  · exact ⟨a.natAbs, b.natAbs, none, none, rfl, rfl, fun _ => hb, fun h => absurd h (by omega)⟩
  · rintro i ρ hi ⟨x, y, x2, x3, rfl, hg, h0, h1⟩
    simp only [x_skip, x_seq, x_asg, x_aug, x_ex, x_ite, x_for, x_ret, x_brk, x_cnt, t_var, t_tup, t_tupL, t_nil, t_cons, t_sub, n_var, n_tup, n_nil, n_cons, c_cons', c_lst, c_neg, c_tup, e_nil, e_cons, e_var, e_lit, e_tup, e_lst, e_neg, e_not, e_bin, e_cmp, e_and, e_or, e_ite, e_sub, e_slc, e_call, e_bi, e_isi, e_app, e_pop, e_comp, e_dcomp, i_sat, g_zero, g_succ, z_zero, z_succ, wipe_nil, wipe_cons, p_add, p_sub, p_mul, p_fdiv, p_mod, p_pow, p_addL, p_addT, p_auga, p_augs, q_lt, q_le, q_gt, q_ge, q_isN, q_isnotN, q_in, q_notin, q_in_ints, p_len, p_lenT, p_lenS, p_list, p_listT, p_int, p_intB, p_abs, p_range, p_range2, p_all, p_any, p_sum, p_gcd, p_append, p_items, p_itemsT, p_itemsS, p_subL, p_subT, at0, at1, at2, truth_b, lt_zero, lt_succ, ln_cons, ln_nil, p_slc, p_putL, true_and, and_true, decide_eq_true_eq, m_on, q_eqI, q_neI, Option.some.injEq, exists_eq_left', exists_eq_left, if_true, if_false, eq_self, Bool.false_eq_true, Bool.not_eq_true, List.length_map, reduceCtorEq, not_false_eq_true, sat_ite, s_ok, q_eqS, q_neS, q_eqB, q_neB, i_bb, i_tt, i_ll, p_end, p_endN, ne_eq]
    split
    · rename_i hy
      have hy : y = 0 := by omega
      subst hy
      rw [Nat.gcd_zero_right] at hg
      exact ⟨_, _, by rw [← hg]; rfl⟩
    · rename_i hy
      have hy : 0 < y := by omega
      refine ⟨by omega, y, x % y, _, _, rfl, ?_, fun h => h.elim, fun _ => ⟨Nat.mod_lt _ hy, ?_⟩⟩
      · rw [← hg, Nat.gcd_comm x y, Nat.gcd_rec y x, Nat.gcd_comm]
      · have e : i + 1 - 1 = i := rfl
        rw [e]
        rcases Nat.eq_zero_or_pos i with rfl | hp
        · have hm : x % y ≤ x := Nat.mod_le _ _
          have : y * (x % y) ≤ y * x := Nat.mul_le_mul_left _ hm
          have h2 := h0 rfl
          rw [Nat.mul_comm y x] at this
          rw [Nat.pow_zero, Nat.mul_one]
          exact Nat.lt_of_le_of_lt this h2
        · obtain ⟨hlt, h2⟩ := h1 hp
          have hm : 2 * (x % y) ≤ x := by
            have q1 := Nat.div_add_mod x y
            have q2 := Nat.mod_lt x hy
            have q3 : 1 ≤ x / y := Nat.div_pos (Nat.le_of_lt hlt) hy
            have q4 : y * 1 ≤ y * (x / y) := Nat.mul_le_mul_left _ q3
            omega
          obtain ⟨j, rfl⟩ : ∃ j, i = j + 1 := ⟨i - 1, by omega⟩
          have e2 : y * (x % y) * 2 ^ (j + 1) = y * (2 * (x % y)) * 2 ^ j := by
            rw [Nat.pow_succ]
            simp only [Nat.mul_comm, Nat.mul_left_comm, Nat.mul_assoc]
          rw [e2]
          refine Nat.lt_of_le_of_lt (Nat.mul_le_mul_right _ (Nat.mul_le_mul_left _ hm)) ?_
          rw [Nat.mul_comm y x]
          exact h2
  · rintro ρ ⟨x, y, x2, x3, rfl, hg, h0, h1⟩
    obtain ⟨hlt, h2⟩ := h1 (by decide)
    have hy : y = 0 := by
      rcases Nat.eq_zero_or_pos y with h | h
      · exact h
      · exfalso
        have q1 : 1 ≤ x * y := Nat.mul_pos (by omega) h
        have q2 : 2 ^ 3999 ≤ x * y * 2 ^ 3999 := by
          have := Nat.mul_le_mul_right (2 ^ 3999) q1
          rwa [Nat.one_mul] at this
        have q3 : 2 ^ 3000 ≤ 2 ^ 3999 := Nat.pow_le_pow_right (by decide) (by decide)
        omega
    subst hy
    rw [Nat.gcd_zero_right] at hg
    exact ⟨x2, x3, by rw [← hg]; rfl⟩
  · rintro ρ ⟨x2, x3, rfl⟩
    simp only [x_skip, x_seq, x_asg, x_aug, x_ex, x_ite, x_for, x_ret, x_brk, x_cnt, t_var, t_tup, t_tupL, t_nil, t_cons, t_sub, n_var, n_tup, n_nil, n_cons, c_cons', c_lst, c_neg, c_tup, e_nil, e_cons, e_var, e_lit, e_tup, e_lst, e_neg, e_not, e_bin, e_cmp, e_and, e_or, e_ite, e_sub, e_slc, e_call, e_bi, e_isi, e_app, e_pop, e_comp, e_dcomp, i_sat, g_zero, g_succ, z_zero, z_succ, wipe_nil, wipe_cons, p_add, p_sub, p_mul, p_fdiv, p_mod, p_pow, p_addL, p_addT, p_auga, p_augs, q_lt, q_le, q_gt, q_ge, q_isN, q_isnotN, q_in, q_notin, q_in_ints, p_len, p_lenT, p_lenS, p_list, p_listT, p_int, p_intB, p_abs, p_range, p_range2, p_all, p_any, p_sum, p_gcd, p_append, p_items, p_itemsT, p_itemsS, p_subL, p_subT, at0, at1, at2, truth_b, lt_zero, lt_succ, ln_cons, ln_nil, p_slc, p_putL, true_and, and_true, decide_eq_true_eq, m_on, q_eqI, q_neI, Option.some.injEq, exists_eq_left', exists_eq_left, if_true, if_false, eq_self, Bool.false_eq_true, Bool.not_eq_true, List.length_map, reduceCtorEq, not_false_eq_true, sat_ite, s_ok, q_eqS, q_neS, q_eqB, q_neB, i_bb, i_tt, i_ll, p_end, p_endN, ne_eq]
end Rf
end

section
/-! Pm3: numbers, places, games of the laws. -/
namespace Rf
open PySem
theorem calls_eq {fns : List Fn} {n f : Nat} {fn : Fn} (h : fns[f]? = some fn) (ds : List D) : calls fns (n + 1) f ds = runFn (calls fns n) fn ds := by
  simp only [calls, h]
/-- a fraction -/
def encQ (q : Int × Int) : D := .tuple [.int q.1, .int q.2]
def nrm (n d : Int) : Int × Int := if d < 0 then (-n / (Int.gcd n d : Nat), -d / (Int.gcd n d : Nat)) else (n / (Int.gcd n d : Nat), d / (Int.gcd n d : Nat))
def GcdOk (Φ : Calls) (g : Nat) : Prop := ∀ a b : Int, a.natAbs * b.natAbs < 2 ^ 3000 → (Φ g [.int a, .int b]).sat fun d => d = .int (Int.gcd a b : Nat)
theorem gcd_div {n d : Int} (hd : d ≠ 0) (hb : d.natAbs < 2 ^ 1500) : divOk (Int.gcd n d : Nat) = true := by
  have h1 : 0 < Int.gcd n d := Int.gcd_pos_of_ne_zero_right _ hd
  have h2 : Int.gcd n d ≤ d.natAbs := by rw [Int.gcd]; exact Nat.gcd_le_right _ (by omega)
  have h3 := log2_lt (Nat.lt_of_le_of_lt h2 hb) (by decide)
  unfold divOk
  simp only [Int.natAbs_natCast, Bool.and_eq_true, Bool.or_eq_true, decide_eq_true_eq]
  exact ⟨by omega, .inr (by omega)⟩
theorem mul_lt {a b : Nat} (ha : a < 2 ^ 1500) (hb : b < 2 ^ 1500) : a * b < 2 ^ 3000 := by
  rcases Nat.eq_zero_or_pos b with rfl | h
  · rw [Nat.mul_zero]; exact Nat.two_pow_pos _
  · have h1 : a * b < 2 ^ 1500 * b := Nat.mul_lt_mul_of_pos_right ha h
    have h2 : 2 ^ 1500 * b ≤ 2 ^ 1500 * 2 ^ 1500 := Nat.mul_le_mul_left _ (Nat.le_of_lt hb)
    rw [show (3000 : Nat) = 1500 + 1500 from rfl, Nat.pow_add]
    exact Nat.lt_of_lt_of_le h1 h2
theorem sp_number {Φ : Calls} {c0 : Nat} (hg : GcdOk Φ c0) {n d : Int} (h0 : d ≠ 0) (hn : n.natAbs < 2 ^ 1500) (hd : d.natAbs < 2 ^ 1500) : (runFn Φ ⟨2, 3, aNumber c0⟩ [.int n, .int d]).sat fun r => r = encQ (nrm n d) := by
  rw [run_eq]
  refine ⟨⟨rfl, by decide⟩, ?_⟩
  show (exec Φ (aNumber c0) [some (.int n), some (.int d), none]).sat _ _ _ _
  unfold aNumber
  simp only [x_skip, x_seq, x_asg, x_aug, x_ex, x_ite, x_for, x_ret, x_brk, x_cnt, t_var, t_tup, t_tupL, t_nil, t_cons, t_sub, n_var, n_tup, n_nil, n_cons, c_cons', c_lst, c_neg, c_tup, e_nil, e_cons, e_var, e_lit, e_tup, e_lst, e_neg, e_not, e_bin, e_cmp, e_and, e_or, e_ite, e_sub, e_slc, e_call, e_bi, e_isi, e_app, e_pop, e_comp, e_dcomp, i_sat, g_zero, g_succ, z_zero, z_succ, wipe_nil, wipe_cons, p_add, p_sub, p_mul, p_fdiv, p_mod, p_pow, p_addL, p_addT, p_auga, p_augs, q_lt, q_le, q_gt, q_ge, q_isN, q_isnotN, q_in, q_notin, q_in_ints, p_len, p_lenT, p_lenS, p_list, p_listT, p_int, p_intB, p_abs, p_range, p_range2, p_all, p_any, p_sum, p_gcd, p_append, p_items, p_itemsT, p_itemsS, p_subL, p_subT, at0, at1, at2, truth_b, lt_zero, lt_succ, ln_cons, ln_nil, p_slc, p_putL, true_and, and_true, decide_eq_true_eq, m_on, q_eqI, q_neI, Option.some.injEq, exists_eq_left', exists_eq_left, if_true, if_false, eq_self, Bool.false_eq_true, Bool.not_eq_true, List.length_map, reduceCtorEq, not_false_eq_true, sat_ite, s_ok, q_eqS, q_neS, q_eqB, q_neB, i_bb, i_tt, i_ll, p_end, p_endN, ne_eq]
  by_cases h : d < 0
  · rw [if_pos h]
    refine (hg (-n) (-d) (by rw [Int.natAbs_neg, Int.natAbs_neg]; exact mul_lt hn hd)).imp fun r e => ?_
    subst e
    have e : Int.gcd (-n) (-d) = Int.gcd n d := by rw [Int.neg_gcd, Int.gcd_neg]
    simp only [x_skip, x_seq, x_asg, x_aug, x_ex, x_ite, x_for, x_ret, x_brk, x_cnt, t_var, t_tup, t_tupL, t_nil, t_cons, t_sub, n_var, n_tup, n_nil, n_cons, c_cons', c_lst, c_neg, c_tup, e_nil, e_cons, e_var, e_lit, e_tup, e_lst, e_neg, e_not, e_bin, e_cmp, e_and, e_or, e_ite, e_sub, e_slc, e_call, e_bi, e_isi, e_app, e_pop, e_comp, e_dcomp, i_sat, g_zero, g_succ, z_zero, z_succ, wipe_nil, wipe_cons, p_add, p_sub, p_mul, p_fdiv, p_mod, p_pow, p_addL, p_addT, p_auga, p_augs, q_lt, q_le, q_gt, q_ge, q_isN, q_isnotN, q_in, q_notin, q_in_ints, p_len, p_lenT, p_lenS, p_list, p_listT, p_int, p_intB, p_abs, p_range, p_range2, p_all, p_any, p_sum, p_gcd, p_append, p_items, p_itemsT, p_itemsS, p_subL, p_subT, at0, at1, at2, truth_b, lt_zero, lt_succ, ln_cons, ln_nil, p_slc, p_putL, true_and, and_true, decide_eq_true_eq, m_on, q_eqI, q_neI, Option.some.injEq, exists_eq_left', exists_eq_left, if_true, if_false, eq_self, Bool.false_eq_true, Bool.not_eq_true, List.length_map, reduceCtorEq, not_false_eq_true, sat_ite, s_ok, q_eqS, q_neS, q_eqB, q_neB, i_bb, i_tt, i_ll, p_end, p_endN, ne_eq, e]
    exact ⟨gcd_div h0 hd, gcd_div h0 hd, by rw [nrm, if_pos h]; rfl⟩
  · rw [if_neg h]
    refine (hg n d (mul_lt hn hd)).imp fun r e => ?_
    subst e
    simp only [x_skip, x_seq, x_asg, x_aug, x_ex, x_ite, x_for, x_ret, x_brk, x_cnt, t_var, t_tup, t_tupL, t_nil, t_cons, t_sub, n_var, n_tup, n_nil, n_cons, c_cons', c_lst, c_neg, c_tup, e_nil, e_cons, e_var, e_lit, e_tup, e_lst, e_neg, e_not, e_bin, e_cmp, e_and, e_or, e_ite, e_sub, e_slc, e_call, e_bi, e_isi, e_app, e_pop, e_comp, e_dcomp, i_sat, g_zero, g_succ, z_zero, z_succ, wipe_nil, wipe_cons, p_add, p_sub, p_mul, p_fdiv, p_mod, p_pow, p_addL, p_addT, p_auga, p_augs, q_lt, q_le, q_gt, q_ge, q_isN, q_isnotN, q_in, q_notin, q_in_ints, p_len, p_lenT, p_lenS, p_list, p_listT, p_int, p_intB, p_abs, p_range, p_range2, p_all, p_any, p_sum, p_gcd, p_append, p_items, p_itemsT, p_itemsS, p_subL, p_subT, at0, at1, at2, truth_b, lt_zero, lt_succ, ln_cons, ln_nil, p_slc, p_putL, true_and, and_true, decide_eq_true_eq, m_on, q_eqI, q_neI, Option.some.injEq, exists_eq_left', exists_eq_left, if_true, if_false, eq_self, Bool.false_eq_true, Bool.not_eq_true, List.length_map, reduceCtorEq, not_false_eq_true, sat_ite, s_ok, q_eqS, q_neS, q_eqB, q_neB, i_bb, i_tt, i_ll, p_end, p_endN, ne_eq]
    exact ⟨gcd_div h0 hd, gcd_div h0 hd, by rw [nrm, if_neg h]; rfl⟩
/-- a place of a game -/
inductive Pl where
  | draw (m : Nat) (bs : List ((Int × Int) × Nat))
  | side (m : Nat) (o : Bool) (ts : List Nat)
def sideS (o : Bool) : Str := if o then "ours" else "theirs"
def encB (b : (Int × Int) × Nat) : D := .tuple [encQ b.1, nI b.2]
def encP : Pl → D
  | .draw m bs => .tuple [nI m, .str "draw", .list (bs.map encB)]
  | .side m o ts => .tuple [nI m, .str (sideS o), .list (ts.map nI)]
/-- where its branches lead -/
def Pl.tg : Pl → List Nat
  | .draw _ bs => bs.map (·.2)
  | .side _ _ ts => ts
def Pl.mark : Pl → Nat
  | .draw m _ => m
  | .side m _ _ => m
def Pl.isDraw : Pl → Bool
  | .draw _ _ => true
  | _ => false
/-- weights 1 to 5 make these chances -/
def okBs (bs : List ((Int × Int) × Nat)) : Prop := ∃ ws : List Nat, ws.length = bs.length ∧ (∀ w ∈ ws, 1 ≤ w ∧ w ≤ 5) ∧ bs.map (·.1) = ws.map fun (w : Nat) => nrm (w : Int) (ws.sum : Nat)
structure Pl.Ok (top many : Nat) (p : Pl) : Prop where
  mark : p.mark ≤ top
  ne : 1 ≤ p.tg.length
  le : p.tg.length ≤ 6
  tg : ∀ t ∈ p.tg, t < many
  bs : ∀ m bs, p = .draw m bs → okBs bs
def NumOk (Φ : Calls) (f : Nat) : Prop := ∀ n d : Int, d ≠ 0 → n.natAbs < 2 ^ 1500 → d.natAbs < 2 ^ 1500 → (Φ f [.int n, .int d]).sat fun r => r = encQ (nrm n d)
theorem atN {vs : List Nat} {i : Int} (k : Nat) (h : i = k) (hk : k < vs.length) : atL (vs.map nI) i = some (nI (vs.getD k 0)) := by
  rw [h, atL_nat, List.getElem?_map, List.getElem?_eq_getElem hk, List.getD_eq_getElem?_getD, List.getElem?_eq_getElem hk]; rfl
theorem rng0 (n : Nat) : rng 0 n = (List.range n).map nI := by
  rw [rng_eq]; apply List.map_congr_left; intro k _; show D.int (0 + (k : Int)) = D.int k; rw [Int.zero_add]
theorem at_all {α : Type} {e : α → D} {as : List α} {P : α → Prop} {i : Int} (h0 : 0 ≤ i) (h1 : i < as.length) (h : ∀ a ∈ as, P a) : ∃ a, atL (as.map e) i = some (e a) ∧ P a := by
  obtain ⟨k, rfl⟩ := Int.eq_ofNat_of_zero_le h0
  have hk : k < as.length := by omega
  exact ⟨as[k], by rw [atL_nat, List.getElem?_map, List.getElem?_eq_getElem hk]; rfl, h _ (List.getElem_mem hk)⟩
theorem rOkN {c : Nat} (h : c ≤ 100000) : (rOk (c : Int) && decide ((c : Int) ≤ (line : Nat))) = true := rOk_nat h
theorem getD_lt {vs : List Nat} {k : Nat} (hk : k < vs.length) {P : Nat → Prop} (h : ∀ v ∈ vs, P v) : P (vs.getD k 0) := by
  rw [List.getD_eq_getElem?_getD, List.getElem?_eq_getElem hk]; exact h _ (List.getElem_mem hk)
theorem sum_ints : ∀ ws : List Nat, (ws.map fun w : Nat => (w : Int)).sum = (ws.sum : Nat)
  | [] => rfl
  | w :: r => by rw [List.map_cons, List.sum_cons, List.sum_cons, sum_ints r]; push_cast; rfl
theorem map_nI (ws : List Nat) : ws.map nI = (ws.map fun w : Nat => (w : Int)).map D.int := by rw [List.map_map]; rfl
theorem p_sumN {ws : List Nat} {P : D → Prop} : (biD .sum [.list (ws.map nI)]).sat P = P (nI ws.sum) := by rw [map_nI, p_sum, sum_ints]
theorem sum_le {ws : List Nat} {m : Nat} : (∀ w ∈ ws, w ≤ m) → ws.sum ≤ m * ws.length := by
  intro h
  induction ws with
  | nil => exact Nat.zero_le _
  | cons w r ih =>
    have h1 := h w List.mem_cons_self
    have h2 := ih fun u hu => h u (List.mem_cons_of_mem _ hu)
    rw [List.sum_cons, List.length_cons, Nat.mul_succ]; omega
theorem sum_ge {ws : List Nat} : (∀ w ∈ ws, 1 ≤ w) → ws.length ≤ ws.sum := by
  intro h
  induction ws with
  | nil => exact Nat.zero_le _
  | cons w r ih =>
    have h1 := h w List.mem_cons_self
    have h2 := ih fun u hu => h u (List.mem_cons_of_mem _ hu)
    rw [List.sum_cons, List.length_cons]; omega
theorem sp_place {Φ : Calls} {c0 : Nat} (hc : NumOk Φ c0) {ds : List Nat} {many top : Nat} (hl : ds.length = 15) (hm : 0 < many) (hm2 : many < 1000) (ht : top < 1000) : (runFn Φ ⟨3, 9, aPlace c0⟩ [.list (ds.map nI), nI many, nI top]).sat fun d => ∃ p : Pl, d = encP p ∧ p.Ok top many := by
  rw [run_eq]
  refine ⟨⟨rfl, by decide⟩, ?_⟩
  show (exec Φ (aPlace c0) [some (.list (ds.map nI)), some (nI many), some (nI top), none, none, none, none, none, none]).sat _ _ _ _
  unfold aPlace
  have e0 := atN (vs := ds) (i := 0) 0 rfl (by omega)
  have e1 := atN (vs := ds) (i := 1) 1 rfl (by omega)
  have e2 := atN (vs := ds) (i := 2) 2 rfl (by omega)
  have hs : ∃ v : Nat, atL [D.int 1, D.int 2, D.int 3, D.int 1, D.int 2, D.int 3, D.int 4, D.int 5, D.int 6] ((ds.getD 2 0 : Nat) % 9 : Int) = some (nI v) ∧ 1 ≤ v ∧ v ≤ 6 := at_all (e := nI) (as := [1, 2, 3, 1, 2, 3, 4, 5, 6]) (P := fun v => 1 ≤ v ∧ v ≤ 6) (by omega) (by simp only [List.length_cons, List.length_nil]; omega) (by decide)
  obtain ⟨z, hz, z1, z2⟩ := hs
  have hsd : ∃ o : Bool, atL [D.str "ours", D.str "theirs"] ((ds.getD 0 0 : Nat) % 7 % 2 : Int) = some (.str (sideS o)) ∧ True := at_all (e := fun o => D.str (sideS o)) (as := [true, false]) (P := fun _ => True) (by omega) (by simp only [List.length_cons, List.length_nil]; omega) (fun _ _ => trivial)
  obtain ⟨o, ho, _⟩ := hsd
  simp only [x_skip, x_seq, x_asg, x_aug, x_ex, x_ite, x_for, x_ret, x_brk, x_cnt, t_var, t_tup, t_tupL, t_nil, t_cons, t_sub, n_var, n_tup, n_nil, n_cons, c_cons', c_lst, c_neg, c_tup, e_nil, e_cons, e_var, e_lit, e_tup, e_lst, e_neg, e_not, e_bin, e_cmp, e_and, e_or, e_ite, e_sub, e_slc, e_call, e_bi, e_isi, e_app, e_pop, e_comp, e_dcomp, i_sat, g_zero, g_succ, z_zero, z_succ, wipe_nil, wipe_cons, p_add, p_sub, p_mul, p_fdiv, p_mod, p_pow, p_addL, p_addT, p_auga, p_augs, q_lt, q_le, q_gt, q_ge, q_isN, q_isnotN, q_in, q_notin, q_in_ints, p_len, p_lenT, p_lenS, p_list, p_listT, p_int, p_intB, p_abs, p_range, p_range2, p_all, p_any, p_sum, p_gcd, p_append, p_items, p_itemsT, p_itemsS, p_subL, p_subT, at0, at1, at2, truth_b, lt_zero, lt_succ, ln_cons, ln_nil, p_slc, p_putL, true_and, and_true, decide_eq_true_eq, m_on, q_eqI, q_neI, Option.some.injEq, exists_eq_left', exists_eq_left, if_true, if_false, eq_self, Bool.false_eq_true, Bool.not_eq_true, List.length_map, reduceCtorEq, not_false_eq_true, sat_ite, s_ok, q_eqS, q_neS, q_eqB, q_neB, i_bb, i_tt, i_ll, p_end, p_endN, ne_eq, rng0, Int.toNat_natCast, List.length_range, p_sumN, line, e0, e1, e2, hz]
  refine ⟨by decide, by omega, by decide, rOk_nat (by omega), by omega, ?_⟩
  refine fm_map (as := List.range z) (ea := nI) (eb := nI) (fun k => ds.getD (3 + k) 0 % many) (fun k hk => ?_) ?_
  · have hk : k < z := List.mem_range.mp hk
    have ek := atN (vs := ds) (i := 3 + (k : Int)) (3 + k) (by push_cast; rfl) (by omega)
    simp only [x_skip, x_seq, x_asg, x_aug, x_ex, x_ite, x_for, x_ret, x_brk, x_cnt, t_var, t_tup, t_tupL, t_nil, t_cons, t_sub, n_var, n_tup, n_nil, n_cons, c_cons', c_lst, c_neg, c_tup, e_nil, e_cons, e_var, e_lit, e_tup, e_lst, e_neg, e_not, e_bin, e_cmp, e_and, e_or, e_ite, e_sub, e_slc, e_call, e_bi, e_isi, e_app, e_pop, e_comp, e_dcomp, i_sat, g_zero, g_succ, z_zero, z_succ, wipe_nil, wipe_cons, p_add, p_sub, p_mul, p_fdiv, p_mod, p_pow, p_addL, p_addT, p_auga, p_augs, q_lt, q_le, q_gt, q_ge, q_isN, q_isnotN, q_in, q_notin, q_in_ints, p_len, p_lenT, p_lenS, p_list, p_listT, p_int, p_intB, p_abs, p_range, p_range2, p_all, p_any, p_sum, p_gcd, p_append, p_items, p_itemsT, p_itemsS, p_subL, p_subT, at0, at1, at2, truth_b, lt_zero, lt_succ, ln_cons, ln_nil, p_slc, p_putL, true_and, and_true, decide_eq_true_eq, m_on, q_eqI, q_neI, Option.some.injEq, exists_eq_left', exists_eq_left, if_true, if_false, eq_self, Bool.false_eq_true, Bool.not_eq_true, List.length_map, reduceCtorEq, not_false_eq_true, sat_ite, s_ok, q_eqS, q_neS, q_eqB, q_neB, i_bb, i_tt, i_ll, p_end, p_endN, ne_eq, rng0, Int.toNat_natCast, List.length_range, p_sumN, line, ek]
    exact ⟨by omega, by push_cast; rfl⟩
  generalize hT : (List.range z).map (fun k => ds.getD (3 + k) 0 % many) = ts
  have tl : ts.length = z := by rw [← hT]; simp
  have tm : ∀ t ∈ ts, t < many := fun t h => by
    rw [← hT] at h
    obtain ⟨k, _, rfl⟩ := List.mem_map.mp h
    exact Nat.mod_lt _ hm
  have mk : (ds.getD 1 0 : Int) % ((top : Int) + 1) = ((ds.getD 1 0 % (top + 1) : Nat) : Int) := by push_cast; rfl
  have mk2 : ds.getD 1 0 % (top + 1) ≤ top := Nat.le_of_lt_succ (Nat.mod_lt _ (Nat.succ_pos _))
  split
  · refine ⟨rOk_nat (by omega), by omega, ?_⟩
    refine fm_map (as := List.range z) (ea := nI) (eb := nI) (fun k => 1 + ds.getD (9 + k) 0 % 5) (fun k hk => ?_) ?_
    · have hk : k < z := List.mem_range.mp hk
      have ek := atN (vs := ds) (i := 9 + (k : Int)) (9 + k) (by push_cast; rfl) (by omega)
      simp only [x_skip, x_seq, x_asg, x_aug, x_ex, x_ite, x_for, x_ret, x_brk, x_cnt, t_var, t_tup, t_tupL, t_nil, t_cons, t_sub, n_var, n_tup, n_nil, n_cons, c_cons', c_lst, c_neg, c_tup, e_nil, e_cons, e_var, e_lit, e_tup, e_lst, e_neg, e_not, e_bin, e_cmp, e_and, e_or, e_ite, e_sub, e_slc, e_call, e_bi, e_isi, e_app, e_pop, e_comp, e_dcomp, i_sat, g_zero, g_succ, z_zero, z_succ, wipe_nil, wipe_cons, p_add, p_sub, p_mul, p_fdiv, p_mod, p_pow, p_addL, p_addT, p_auga, p_augs, q_lt, q_le, q_gt, q_ge, q_isN, q_isnotN, q_in, q_notin, q_in_ints, p_len, p_lenT, p_lenS, p_list, p_listT, p_int, p_intB, p_abs, p_range, p_range2, p_all, p_any, p_sum, p_gcd, p_append, p_items, p_itemsT, p_itemsS, p_subL, p_subT, at0, at1, at2, truth_b, lt_zero, lt_succ, ln_cons, ln_nil, p_slc, p_putL, true_and, and_true, decide_eq_true_eq, m_on, q_eqI, q_neI, Option.some.injEq, exists_eq_left', exists_eq_left, if_true, if_false, eq_self, Bool.false_eq_true, Bool.not_eq_true, List.length_map, reduceCtorEq, not_false_eq_true, sat_ite, s_ok, q_eqS, q_neS, q_eqB, q_neB, i_bb, i_tt, i_ll, p_end, p_endN, ne_eq, rng0, Int.toNat_natCast, List.length_range, p_sumN, line, ek]
      exact ⟨by omega, by push_cast; rfl⟩
    generalize hW : (List.range z).map (fun k => 1 + ds.getD (9 + k) 0 % 5) = ws
    have wl : ws.length = z := by rw [← hW]; simp
    have wm : ∀ w ∈ ws, 1 ≤ w ∧ w ≤ 5 := fun w h => by
      rw [← hW] at h
      obtain ⟨k, _, rfl⟩ := List.mem_map.mp h
      omega
    have s1 := sum_ge fun w h => (wm w h).1
    have s2 := sum_le (m := 5) fun w h => (wm w h).2
    have hbig : (1000 : Nat) < 2 ^ 1500 := Nat.lt_of_lt_of_le (show 1000 < 2 ^ 10 by decide) (Nat.pow_le_pow_right (by decide) (by decide))
    refine ⟨rOk_nat (by omega), by omega, ?_⟩
    refine fm_map (as := List.range z) (ea := nI) (eb := encB) (fun k => (nrm (ws.getD k 0 : Nat) (ws.sum : Nat), ts.getD k 0)) (fun k hk => ?_) ?_
    · have hk : k < z := List.mem_range.mp hk
      have ek := atN (vs := ws) (i := (k : Int)) k rfl (by omega)
      have et := atN (vs := ts) (i := (k : Int)) k rfl (by omega)
      have w5 := getD_lt (vs := ws) (k := k) (by omega) (P := fun w => 1 ≤ w ∧ w ≤ 5) wm
      simp only [x_skip, x_seq, x_asg, x_aug, x_ex, x_ite, x_for, x_ret, x_brk, x_cnt, t_var, t_tup, t_tupL, t_nil, t_cons, t_sub, n_var, n_tup, n_nil, n_cons, c_cons', c_lst, c_neg, c_tup, e_nil, e_cons, e_var, e_lit, e_tup, e_lst, e_neg, e_not, e_bin, e_cmp, e_and, e_or, e_ite, e_sub, e_slc, e_call, e_bi, e_isi, e_app, e_pop, e_comp, e_dcomp, i_sat, g_zero, g_succ, z_zero, z_succ, wipe_nil, wipe_cons, p_add, p_sub, p_mul, p_fdiv, p_mod, p_pow, p_addL, p_addT, p_auga, p_augs, q_lt, q_le, q_gt, q_ge, q_isN, q_isnotN, q_in, q_notin, q_in_ints, p_len, p_lenT, p_lenS, p_list, p_listT, p_int, p_intB, p_abs, p_range, p_range2, p_all, p_any, p_sum, p_gcd, p_append, p_items, p_itemsT, p_itemsS, p_subL, p_subT, at0, at1, at2, truth_b, lt_zero, lt_succ, ln_cons, ln_nil, p_slc, p_putL, true_and, and_true, decide_eq_true_eq, m_on, q_eqI, q_neI, Option.some.injEq, exists_eq_left', exists_eq_left, if_true, if_false, eq_self, Bool.false_eq_true, Bool.not_eq_true, List.length_map, reduceCtorEq, not_false_eq_true, sat_ite, s_ok, q_eqS, q_neS, q_eqB, q_neB, i_bb, i_tt, i_ll, p_end, p_endN, ne_eq, rng0, Int.toNat_natCast, List.length_range, p_sumN, line, ek, p_sumN]
      refine (hc _ _ (by omega) (by rw [Int.natAbs_natCast]; omega) (by rw [Int.natAbs_natCast]; omega)).imp fun r e => ?_
      subst e
      simp only [x_skip, x_seq, x_asg, x_aug, x_ex, x_ite, x_for, x_ret, x_brk, x_cnt, t_var, t_tup, t_tupL, t_nil, t_cons, t_sub, n_var, n_tup, n_nil, n_cons, c_cons', c_lst, c_neg, c_tup, e_nil, e_cons, e_var, e_lit, e_tup, e_lst, e_neg, e_not, e_bin, e_cmp, e_and, e_or, e_ite, e_sub, e_slc, e_call, e_bi, e_isi, e_app, e_pop, e_comp, e_dcomp, i_sat, g_zero, g_succ, z_zero, z_succ, wipe_nil, wipe_cons, p_add, p_sub, p_mul, p_fdiv, p_mod, p_pow, p_addL, p_addT, p_auga, p_augs, q_lt, q_le, q_gt, q_ge, q_isN, q_isnotN, q_in, q_notin, q_in_ints, p_len, p_lenT, p_lenS, p_list, p_listT, p_int, p_intB, p_abs, p_range, p_range2, p_all, p_any, p_sum, p_gcd, p_append, p_items, p_itemsT, p_itemsS, p_subL, p_subT, at0, at1, at2, truth_b, lt_zero, lt_succ, ln_cons, ln_nil, p_slc, p_putL, true_and, and_true, decide_eq_true_eq, m_on, q_eqI, q_neI, Option.some.injEq, exists_eq_left', exists_eq_left, if_true, if_false, eq_self, Bool.false_eq_true, Bool.not_eq_true, List.length_map, reduceCtorEq, not_false_eq_true, sat_ite, s_ok, q_eqS, q_neS, q_eqB, q_neB, i_bb, i_tt, i_ll, p_end, p_endN, ne_eq, rng0, Int.toNat_natCast, List.length_range, p_sumN, line, et]
      rfl
    refine ⟨.draw (ds.getD 1 0 % (top + 1)) ((List.range z).map fun k => (nrm (ws.getD k 0 : Nat) (ws.sum : Nat), ts.getD k 0)), ?_, mk2, ?_, ?_, ?_, ?_⟩
    · rw [mk]; rfl
    · show 1 ≤ (List.map _ (List.map _ (List.range z))).length; simp; omega
    · show (List.map _ (List.map _ (List.range z))).length ≤ 6; simp; omega
    · intro t h
      have h : t ∈ ((List.range z).map fun k => (nrm (ws.getD k 0 : Nat) (ws.sum : Nat), ts.getD k 0)).map (·.2) := h
      rw [List.map_map] at h
      obtain ⟨k, hk, rfl⟩ := List.mem_map.mp h
      exact getD_lt (by rw [tl]; exact List.mem_range.mp hk) (P := fun t => t < many) tm
    · intro m bs e
      cases e
      refine ⟨ws, by simp [wl], wm, ?_⟩
      rw [List.map_map]
      apply List.ext_getElem
      · simp [wl]
      · intro i h1 h2
        have hi : i < ws.length := by simpa using h2
        simp only [List.getElem_map, List.getElem_range, Function.comp]
        rw [List.getD_eq_getElem?_getD, List.getElem?_eq_getElem hi]; rfl
  · simp only [ho, x_skip, x_seq, x_asg, x_aug, x_ex, x_ite, x_for, x_ret, x_brk, x_cnt, t_var, t_tup, t_tupL, t_nil, t_cons, t_sub, n_var, n_tup, n_nil, n_cons, c_cons', c_lst, c_neg, c_tup, e_nil, e_cons, e_var, e_lit, e_tup, e_lst, e_neg, e_not, e_bin, e_cmp, e_and, e_or, e_ite, e_sub, e_slc, e_call, e_bi, e_isi, e_app, e_pop, e_comp, e_dcomp, i_sat, g_zero, g_succ, z_zero, z_succ, wipe_nil, wipe_cons, p_add, p_sub, p_mul, p_fdiv, p_mod, p_pow, p_addL, p_addT, p_auga, p_augs, q_lt, q_le, q_gt, q_ge, q_isN, q_isnotN, q_in, q_notin, q_in_ints, p_len, p_lenT, p_lenS, p_list, p_listT, p_int, p_intB, p_abs, p_range, p_range2, p_all, p_any, p_sum, p_gcd, p_append, p_items, p_itemsT, p_itemsS, p_subL, p_subT, at0, at1, at2, truth_b, lt_zero, lt_succ, ln_cons, ln_nil, p_slc, p_putL, true_and, and_true, decide_eq_true_eq, m_on, q_eqI, q_neI, Option.some.injEq, exists_eq_left', exists_eq_left, if_true, if_false, eq_self, Bool.false_eq_true, Bool.not_eq_true, List.length_map, reduceCtorEq, not_false_eq_true, sat_ite, s_ok, q_eqS, q_neS, q_eqB, q_neB, i_bb, i_tt, i_ll, p_end, p_endN, ne_eq, rng0, Int.toNat_natCast, List.length_range, p_sumN, line]
    refine ⟨by decide, .side (ds.getD 1 0 % (top + 1)) o ts, ?_, mk2, ?_, ?_, tm, fun m bs e => by cases e⟩
    · rw [mk]; rfl
    · show 1 ≤ ts.length; omega
    · show ts.length ≤ 6; omega
end Rf
end

section
/-! Pm4: games; targets; lists of places. -/
namespace Rf
open PySem
def PlaceOk (Φ : Calls) (f : Nat) : Prop := ∀ (ds : List Nat) (many top : Nat), ds.length = 15 → 0 < many → many < 1000 → top < 1000 → (Φ f [.list (ds.map nI), nI many, nI top]).sat fun d => ∃ p : Pl, d = encP p ∧ p.Ok top many
theorem cutN {vs : List Nat} {i j : Int} (a b : Nat) (hi : i = a) (hj : j = b) (hb : b ≤ vs.length) : cutL (vs.map nI) (some i) (some j) = ((vs.drop a).take (b - a)).map nI := by
  rw [hi, hj, cut_nat (by rw [List.length_map]; exact hb), List.map_take, List.map_drop]
/-- a game -/
def encG (g : List Pl) : D := .list (g.map encP)
structure GOk (top most : Nat) (g : List Pl) : Prop where
  ne : 1 ≤ g.length
  le : g.length ≤ most
  all : ∀ p ∈ g, p.Ok top g.length
theorem sp_game {Φ : Calls} {c0 : Nat} (hc : PlaceOk Φ c0) {ds : List Nat} {most top : Nat} (hl : 1 + 15 * most ≤ ds.length) (hm : 0 < most) (hm2 : most < 1000) (ht : top < 1000) : (runFn Φ ⟨3, 5, aGame c0⟩ [.list (ds.map nI), nI most, nI top]).sat fun d => ∃ g : List Pl, d = encG g ∧ GOk top most g := by
  rw [run_eq]
  refine ⟨⟨rfl, by decide⟩, ?_⟩
  show (exec Φ (aGame c0) [some (.list (ds.map nI)), some (nI most), some (nI top), none, none]).sat _ _ _ _
  unfold aGame
  have e0 := atN (vs := ds) (i := 0) 0 rfl (by omega)
  have em : (1 : Int) + (ds.getD 0 0 : Int) % (most : Int) = ((1 + ds.getD 0 0 % most : Nat) : Int) := by push_cast; rfl
  have hlt := Nat.mod_lt (ds.getD 0 0) hm
  generalize hz : 1 + ds.getD 0 0 % most = z at em
  simp only [x_skip, x_seq, x_asg, x_aug, x_ex, x_ite, x_for, x_ret, x_brk, x_cnt, t_var, t_tup, t_tupL, t_nil, t_cons, t_sub, n_var, n_tup, n_nil, n_cons, c_cons', c_lst, c_neg, c_tup, e_nil, e_cons, e_var, e_lit, e_tup, e_lst, e_neg, e_not, e_bin, e_cmp, e_and, e_or, e_ite, e_sub, e_slc, e_call, e_bi, e_isi, e_app, e_pop, e_comp, e_dcomp, i_sat, g_zero, g_succ, z_zero, z_succ, wipe_nil, wipe_cons, p_add, p_sub, p_mul, p_fdiv, p_mod, p_pow, p_addL, p_addT, p_auga, p_augs, q_lt, q_le, q_gt, q_ge, q_isN, q_isnotN, q_in, q_notin, q_in_ints, p_len, p_lenT, p_lenS, p_list, p_listT, p_int, p_intB, p_abs, p_range, p_range2, p_all, p_any, p_sum, p_gcd, p_append, p_items, p_itemsT, p_itemsS, p_subL, p_subT, at0, at1, at2, truth_b, lt_zero, lt_succ, ln_cons, ln_nil, p_slc, p_putL, true_and, and_true, decide_eq_true_eq, m_on, q_eqI, q_neI, Option.some.injEq, exists_eq_left', exists_eq_left, if_true, if_false, eq_self, Bool.false_eq_true, Bool.not_eq_true, List.length_map, reduceCtorEq, not_false_eq_true, sat_ite, s_ok, q_eqS, q_neS, q_eqB, q_neB, i_bb, i_tt, i_ll, p_end, p_endN, ne_eq, rng0, Int.toNat_natCast, List.length_range, p_sumN, line, e0, em]
  refine ⟨by omega, rOk_nat (by omega), by omega, fm_some (as := List.range z) (ea := nI) (eb := encP) (fun _ p => p.Ok top z) (fun k hk => ?_) fun g hg hq => ⟨g, rfl, ?_, ?_, ?_⟩⟩
  · have hk : k < z := List.mem_range.mp hk
    have hle : 15 * k + 15 ≤ 15 * most := by omega
    have ec := cutN (vs := ds) (i := 1 + 15 * (k : Int)) (j := 16 + 15 * (k : Int)) (1 + 15 * k) (16 + 15 * k) (by push_cast; rfl) (by push_cast; rfl) (by omega)
    simp only [x_skip, x_seq, x_asg, x_aug, x_ex, x_ite, x_for, x_ret, x_brk, x_cnt, t_var, t_tup, t_tupL, t_nil, t_cons, t_sub, n_var, n_tup, n_nil, n_cons, c_cons', c_lst, c_neg, c_tup, e_nil, e_cons, e_var, e_lit, e_tup, e_lst, e_neg, e_not, e_bin, e_cmp, e_and, e_or, e_ite, e_sub, e_slc, e_call, e_bi, e_isi, e_app, e_pop, e_comp, e_dcomp, i_sat, g_zero, g_succ, z_zero, z_succ, wipe_nil, wipe_cons, p_add, p_sub, p_mul, p_fdiv, p_mod, p_pow, p_addL, p_addT, p_auga, p_augs, q_lt, q_le, q_gt, q_ge, q_isN, q_isnotN, q_in, q_notin, q_in_ints, p_len, p_lenT, p_lenS, p_list, p_listT, p_int, p_intB, p_abs, p_range, p_range2, p_all, p_any, p_sum, p_gcd, p_append, p_items, p_itemsT, p_itemsS, p_subL, p_subT, at0, at1, at2, truth_b, lt_zero, lt_succ, ln_cons, ln_nil, p_slc, p_putL, true_and, and_true, decide_eq_true_eq, m_on, q_eqI, q_neI, Option.some.injEq, exists_eq_left', exists_eq_left, if_true, if_false, eq_self, Bool.false_eq_true, Bool.not_eq_true, List.length_map, reduceCtorEq, not_false_eq_true, sat_ite, s_ok, q_eqS, q_neS, q_eqB, q_neB, i_bb, i_tt, i_ll, p_end, p_endN, ne_eq, rng0, Int.toNat_natCast, List.length_range, p_sumN, line, ec]
    refine ⟨mul_lit' (by decide) (by decide), mul_lit' (by decide) (by decide), (hc _ _ _ ?_ (by omega) (by omega) ht).imp fun d ⟨p, e, hp⟩ => ⟨p, by rw [e], hp⟩⟩
    rw [List.length_take, List.length_drop]; omega
  · rw [hg, List.length_range]; omega
  · rw [hg, List.length_range]; omega
  · intro p hp
    obtain ⟨i, hi, e⟩ := List.getElem_of_mem hp
    obtain ⟨a, _, h⟩ := hq i p (by rw [List.getElem?_eq_getElem hi, e])
    rw [hg, List.length_range]; exact h
/-! the texts of kinds -/
theorem k_dd : (Str.ofString "draw" == Str.ofString "draw") = true := by decide +kernel
theorem k_sd (o : Bool) : (sideS o == Str.ofString "draw") = false := by cases o <;> decide +kernel
theorem atG {g : List Pl} {i : Int} (k : Nat) (h : i = k) (hk : k < g.length) : atL (g.map encP) i = some (encP g[k]) := by
  rw [h, atL_nat, List.getElem?_map, List.getElem?_eq_getElem hk]; rfl
theorem tg_list (p : Pl) : (match p with | .draw _ bs => bs.map (fun b => b.2) | .side _ _ ts => ts) = p.tg := by cases p <;> rfl
/-- targets(game, place) -/
theorem sp_targets {Φ : Calls} {g : List Pl} {k : Nat} (hk : k < g.length) (hz : g[k].tg.length ≤ 1000) : (runFn Φ ⟨2, 7, aTargets⟩ [encG g, nI k]).sat fun d => d = .list (g[k].tg.map nI) := by
  rw [run_eq]
  refine ⟨⟨rfl, by decide⟩, ?_⟩
  show (exec Φ aTargets [some (encG g), some (nI k), none, none, none, none, none]).sat _ _ _ _
  unfold aTargets
  have ea := atG (g := g) (i := (k : Int)) k rfl hk
  cases hp : g[k] with
  | draw m bs =>
    rw [hp] at ea hz
    simp only [encG, x_skip, x_seq, x_asg, x_aug, x_ex, x_ite, x_for, x_ret, x_brk, x_cnt, t_var, t_tup, t_tupL, t_nil, t_cons, t_sub, n_var, n_tup, n_nil, n_cons, c_cons', c_lst, c_neg, c_tup, e_nil, e_cons, e_var, e_lit, e_tup, e_lst, e_neg, e_not, e_bin, e_cmp, e_and, e_or, e_ite, e_sub, e_slc, e_call, e_bi, e_isi, e_app, e_pop, e_comp, e_dcomp, i_sat, g_zero, g_succ, z_zero, z_succ, wipe_nil, wipe_cons, p_add, p_sub, p_mul, p_fdiv, p_mod, p_pow, p_addL, p_addT, p_auga, p_augs, q_lt, q_le, q_gt, q_ge, q_isN, q_isnotN, q_in, q_notin, q_in_ints, p_len, p_lenT, p_lenS, p_list, p_listT, p_int, p_intB, p_abs, p_range, p_range2, p_all, p_any, p_sum, p_gcd, p_append, p_items, p_itemsT, p_itemsS, p_subL, p_subT, at0, at1, at2, truth_b, lt_zero, lt_succ, ln_cons, ln_nil, p_slc, p_putL, true_and, and_true, decide_eq_true_eq, m_on, q_eqI, q_neI, Option.some.injEq, exists_eq_left', exists_eq_left, if_true, if_false, eq_self, Bool.false_eq_true, Bool.not_eq_true, List.length_map, reduceCtorEq, not_false_eq_true, sat_ite, s_ok, q_eqS, q_neS, q_eqB, q_neB, i_bb, i_tt, i_ll, p_end, p_endN, ne_eq, rng0, Int.toNat_natCast, List.length_range, p_sumN, line, ea, encP, k_dd]
    have hz : (bs.map (·.2)).length ≤ 1000 := hz
    rw [List.length_map] at hz
    refine ⟨by omega, fm_map (as := bs) (ea := encB) (eb := nI) (·.2) (fun b hb => ?_) rfl⟩
    simp only [encB, encQ, x_skip, x_seq, x_asg, x_aug, x_ex, x_ite, x_for, x_ret, x_brk, x_cnt, t_var, t_tup, t_tupL, t_nil, t_cons, t_sub, n_var, n_tup, n_nil, n_cons, c_cons', c_lst, c_neg, c_tup, e_nil, e_cons, e_var, e_lit, e_tup, e_lst, e_neg, e_not, e_bin, e_cmp, e_and, e_or, e_ite, e_sub, e_slc, e_call, e_bi, e_isi, e_app, e_pop, e_comp, e_dcomp, i_sat, g_zero, g_succ, z_zero, z_succ, wipe_nil, wipe_cons, p_add, p_sub, p_mul, p_fdiv, p_mod, p_pow, p_addL, p_addT, p_auga, p_augs, q_lt, q_le, q_gt, q_ge, q_isN, q_isnotN, q_in, q_notin, q_in_ints, p_len, p_lenT, p_lenS, p_list, p_listT, p_int, p_intB, p_abs, p_range, p_range2, p_all, p_any, p_sum, p_gcd, p_append, p_items, p_itemsT, p_itemsS, p_subL, p_subT, at0, at1, at2, truth_b, lt_zero, lt_succ, ln_cons, ln_nil, p_slc, p_putL, true_and, and_true, decide_eq_true_eq, m_on, q_eqI, q_neI, Option.some.injEq, exists_eq_left', exists_eq_left, if_true, if_false, eq_self, Bool.false_eq_true, Bool.not_eq_true, List.length_map, reduceCtorEq, not_false_eq_true, sat_ite, s_ok, q_eqS, q_neS, q_eqB, q_neB, i_bb, i_tt, i_ll, p_end, p_endN, ne_eq, rng0, Int.toNat_natCast, List.length_range, p_sumN, line]
  | side m o ts =>
    rw [hp] at ea
    simp only [encG, x_skip, x_seq, x_asg, x_aug, x_ex, x_ite, x_for, x_ret, x_brk, x_cnt, t_var, t_tup, t_tupL, t_nil, t_cons, t_sub, n_var, n_tup, n_nil, n_cons, c_cons', c_lst, c_neg, c_tup, e_nil, e_cons, e_var, e_lit, e_tup, e_lst, e_neg, e_not, e_bin, e_cmp, e_and, e_or, e_ite, e_sub, e_slc, e_call, e_bi, e_isi, e_app, e_pop, e_comp, e_dcomp, i_sat, g_zero, g_succ, z_zero, z_succ, wipe_nil, wipe_cons, p_add, p_sub, p_mul, p_fdiv, p_mod, p_pow, p_addL, p_addT, p_auga, p_augs, q_lt, q_le, q_gt, q_ge, q_isN, q_isnotN, q_in, q_notin, q_in_ints, p_len, p_lenT, p_lenS, p_list, p_listT, p_int, p_intB, p_abs, p_range, p_range2, p_all, p_any, p_sum, p_gcd, p_append, p_items, p_itemsT, p_itemsS, p_subL, p_subT, at0, at1, at2, truth_b, lt_zero, lt_succ, ln_cons, ln_nil, p_slc, p_putL, true_and, and_true, decide_eq_true_eq, m_on, q_eqI, q_neI, Option.some.injEq, exists_eq_left', exists_eq_left, if_true, if_false, eq_self, Bool.false_eq_true, Bool.not_eq_true, List.length_map, reduceCtorEq, not_false_eq_true, sat_ite, s_ok, q_eqS, q_neS, q_eqB, q_neB, i_bb, i_tt, i_ll, p_end, p_endN, ne_eq, rng0, Int.toNat_natCast, List.length_range, p_sumN, line, ea, encP, k_sd]
    rfl
/-- _law_targets(place) -/
theorem sp_ltargets {Φ : Calls} {p : Pl} (hz : p.tg.length ≤ 1000) : (runFn Φ ⟨1, 3, aLTargets⟩ [encP p]).sat fun d => d = .list (p.tg.map nI) := by
  rw [run_eq]
  refine ⟨⟨rfl, by decide⟩, ?_⟩
  show (exec Φ aLTargets [some (encP p), none, none]).sat _ _ _ _
  unfold aLTargets
  cases p with
  | draw m bs =>
    simp only [encP, x_skip, x_seq, x_asg, x_aug, x_ex, x_ite, x_for, x_ret, x_brk, x_cnt, t_var, t_tup, t_tupL, t_nil, t_cons, t_sub, n_var, n_tup, n_nil, n_cons, c_cons', c_lst, c_neg, c_tup, e_nil, e_cons, e_var, e_lit, e_tup, e_lst, e_neg, e_not, e_bin, e_cmp, e_and, e_or, e_ite, e_sub, e_slc, e_call, e_bi, e_isi, e_app, e_pop, e_comp, e_dcomp, i_sat, g_zero, g_succ, z_zero, z_succ, wipe_nil, wipe_cons, p_add, p_sub, p_mul, p_fdiv, p_mod, p_pow, p_addL, p_addT, p_auga, p_augs, q_lt, q_le, q_gt, q_ge, q_isN, q_isnotN, q_in, q_notin, q_in_ints, p_len, p_lenT, p_lenS, p_list, p_listT, p_int, p_intB, p_abs, p_range, p_range2, p_all, p_any, p_sum, p_gcd, p_append, p_items, p_itemsT, p_itemsS, p_subL, p_subT, at0, at1, at2, truth_b, lt_zero, lt_succ, ln_cons, ln_nil, p_slc, p_putL, true_and, and_true, decide_eq_true_eq, m_on, q_eqI, q_neI, Option.some.injEq, exists_eq_left', exists_eq_left, if_true, if_false, eq_self, Bool.false_eq_true, Bool.not_eq_true, List.length_map, reduceCtorEq, not_false_eq_true, sat_ite, s_ok, q_eqS, q_neS, q_eqB, q_neB, i_bb, i_tt, i_ll, p_end, p_endN, ne_eq, rng0, Int.toNat_natCast, List.length_range, p_sumN, line, k_dd]
    have hz : (bs.map (·.2)).length ≤ 1000 := hz
    rw [List.length_map] at hz
    refine ⟨by omega, fm_map (as := bs) (ea := encB) (eb := nI) (·.2) (fun b hb => ?_) rfl⟩
    simp only [encB, encQ, x_skip, x_seq, x_asg, x_aug, x_ex, x_ite, x_for, x_ret, x_brk, x_cnt, t_var, t_tup, t_tupL, t_nil, t_cons, t_sub, n_var, n_tup, n_nil, n_cons, c_cons', c_lst, c_neg, c_tup, e_nil, e_cons, e_var, e_lit, e_tup, e_lst, e_neg, e_not, e_bin, e_cmp, e_and, e_or, e_ite, e_sub, e_slc, e_call, e_bi, e_isi, e_app, e_pop, e_comp, e_dcomp, i_sat, g_zero, g_succ, z_zero, z_succ, wipe_nil, wipe_cons, p_add, p_sub, p_mul, p_fdiv, p_mod, p_pow, p_addL, p_addT, p_auga, p_augs, q_lt, q_le, q_gt, q_ge, q_isN, q_isnotN, q_in, q_notin, q_in_ints, p_len, p_lenT, p_lenS, p_list, p_listT, p_int, p_intB, p_abs, p_range, p_range2, p_all, p_any, p_sum, p_gcd, p_append, p_items, p_itemsT, p_itemsS, p_subL, p_subT, at0, at1, at2, truth_b, lt_zero, lt_succ, ln_cons, ln_nil, p_slc, p_putL, true_and, and_true, decide_eq_true_eq, m_on, q_eqI, q_neI, Option.some.injEq, exists_eq_left', exists_eq_left, if_true, if_false, eq_self, Bool.false_eq_true, Bool.not_eq_true, List.length_map, reduceCtorEq, not_false_eq_true, sat_ite, s_ok, q_eqS, q_neS, q_eqB, q_neB, i_bb, i_tt, i_ll, p_end, p_endN, ne_eq, rng0, Int.toNat_natCast, List.length_range, p_sumN, line]
  | side m o ts =>
    simp only [encP, x_skip, x_seq, x_asg, x_aug, x_ex, x_ite, x_for, x_ret, x_brk, x_cnt, t_var, t_tup, t_tupL, t_nil, t_cons, t_sub, n_var, n_tup, n_nil, n_cons, c_cons', c_lst, c_neg, c_tup, e_nil, e_cons, e_var, e_lit, e_tup, e_lst, e_neg, e_not, e_bin, e_cmp, e_and, e_or, e_ite, e_sub, e_slc, e_call, e_bi, e_isi, e_app, e_pop, e_comp, e_dcomp, i_sat, g_zero, g_succ, z_zero, z_succ, wipe_nil, wipe_cons, p_add, p_sub, p_mul, p_fdiv, p_mod, p_pow, p_addL, p_addT, p_auga, p_augs, q_lt, q_le, q_gt, q_ge, q_isN, q_isnotN, q_in, q_notin, q_in_ints, p_len, p_lenT, p_lenS, p_list, p_listT, p_int, p_intB, p_abs, p_range, p_range2, p_all, p_any, p_sum, p_gcd, p_append, p_items, p_itemsT, p_itemsS, p_subL, p_subT, at0, at1, at2, truth_b, lt_zero, lt_succ, ln_cons, ln_nil, p_slc, p_putL, true_and, and_true, decide_eq_true_eq, m_on, q_eqI, q_neI, Option.some.injEq, exists_eq_left', exists_eq_left, if_true, if_false, eq_self, Bool.false_eq_true, Bool.not_eq_true, List.length_map, reduceCtorEq, not_false_eq_true, sat_ite, s_ok, q_eqS, q_neS, q_eqB, q_neB, i_bb, i_tt, i_ll, p_end, p_endN, ne_eq, rng0, Int.toNat_natCast, List.length_range, p_sumN, line, k_sd]
    rfl
/-- _law_some(game, draws): some of the places -/
theorem sp_some {Φ : Calls} {g : List Pl} {ds : List Nat} (hg : g.length ≤ 1000) (hd : g.length ≤ ds.length) : (runFn Φ ⟨2, 3, aSome⟩ [encG g, .list (ds.map nI)]).sat fun d => ∃ ps : List Nat, d = .list (ps.map nI) ∧ (∀ k ∈ ps, k < g.length) ∧ ps.length ≤ g.length ∧ ps.Pairwise (· < ·) := by
  rw [run_eq]
  refine ⟨⟨rfl, by decide⟩, ?_⟩
  show (exec Φ aSome [some (encG g), some (.list (ds.map nI)), none]).sat _ _ _ _
  unfold aSome
  simp only [encG, x_skip, x_seq, x_asg, x_aug, x_ex, x_ite, x_for, x_ret, x_brk, x_cnt, t_var, t_tup, t_tupL, t_nil, t_cons, t_sub, n_var, n_tup, n_nil, n_cons, c_cons', c_lst, c_neg, c_tup, e_nil, e_cons, e_var, e_lit, e_tup, e_lst, e_neg, e_not, e_bin, e_cmp, e_and, e_or, e_ite, e_sub, e_slc, e_call, e_bi, e_isi, e_app, e_pop, e_comp, e_dcomp, i_sat, g_zero, g_succ, z_zero, z_succ, wipe_nil, wipe_cons, p_add, p_sub, p_mul, p_fdiv, p_mod, p_pow, p_addL, p_addT, p_auga, p_augs, q_lt, q_le, q_gt, q_ge, q_isN, q_isnotN, q_in, q_notin, q_in_ints, p_len, p_lenT, p_lenS, p_list, p_listT, p_int, p_intB, p_abs, p_range, p_range2, p_all, p_any, p_sum, p_gcd, p_append, p_items, p_itemsT, p_itemsS, p_subL, p_subT, at0, at1, at2, truth_b, lt_zero, lt_succ, ln_cons, ln_nil, p_slc, p_putL, true_and, and_true, decide_eq_true_eq, m_on, q_eqI, q_neI, Option.some.injEq, exists_eq_left', exists_eq_left, if_true, if_false, eq_self, Bool.false_eq_true, Bool.not_eq_true, List.length_map, reduceCtorEq, not_false_eq_true, sat_ite, s_ok, q_eqS, q_neS, q_eqB, q_neB, i_bb, i_tt, i_ll, p_end, p_endN, ne_eq, rng0, Int.toNat_natCast, List.length_range, p_sumN, line]
  refine ⟨rOk_nat (by omega), by omega, fm_filter (as := List.range g.length) (ea := nI) (eb := nI) (fun k => if 0 < ds.getD k 0 % 4 then some k else none) (fun k hk => ?_) ⟨_, rfl, ?_, ?_, ?_⟩⟩
  · have hk : k < g.length := List.mem_range.mp hk
    have ek := atN (vs := ds) (i := (k : Int)) k rfl (by omega)
    simp only [x_skip, x_seq, x_asg, x_aug, x_ex, x_ite, x_for, x_ret, x_brk, x_cnt, t_var, t_tup, t_tupL, t_nil, t_cons, t_sub, n_var, n_tup, n_nil, n_cons, c_cons', c_lst, c_neg, c_tup, e_nil, e_cons, e_var, e_lit, e_tup, e_lst, e_neg, e_not, e_bin, e_cmp, e_and, e_or, e_ite, e_sub, e_slc, e_call, e_bi, e_isi, e_app, e_pop, e_comp, e_dcomp, i_sat, g_zero, g_succ, z_zero, z_succ, wipe_nil, wipe_cons, p_add, p_sub, p_mul, p_fdiv, p_mod, p_pow, p_addL, p_addT, p_auga, p_augs, q_lt, q_le, q_gt, q_ge, q_isN, q_isnotN, q_in, q_notin, q_in_ints, p_len, p_lenT, p_lenS, p_list, p_listT, p_int, p_intB, p_abs, p_range, p_range2, p_all, p_any, p_sum, p_gcd, p_append, p_items, p_itemsT, p_itemsS, p_subL, p_subT, at0, at1, at2, truth_b, lt_zero, lt_succ, ln_cons, ln_nil, p_slc, p_putL, true_and, and_true, decide_eq_true_eq, m_on, q_eqI, q_neI, Option.some.injEq, exists_eq_left', exists_eq_left, if_true, if_false, eq_self, Bool.false_eq_true, Bool.not_eq_true, List.length_map, reduceCtorEq, not_false_eq_true, sat_ite, s_ok, q_eqS, q_neS, q_eqB, q_neB, i_bb, i_tt, i_ll, p_end, p_endN, ne_eq, rng0, Int.toNat_natCast, List.length_range, p_sumN, line, ek]
    refine ⟨by decide, ?_⟩
    by_cases h : 0 < ds.getD k 0 % 4
    · rw [if_pos (by omega), if_pos h]; rfl
    · rw [if_neg (by omega), if_neg h]; rfl
  · intro k hk
    obtain ⟨a, h1, h2⟩ := List.mem_filterMap.mp hk
    split at h2
    · cases h2; exact List.mem_range.mp h1
    · cases h2
  · refine Nat.le_trans (List.length_filterMap_le _ _) ?_
    rw [List.length_range]; exact Nat.le_refl _
  · rw [List.pairwise_filterMap]
    refine List.Pairwise.imp ?_ List.pairwise_lt_range
    intro a b hab c hc d hd
    split at hc
    · split at hd
      · cases hc; cases hd; exact hab
      · cases hd
    · cases hc
/-! repr of a game -/
theorem q_in_nat {x : Nat} {ns : List Nat} {B : Bool → Prop} : (inD (nI x) (.list (ns.map nI))).sat B = B (decide (x ∈ ns)) := by
  rw [map_nI, show nI x = D.int (x : Int) from rfl, q_in_ints]
  congr 1
  rw [Bool.eq_iff_iff]
  simp only [decide_eq_true_eq, List.mem_map]
  constructor
  · rintro ⟨a, h, e⟩; have : a = x := by omega
    subst this; exact h
  · exact fun h => ⟨x, h, rfl⟩
theorem eqA_nat : ∀ as bs : List Nat, eqA (as.map nI) (bs.map nI) = decide (as = bs)
  | [], [] => rfl
  | [], _ :: _ => rfl
  | _ :: _, [] => rfl
  | a :: r, b :: s => by
    simp only [List.map_cons, eqA, eqD, eqA_nat r s, List.cons.injEq, Bool.decide_and]
    by_cases h : a = b
    · subst h; simp
    · have h2 : ¬ ((a : Int) = (b : Int)) := by omega
      simp [h, h2]
theorem shp_nat (n : Nat) (ns : List Nat) : shpB (n + 1) (.list (ns.map nI)) = true := by rw [map_nI]; exact shp_ints n _
theorem q_neN {as bs : List Nat} {B : Bool → Prop} : (cmpD .ne (.list (as.map nI)) (.list (bs.map nI))).sat B = B (decide (as ≠ bs)) := by
  rw [q_ne]
  have e : shq (.list (as.map nI)) (.list (bs.map nI)) = true := by
    show (shp _ && shp _) = true
    rw [show shp (.list (as.map nI)) = true from shp_nat 8 as, show shp (.list (bs.map nI)) = true from shp_nat 8 bs]; rfl
  have e2 : (!eqD (.list (as.map nI)) (.list (bs.map nI))) = decide (as ≠ bs) := by simp only [eqD, eqA_nat]; simp
  rw [e2]; simp [e]
theorem q_eqN {as bs : List Nat} {B : Bool → Prop} : (cmpD .eq (.list (as.map nI)) (.list (bs.map nI))).sat B = B (decide (as = bs)) := by
  rw [q_eq]
  have e : shq (.list (as.map nI)) (.list (bs.map nI)) = true := by
    show (shp _ && shp _) = true
    rw [show shp (.list (as.map nI)) = true from shp_nat 8 as, show shp (.list (bs.map nI)) = true from shp_nat 8 bs]; rfl
  simp only [eqD, eqA_nat, e, true_and]
def DrawsOk (Φ : Calls) (f : Nat) : Prop := ∀ (ns : List Int) (c : Nat), ns.length ≤ 63 → c ≤ 100000 → (Φ f [.scr ns, .int c]).sat fun d => ∃ vs : List Nat, d = .list (vs.map nI) ∧ vs.length = c ∧ ∀ v ∈ vs, v < 1000
def GameOk (Φ : Calls) (f : Nat) : Prop := ∀ (ds : List Nat) (most top : Nat), 1 + 15 * most ≤ ds.length → 0 < most → most < 1000 → top < 1000 → (Φ f [.list (ds.map nI), nI most, nI top]).sat fun d => ∃ g : List Pl, d = .list (g.map encP) ∧ GOk top most g
def SomeOk (Φ : Calls) (f : Nat) : Prop := ∀ (g : List Pl) (ds : List Nat), g.length ≤ 1000 → g.length ≤ ds.length → (Φ f [.list (g.map encP), .list (ds.map nI)]).sat fun d => ∃ ps : List Nat, d = .list (ps.map nI) ∧ (∀ k ∈ ps, k < g.length) ∧ ps.length ≤ g.length ∧ ps.Pairwise (· < ·)
end Rf
end

section
/-! templates of the laws' helpers: the numbers of the defs they call are arguments. -/
namespace Rf
open PySem
/-- fits calls targets -/
def aFits (c0 : Nat) : S := (.seq (.asg (.var 3) (.comp [4] (.var 4) (.call c0 (.cons (.var 0) (.cons (.var 1) .nil))) (.lit (.bool true)) (.cmp .isin (.var 4) (.var 2)))) (.seq (.ret (.ite (.cmp .eq (.sub (.sub (.var 0) (.var 1)) (.lit (.int (1)))) (.lit (.str (Str.ofString "draw")))) (.bi .all (.cons (.var 3) .nil)) (.bi .any (.cons (.var 3) .nil)))) .skip))
/-- can_be_kept calls fits -/
def aKept (c0 : Nat) : S := (.seq (.ret (.bi .all (.cons (.comp [2] (.var 2) (.var 1) (.lit (.bool true)) (.call c0 (.cons (.var 0) (.cons (.var 2) (.cons (.var 1) .nil))))) .nil))) .skip)
/-- _law_is_kept calls _law_targets -/
def aLKept (c0 : Nat) : S := (.seq (.for_ (.var 2) (.var 1) (.seq (.asg (.var 3) (.comp [4] (.var 4) (.call c0 (.cons (.sub (.var 0) (.var 2)) .nil)) (.lit (.bool true)) (.bi .int (.cons (.cmp .isin (.var 4) (.var 1)) .nil)))) (.seq (.ite (.or (.cmp .eq (.bi .sum (.cons (.var 3) .nil)) (.lit (.int (0)))) (.and (.cmp .eq (.sub (.sub (.var 0) (.var 2)) (.lit (.int (1)))) (.lit (.str (Str.ofString "draw")))) (.cmp .lt (.bi .sum (.cons (.var 3) .nil)) (.bi .len (.cons (.var 3) .nil))))) (.seq (.ret (.lit (.bool false))) .skip) .skip) .skip))) (.seq (.ret (.lit (.bool true))) .skip))
end Rf
end

section
/-! Pm5: lists that can be kept. -/
namespace Rf
open PySem
def TgOk (Φ : Calls) (f : Nat) : Prop := ∀ (g : List Pl) (k : Nat) (hk : k < g.length), g[k].tg.length ≤ 1000 → (Φ f [encG g, nI k]).sat fun d => d = .list (g[k].tg.map nI)
def LTgOk (Φ : Calls) (f : Nat) : Prop := ∀ p : Pl, p.tg.length ≤ 1000 → (Φ f [encP p]).sat fun d => d = .list (p.tg.map nI)
def fitsB (p : Pl) (ins : List Nat) : Bool := if p.isDraw then (p.tg.map fun t => decide (t ∈ ins)).all id else (p.tg.map fun t => decide (t ∈ ins)).any id
def keptB (g : List Pl) (ps : List Nat) : Bool := (ps.map fun k => fitsB (g.getD k (.side 0 true [])) ps).all id
theorem kind_at {p : Pl} : ∃ s m b, encP p = .tuple [m, .str s, b] ∧ (s == Str.ofString "draw") = p.isDraw := by
  cases p with
  | draw m bs => exact ⟨_, _, _, rfl, k_dd⟩
  | side m o ts => exact ⟨_, _, _, rfl, k_sd o⟩
theorem sp_fits {Φ : Calls} {c0 : Nat} (ht : TgOk Φ c0) {g : List Pl} {k : Nat} {ins : List Nat} (hk : k < g.length) (hz : g[k].tg.length ≤ 1000) : (runFn Φ ⟨3, 5, aFits c0⟩ [encG g, nI k, .list (ins.map nI)]).sat fun d => d = .bool (fitsB g[k] ins) := by
  rw [run_eq]
  refine ⟨⟨rfl, by decide⟩, ?_⟩
  show (exec Φ (aFits c0) [some (encG g), some (nI k), some (.list (ins.map nI)), none, none]).sat _ _ _ _
  unfold aFits
  have ea := atG (g := g) (i := (k : Int)) k rfl hk
  obtain ⟨s, m, b, es, hs⟩ := kind_at (p := g[k])
  simp only [x_skip, x_seq, x_asg, x_aug, x_ex, x_ite, x_for, x_ret, x_brk, x_cnt, t_var, t_tup, t_tupL, t_nil, t_cons, t_sub, n_var, n_tup, n_nil, n_cons, c_cons', c_lst, c_neg, c_tup, e_nil, e_cons, e_var, e_lit, e_tup, e_lst, e_neg, e_not, e_bin, e_cmp, e_and, e_or, e_ite, e_sub, e_slc, e_call, e_bi, e_isi, e_app, e_pop, e_comp, e_dcomp, i_sat, g_zero, g_succ, z_zero, z_succ, wipe_nil, wipe_cons, p_add, p_sub, p_mul, p_fdiv, p_mod, p_pow, p_addL, p_addT, p_auga, p_augs, q_lt, q_le, q_gt, q_ge, q_isN, q_isnotN, q_in, q_notin, q_in_ints, p_len, p_lenT, p_lenS, p_list, p_listT, p_int, p_intB, p_abs, p_range, p_range2, p_all, p_any, p_sum, p_gcd, p_append, p_items, p_itemsT, p_itemsS, p_subL, p_subT, at0, at1, at2, truth_b, lt_zero, lt_succ, ln_cons, ln_nil, p_slc, p_putL, true_and, and_true, decide_eq_true_eq, m_on, q_eqI, q_neI, Option.some.injEq, exists_eq_left', exists_eq_left, if_true, if_false, eq_self, Bool.false_eq_true, Bool.not_eq_true, List.length_map, reduceCtorEq, not_false_eq_true, sat_ite, s_ok, q_eqS, q_neS, q_eqB, q_neB, i_bb, i_tt, i_ll, p_end, p_endN, ne_eq, rng0, Int.toNat_natCast, List.length_range, p_sumN, line]
  refine (ht g k hk hz).imp fun d e => ?_
  subst e
  simp only [x_skip, x_seq, x_asg, x_aug, x_ex, x_ite, x_for, x_ret, x_brk, x_cnt, t_var, t_tup, t_tupL, t_nil, t_cons, t_sub, n_var, n_tup, n_nil, n_cons, c_cons', c_lst, c_neg, c_tup, e_nil, e_cons, e_var, e_lit, e_tup, e_lst, e_neg, e_not, e_bin, e_cmp, e_and, e_or, e_ite, e_sub, e_slc, e_call, e_bi, e_isi, e_app, e_pop, e_comp, e_dcomp, i_sat, g_zero, g_succ, z_zero, z_succ, wipe_nil, wipe_cons, p_add, p_sub, p_mul, p_fdiv, p_mod, p_pow, p_addL, p_addT, p_auga, p_augs, q_lt, q_le, q_gt, q_ge, q_isN, q_isnotN, q_in, q_notin, q_in_ints, p_len, p_lenT, p_lenS, p_list, p_listT, p_int, p_intB, p_abs, p_range, p_range2, p_all, p_any, p_sum, p_gcd, p_append, p_items, p_itemsT, p_itemsS, p_subL, p_subT, at0, at1, at2, truth_b, lt_zero, lt_succ, ln_cons, ln_nil, p_slc, p_putL, true_and, and_true, decide_eq_true_eq, m_on, q_eqI, q_neI, Option.some.injEq, exists_eq_left', exists_eq_left, if_true, if_false, eq_self, Bool.false_eq_true, Bool.not_eq_true, List.length_map, reduceCtorEq, not_false_eq_true, sat_ite, s_ok, q_eqS, q_neS, q_eqB, q_neB, i_bb, i_tt, i_ll, p_end, p_endN, ne_eq, rng0, Int.toNat_natCast, List.length_range, p_sumN, line]
  refine ⟨by omega, fm_map (as := g[k].tg) (ea := nI) (eb := D.bool) (fun t => decide (t ∈ ins)) (fun t _ => ?_) ?_⟩
  · simp only [x_skip, x_seq, x_asg, x_aug, x_ex, x_ite, x_for, x_ret, x_brk, x_cnt, t_var, t_tup, t_tupL, t_nil, t_cons, t_sub, n_var, n_tup, n_nil, n_cons, c_cons', c_lst, c_neg, c_tup, e_nil, e_cons, e_var, e_lit, e_tup, e_lst, e_neg, e_not, e_bin, e_cmp, e_and, e_or, e_ite, e_sub, e_slc, e_call, e_bi, e_isi, e_app, e_pop, e_comp, e_dcomp, i_sat, g_zero, g_succ, z_zero, z_succ, wipe_nil, wipe_cons, p_add, p_sub, p_mul, p_fdiv, p_mod, p_pow, p_addL, p_addT, p_auga, p_augs, q_lt, q_le, q_gt, q_ge, q_isN, q_isnotN, q_in, q_notin, q_in_ints, p_len, p_lenT, p_lenS, p_list, p_listT, p_int, p_intB, p_abs, p_range, p_range2, p_all, p_any, p_sum, p_gcd, p_append, p_items, p_itemsT, p_itemsS, p_subL, p_subT, at0, at1, at2, truth_b, lt_zero, lt_succ, ln_cons, ln_nil, p_slc, p_putL, true_and, and_true, decide_eq_true_eq, m_on, q_eqI, q_neI, Option.some.injEq, exists_eq_left', exists_eq_left, if_true, if_false, eq_self, Bool.false_eq_true, Bool.not_eq_true, List.length_map, reduceCtorEq, not_false_eq_true, sat_ite, s_ok, q_eqS, q_neS, q_eqB, q_neB, i_bb, i_tt, i_ll, p_end, p_endN, ne_eq, rng0, Int.toNat_natCast, List.length_range, p_sumN, line, q_in_nat]
  simp only [encG, x_skip, x_seq, x_asg, x_aug, x_ex, x_ite, x_for, x_ret, x_brk, x_cnt, t_var, t_tup, t_tupL, t_nil, t_cons, t_sub, n_var, n_tup, n_nil, n_cons, c_cons', c_lst, c_neg, c_tup, e_nil, e_cons, e_var, e_lit, e_tup, e_lst, e_neg, e_not, e_bin, e_cmp, e_and, e_or, e_ite, e_sub, e_slc, e_call, e_bi, e_isi, e_app, e_pop, e_comp, e_dcomp, i_sat, g_zero, g_succ, z_zero, z_succ, wipe_nil, wipe_cons, p_add, p_sub, p_mul, p_fdiv, p_mod, p_pow, p_addL, p_addT, p_auga, p_augs, q_lt, q_le, q_gt, q_ge, q_isN, q_isnotN, q_in, q_notin, q_in_ints, p_len, p_lenT, p_lenS, p_list, p_listT, p_int, p_intB, p_abs, p_range, p_range2, p_all, p_any, p_sum, p_gcd, p_append, p_items, p_itemsT, p_itemsS, p_subL, p_subT, at0, at1, at2, truth_b, lt_zero, lt_succ, ln_cons, ln_nil, p_slc, p_putL, true_and, and_true, decide_eq_true_eq, m_on, q_eqI, q_neI, Option.some.injEq, exists_eq_left', exists_eq_left, if_true, if_false, eq_self, Bool.false_eq_true, Bool.not_eq_true, List.length_map, reduceCtorEq, not_false_eq_true, sat_ite, s_ok, q_eqS, q_neS, q_eqB, q_neB, i_bb, i_tt, i_ll, p_end, p_endN, ne_eq, rng0, Int.toNat_natCast, List.length_range, p_sumN, line, ea, es, hs, fitsB]
  split <;> rfl
def FitsOk (Φ : Calls) (f : Nat) : Prop := ∀ (g : List Pl) (k : Nat) (ins : List Nat) (hk : k < g.length), g[k].tg.length ≤ 1000 → (Φ f [encG g, nI k, .list (ins.map nI)]).sat fun d => d = .bool (fitsB g[k] ins)
theorem getD_at {g : List Pl} {k : Nat} (hk : k < g.length) : g.getD k (.side 0 true []) = g[k] := by
  rw [List.getD_eq_getElem?_getD, List.getElem?_eq_getElem hk]; rfl
theorem sp_kept {Φ : Calls} {c0 : Nat} (hf : FitsOk Φ c0) {g : List Pl} {ps : List Nat} (hz : ∀ p ∈ g, p.tg.length ≤ 1000) (hp : ∀ k ∈ ps, k < g.length) (hl : ps.length ≤ 1000) : (runFn Φ ⟨2, 3, aKept c0⟩ [encG g, .list (ps.map nI)]).sat fun d => d = .bool (keptB g ps) := by
  rw [run_eq]
  refine ⟨⟨rfl, by decide⟩, ?_⟩
  show (exec Φ (aKept c0) [some (encG g), some (.list (ps.map nI)), none]).sat _ _ _ _
  unfold aKept
  simp only [x_skip, x_seq, x_asg, x_aug, x_ex, x_ite, x_for, x_ret, x_brk, x_cnt, t_var, t_tup, t_tupL, t_nil, t_cons, t_sub, n_var, n_tup, n_nil, n_cons, c_cons', c_lst, c_neg, c_tup, e_nil, e_cons, e_var, e_lit, e_tup, e_lst, e_neg, e_not, e_bin, e_cmp, e_and, e_or, e_ite, e_sub, e_slc, e_call, e_bi, e_isi, e_app, e_pop, e_comp, e_dcomp, i_sat, g_zero, g_succ, z_zero, z_succ, wipe_nil, wipe_cons, p_add, p_sub, p_mul, p_fdiv, p_mod, p_pow, p_addL, p_addT, p_auga, p_augs, q_lt, q_le, q_gt, q_ge, q_isN, q_isnotN, q_in, q_notin, q_in_ints, p_len, p_lenT, p_lenS, p_list, p_listT, p_int, p_intB, p_abs, p_range, p_range2, p_all, p_any, p_sum, p_gcd, p_append, p_items, p_itemsT, p_itemsS, p_subL, p_subT, at0, at1, at2, truth_b, lt_zero, lt_succ, ln_cons, ln_nil, p_slc, p_putL, true_and, and_true, decide_eq_true_eq, m_on, q_eqI, q_neI, Option.some.injEq, exists_eq_left', exists_eq_left, if_true, if_false, eq_self, Bool.false_eq_true, Bool.not_eq_true, List.length_map, reduceCtorEq, not_false_eq_true, sat_ite, s_ok, q_eqS, q_neS, q_eqB, q_neB, i_bb, i_tt, i_ll, p_end, p_endN, ne_eq, rng0, Int.toNat_natCast, List.length_range, p_sumN, line]
  refine ⟨by omega, fm_map (as := ps) (ea := nI) (eb := D.bool) (fun k => fitsB (g.getD k (.side 0 true [])) ps) (fun k h => ?_) ?_⟩
  · simp only [x_skip, x_seq, x_asg, x_aug, x_ex, x_ite, x_for, x_ret, x_brk, x_cnt, t_var, t_tup, t_tupL, t_nil, t_cons, t_sub, n_var, n_tup, n_nil, n_cons, c_cons', c_lst, c_neg, c_tup, e_nil, e_cons, e_var, e_lit, e_tup, e_lst, e_neg, e_not, e_bin, e_cmp, e_and, e_or, e_ite, e_sub, e_slc, e_call, e_bi, e_isi, e_app, e_pop, e_comp, e_dcomp, i_sat, g_zero, g_succ, z_zero, z_succ, wipe_nil, wipe_cons, p_add, p_sub, p_mul, p_fdiv, p_mod, p_pow, p_addL, p_addT, p_auga, p_augs, q_lt, q_le, q_gt, q_ge, q_isN, q_isnotN, q_in, q_notin, q_in_ints, p_len, p_lenT, p_lenS, p_list, p_listT, p_int, p_intB, p_abs, p_range, p_range2, p_all, p_any, p_sum, p_gcd, p_append, p_items, p_itemsT, p_itemsS, p_subL, p_subT, at0, at1, at2, truth_b, lt_zero, lt_succ, ln_cons, ln_nil, p_slc, p_putL, true_and, and_true, decide_eq_true_eq, m_on, q_eqI, q_neI, Option.some.injEq, exists_eq_left', exists_eq_left, if_true, if_false, eq_self, Bool.false_eq_true, Bool.not_eq_true, List.length_map, reduceCtorEq, not_false_eq_true, sat_ite, s_ok, q_eqS, q_neS, q_eqB, q_neB, i_bb, i_tt, i_ll, p_end, p_endN, ne_eq, rng0, Int.toNat_natCast, List.length_range, p_sumN, line]
    refine (hf g k ps (hp k h) (hz _ (List.getElem_mem _))).imp fun d e => ?_
    subst e
    rw [getD_at (hp k h)]
  simp only [x_skip, x_seq, x_asg, x_aug, x_ex, x_ite, x_for, x_ret, x_brk, x_cnt, t_var, t_tup, t_tupL, t_nil, t_cons, t_sub, n_var, n_tup, n_nil, n_cons, c_cons', c_lst, c_neg, c_tup, e_nil, e_cons, e_var, e_lit, e_tup, e_lst, e_neg, e_not, e_bin, e_cmp, e_and, e_or, e_ite, e_sub, e_slc, e_call, e_bi, e_isi, e_app, e_pop, e_comp, e_dcomp, i_sat, g_zero, g_succ, z_zero, z_succ, wipe_nil, wipe_cons, p_add, p_sub, p_mul, p_fdiv, p_mod, p_pow, p_addL, p_addT, p_auga, p_augs, q_lt, q_le, q_gt, q_ge, q_isN, q_isnotN, q_in, q_notin, q_in_ints, p_len, p_lenT, p_lenS, p_list, p_listT, p_int, p_intB, p_abs, p_range, p_range2, p_all, p_any, p_sum, p_gcd, p_append, p_items, p_itemsT, p_itemsS, p_subL, p_subT, at0, at1, at2, truth_b, lt_zero, lt_succ, ln_cons, ln_nil, p_slc, p_putL, true_and, and_true, decide_eq_true_eq, m_on, q_eqI, q_neI, Option.some.injEq, exists_eq_left', exists_eq_left, if_true, if_false, eq_self, Bool.false_eq_true, Bool.not_eq_true, List.length_map, reduceCtorEq, not_false_eq_true, sat_ite, s_ok, q_eqS, q_neS, q_eqB, q_neB, i_bb, i_tt, i_ll, p_end, p_endN, ne_eq, rng0, Int.toNat_natCast, List.length_range, p_sumN, line]
  rfl
theorem cnt_zero : ∀ bs : List Bool, (bs.map fun b => if b = true then (1 : Int) else 0).sum = 0 ↔ bs.any id = false
  | [] => by simp
  | b :: r => by
    have ih := cnt_zero r
    have nn : 0 ≤ (r.map fun b => if b = true then (1 : Int) else 0).sum := by
      clear ih
      induction r with
      | nil => simp
      | cons c s ih => rw [List.map_cons, List.sum_cons]; split <;> omega
    rw [List.map_cons, List.sum_cons, List.any_cons]
    cases b with
    | true => simp; omega
    | false => simpa using ih
theorem cnt_len : ∀ bs : List Bool, (bs.map fun b => if b = true then (1 : Int) else 0).sum < (bs.length : Nat) ↔ bs.all id = false
  | [] => by simp
  | b :: r => by
    have ih := cnt_len r
    have le : (r.map fun b => if b = true then (1 : Int) else 0).sum ≤ (r.length : Nat) := by
      clear ih
      induction r with
      | nil => simp
      | cons c s ih => rw [List.map_cons, List.sum_cons, List.length_cons]; split <;> push_cast <;> omega
    rw [List.map_cons, List.sum_cons, List.all_cons, List.length_cons]
    cases b with
    | true => simp only [id, Bool.true_and, if_true]; rw [← ih]; push_cast; omega
    | false => simp only [id, Bool.false_and, Bool.false_eq_true, if_false]; push_cast; simp; omega
theorem sp_lkept {Φ : Calls} {c0 : Nat} (ht : LTgOk Φ c0) {g : List Pl} {ps : List Nat} (hz : ∀ p ∈ g, 1 ≤ p.tg.length ∧ p.tg.length ≤ 1000) (hp : ∀ k ∈ ps, k < g.length) : (runFn Φ ⟨2, 5, aLKept c0⟩ [encG g, .list (ps.map nI)]).sat fun d => d = .bool (keptB g ps) := by
  rw [run_eq]
  refine ⟨⟨rfl, by decide⟩, ?_⟩
  show (exec Φ (aLKept c0) [some (encG g), some (.list (ps.map nI)), none, none, none]).sat _ _ _ _
  unfold aLKept
  simp only [x_skip, x_seq, x_asg, x_aug, x_ex, x_ite, x_for, x_ret, x_brk, x_cnt, t_var, t_tup, t_tupL, t_nil, t_cons, t_sub, n_var, n_tup, n_nil, n_cons, c_cons', c_lst, c_neg, c_tup, e_nil, e_cons, e_var, e_lit, e_tup, e_lst, e_neg, e_not, e_bin, e_cmp, e_and, e_or, e_ite, e_sub, e_slc, e_call, e_bi, e_isi, e_app, e_pop, e_comp, e_dcomp, i_sat, g_zero, g_succ, z_zero, z_succ, wipe_nil, wipe_cons, p_add, p_sub, p_mul, p_fdiv, p_mod, p_pow, p_addL, p_addT, p_auga, p_augs, q_lt, q_le, q_gt, q_ge, q_isN, q_isnotN, q_in, q_notin, q_in_ints, p_len, p_lenT, p_lenS, p_list, p_listT, p_int, p_intB, p_abs, p_range, p_range2, p_all, p_any, p_sum, p_gcd, p_append, p_items, p_itemsT, p_itemsS, p_subL, p_subT, at0, at1, at2, truth_b, lt_zero, lt_succ, ln_cons, ln_nil, p_slc, p_putL, true_and, and_true, decide_eq_true_eq, m_on, q_eqI, q_neI, Option.some.injEq, exists_eq_left', exists_eq_left, if_true, if_false, eq_self, Bool.false_eq_true, Bool.not_eq_true, List.length_map, reduceCtorEq, not_false_eq_true, sat_ite, s_ok, q_eqS, q_neS, q_eqB, q_neB, i_bb, i_tt, i_ll, p_end, p_endN, ne_eq, rng0, Int.toNat_natCast, List.length_range, p_sumN, line]
  refine loop_map (fun i ρ => (∃ x2 x3 x4 : Option D, ρ = [some (encG g), some (.list (ps.map nI)), x2, x3, x4]) ∧ ∀ (j : Nat) (k : Nat), j < i → ps[j]? = some k → fitsB (g.getD k (.side 0 true [])) ps = true) (fun _ => keptB g ps = true) ?_ ?_ ?_ ?_
  · exact ⟨⟨_, _, _, rfl⟩, fun j k h => absurd h (Nat.not_lt_zero _)⟩
  · rintro i k ρ hi ⟨⟨x2, x3, x4, rfl⟩, hd⟩
    have hm : k ∈ ps := List.mem_of_getElem? hi
    have hk := hp k hm
    have ea := atG (g := g) (i := (k : Int)) k rfl hk
    obtain ⟨s, m, b, es, hs⟩ := kind_at (p := g[k])
    have hz1 := hz g[k] (List.getElem_mem hk)
    simp only [encG, x_skip, x_seq, x_asg, x_aug, x_ex, x_ite, x_for, x_ret, x_brk, x_cnt, t_var, t_tup, t_tupL, t_nil, t_cons, t_sub, n_var, n_tup, n_nil, n_cons, c_cons', c_lst, c_neg, c_tup, e_nil, e_cons, e_var, e_lit, e_tup, e_lst, e_neg, e_not, e_bin, e_cmp, e_and, e_or, e_ite, e_sub, e_slc, e_call, e_bi, e_isi, e_app, e_pop, e_comp, e_dcomp, i_sat, g_zero, g_succ, z_zero, z_succ, wipe_nil, wipe_cons, p_add, p_sub, p_mul, p_fdiv, p_mod, p_pow, p_addL, p_addT, p_auga, p_augs, q_lt, q_le, q_gt, q_ge, q_isN, q_isnotN, q_in, q_notin, q_in_ints, p_len, p_lenT, p_lenS, p_list, p_listT, p_int, p_intB, p_abs, p_range, p_range2, p_all, p_any, p_sum, p_gcd, p_append, p_items, p_itemsT, p_itemsS, p_subL, p_subT, at0, at1, at2, truth_b, lt_zero, lt_succ, ln_cons, ln_nil, p_slc, p_putL, true_and, and_true, decide_eq_true_eq, m_on, q_eqI, q_neI, Option.some.injEq, exists_eq_left', exists_eq_left, if_true, if_false, eq_self, Bool.false_eq_true, Bool.not_eq_true, List.length_map, reduceCtorEq, not_false_eq_true, sat_ite, s_ok, q_eqS, q_neS, q_eqB, q_neB, i_bb, i_tt, i_ll, p_end, p_endN, ne_eq, rng0, Int.toNat_natCast, List.length_range, p_sumN, line, ea]
    refine (ht g[k] hz1.2).imp fun d e => ?_
    subst e
    simp only [x_skip, x_seq, x_asg, x_aug, x_ex, x_ite, x_for, x_ret, x_brk, x_cnt, t_var, t_tup, t_tupL, t_nil, t_cons, t_sub, n_var, n_tup, n_nil, n_cons, c_cons', c_lst, c_neg, c_tup, e_nil, e_cons, e_var, e_lit, e_tup, e_lst, e_neg, e_not, e_bin, e_cmp, e_and, e_or, e_ite, e_sub, e_slc, e_call, e_bi, e_isi, e_app, e_pop, e_comp, e_dcomp, i_sat, g_zero, g_succ, z_zero, z_succ, wipe_nil, wipe_cons, p_add, p_sub, p_mul, p_fdiv, p_mod, p_pow, p_addL, p_addT, p_auga, p_augs, q_lt, q_le, q_gt, q_ge, q_isN, q_isnotN, q_in, q_notin, q_in_ints, p_len, p_lenT, p_lenS, p_list, p_listT, p_int, p_intB, p_abs, p_range, p_range2, p_all, p_any, p_sum, p_gcd, p_append, p_items, p_itemsT, p_itemsS, p_subL, p_subT, at0, at1, at2, truth_b, lt_zero, lt_succ, ln_cons, ln_nil, p_slc, p_putL, true_and, and_true, decide_eq_true_eq, m_on, q_eqI, q_neI, Option.some.injEq, exists_eq_left', exists_eq_left, if_true, if_false, eq_self, Bool.false_eq_true, Bool.not_eq_true, List.length_map, reduceCtorEq, not_false_eq_true, sat_ite, s_ok, q_eqS, q_neS, q_eqB, q_neB, i_bb, i_tt, i_ll, p_end, p_endN, ne_eq, rng0, Int.toNat_natCast, List.length_range, p_sumN, line]
    refine ⟨by omega, fm_map (as := g[k].tg) (ea := nI) (eb := D.int) (fun t => if decide (t ∈ ps) = true then 1 else 0) (fun t _ => ?_) ?_⟩
    · simp only [x_skip, x_seq, x_asg, x_aug, x_ex, x_ite, x_for, x_ret, x_brk, x_cnt, t_var, t_tup, t_tupL, t_nil, t_cons, t_sub, n_var, n_tup, n_nil, n_cons, c_cons', c_lst, c_neg, c_tup, e_nil, e_cons, e_var, e_lit, e_tup, e_lst, e_neg, e_not, e_bin, e_cmp, e_and, e_or, e_ite, e_sub, e_slc, e_call, e_bi, e_isi, e_app, e_pop, e_comp, e_dcomp, i_sat, g_zero, g_succ, z_zero, z_succ, wipe_nil, wipe_cons, p_add, p_sub, p_mul, p_fdiv, p_mod, p_pow, p_addL, p_addT, p_auga, p_augs, q_lt, q_le, q_gt, q_ge, q_isN, q_isnotN, q_in, q_notin, q_in_ints, p_len, p_lenT, p_lenS, p_list, p_listT, p_int, p_intB, p_abs, p_range, p_range2, p_all, p_any, p_sum, p_gcd, p_append, p_items, p_itemsT, p_itemsS, p_subL, p_subT, at0, at1, at2, truth_b, lt_zero, lt_succ, ln_cons, ln_nil, p_slc, p_putL, true_and, and_true, decide_eq_true_eq, m_on, q_eqI, q_neI, Option.some.injEq, exists_eq_left', exists_eq_left, if_true, if_false, eq_self, Bool.false_eq_true, Bool.not_eq_true, List.length_map, reduceCtorEq, not_false_eq_true, sat_ite, s_ok, q_eqS, q_neS, q_eqB, q_neB, i_bb, i_tt, i_ll, p_end, p_endN, ne_eq, rng0, Int.toNat_natCast, List.length_range, p_sumN, line, q_in_nat]
    have em : (g[k].tg.map fun t => if t ∈ ps then (1 : Int) else 0) = ((g[k].tg.map fun t => decide (t ∈ ps)).map fun b => if b = true then (1 : Int) else 0) := by rw [List.map_map]; apply List.map_congr_left; intro t _; by_cases h : t ∈ ps <;> simp [h]
    have el : (g[k].tg.length : Int) = ((g[k].tg.map fun t => decide (t ∈ ps)).length : Nat) := by rw [List.length_map]
    have c0 := cnt_zero (g[k].tg.map fun t => decide (t ∈ ps))
    have c1 := cnt_len (g[k].tg.map fun t => decide (t ∈ ps))
    rw [← em] at c0 c1
    rw [← el] at c1
    simp only [x_skip, x_seq, x_asg, x_aug, x_ex, x_ite, x_for, x_ret, x_brk, x_cnt, t_var, t_tup, t_tupL, t_nil, t_cons, t_sub, n_var, n_tup, n_nil, n_cons, c_cons', c_lst, c_neg, c_tup, e_nil, e_cons, e_var, e_lit, e_tup, e_lst, e_neg, e_not, e_bin, e_cmp, e_and, e_or, e_ite, e_sub, e_slc, e_call, e_bi, e_isi, e_app, e_pop, e_comp, e_dcomp, i_sat, g_zero, g_succ, z_zero, z_succ, wipe_nil, wipe_cons, p_add, p_sub, p_mul, p_fdiv, p_mod, p_pow, p_addL, p_addT, p_auga, p_augs, q_lt, q_le, q_gt, q_ge, q_isN, q_isnotN, q_in, q_notin, q_in_ints, p_len, p_lenT, p_lenS, p_list, p_listT, p_int, p_intB, p_abs, p_range, p_range2, p_all, p_any, p_sum, p_gcd, p_append, p_items, p_itemsT, p_itemsS, p_subL, p_subT, at0, at1, at2, truth_b, lt_zero, lt_succ, ln_cons, ln_nil, p_slc, p_putL, true_and, and_true, decide_eq_true_eq, m_on, q_eqI, q_neI, Option.some.injEq, exists_eq_left', exists_eq_left, if_true, if_false, eq_self, Bool.false_eq_true, Bool.not_eq_true, List.length_map, reduceCtorEq, not_false_eq_true, sat_ite, s_ok, q_eqS, q_neS, q_eqB, q_neB, i_bb, i_tt, i_ll, p_end, p_endN, ne_eq, rng0, Int.toNat_natCast, List.length_range, p_sumN, line, ea, es, hs, c0, c1]
    have fb : fitsB (g.getD k (.side 0 true [])) ps = fitsB g[k] ps := by rw [getD_at hk]
    have no : fitsB g[k] ps = false → keptB g ps = false := fun h => by
      unfold keptB
      rw [List.all_eq_false]
      exact ⟨fitsB (g.getD k (.side 0 true [])) ps, List.mem_map.mpr ⟨k, hm, rfl⟩, by rw [fb, h]; simp⟩
    have go : fitsB g[k] ps = true → ∀ (j : Nat) (k' : Nat), j < i + 1 → ps[j]? = some k' → fitsB (g.getD k' (.side 0 true [])) ps = true := fun h j k' hj e => by
      rcases Nat.lt_succ_iff_lt_or_eq.mp hj with h1 | rfl
      · exact hd j k' h1 e
      · rw [hi] at e; cases e; rw [fb]; exact h
    have al : (g[k].tg.map fun t => decide (t ∈ ps)).any id = false → (g[k].tg.map fun t => decide (t ∈ ps)).all id = false := fun h => by
      cases e : g[k].tg with
      | nil => rw [e] at hz1; exact absurd hz1.1 (by simp)
      | cons t r => rw [e] at h; simp at h; simp; intro h2; exact absurd h2 h.1
    by_cases h1 : (g[k].tg.map fun t => decide (t ∈ ps)).any id = false
    · rw [if_pos h1, if_pos h1]
      rw [no (by unfold fitsB; split; exact al h1; exact h1)]
    · rw [if_neg h1]
      by_cases h2 : g[k].isDraw = true
      · rw [if_pos h2]
        by_cases h3 : (g[k].tg.map fun t => decide (t ∈ ps)).all id = false
        · rw [if_pos h3, no (by unfold fitsB; rw [if_pos h2]; exact h3)]
        · rw [if_neg h3]
          exact ⟨⟨_, _, _, rfl⟩, go (by unfold fitsB; rw [if_pos h2]; simpa using h3)⟩
      · rw [if_neg h2, if_neg h2]
        exact ⟨⟨_, _, _, rfl⟩, go (by unfold fitsB; rw [if_neg h2]; simpa using h1)⟩
  · rintro ρ ⟨_, h⟩
    unfold keptB
    rw [List.all_eq_true]
    intro b hb
    obtain ⟨k, hk, rfl⟩ := List.mem_map.mp hb
    obtain ⟨j, hj, e⟩ := List.getElem_of_mem hk
    exact h j k hj (by rw [List.getElem?_eq_getElem hj, e])
  · intro ρ h
    rw [h]
end Rf
end

section
/-! Pm6: repr of what is small. -/
namespace Rf
open PySem
/-- data with short numbers; depth n at most -/
def smB : Nat → D → Bool
  | _, .none => true
  | _, .bool _ => true
  | _, .int i => decide (i.natAbs < 10 ^ 12)
  | _, .str x => PyData.strOk x
  | n + 1, .list ds => ds.all (smB n)
  | n + 1, .tuple ds => ds.all (smB n)
  | _, _ => false
theorem int_short {i : Int} (h : i.natAbs < 10 ^ 12) : PyData.showable (.int i) = true ∧ PyData.intsShort 13 (.int i) = true := by
  constructor
  · have : i.natAbs < 2 ^ 40 := Nat.lt_of_lt_of_le h (by decide)
    have := log2_lt this (by decide)
    simp only [PyData.showable, decide_eq_true_eq]; omega
  · have := PyData.intsShortAll_ints [i] (fun n hn => by rw [List.mem_singleton] at hn; subst hn; exact h)
    simpa [PyData.intsShortAll] using this
theorem small_ok : ∀ (n : Nat) (d : D), smB n d = true → shpB n d = true ∧ PyData.showable (cast d) = true ∧ PyData.canLay0 (cast d) = true ∧ PyData.intsShort 13 (cast d) = true ∧ PyData.depth (cast d) ≤ n + 1 := by
  intro n
  induction n with
  | zero =>
    intro d h
    cases d <;> simp [smB] at h
    · exact ⟨rfl, rfl, rfl, rfl, by simp [cast, PyData.depth]⟩
    · exact ⟨rfl, rfl, rfl, rfl, by simp [cast, PyData.depth]⟩
    · rename_i i
      have := int_short (i := i) (by simpa using h)
      exact ⟨rfl, this.1, rfl, this.2, by simp [cast, PyData.depth]⟩
    · exact ⟨by simpa [shpB] using h, rfl, by simpa [cast, PyData.canLay0] using h, rfl, by simp [cast, PyData.depth]⟩
  | succ n ih =>
    have all : ∀ ds : List D, ds.all (smB n) = true → ds.all (shpB n) = true ∧ PyData.showableAll (cast.castA ds) = true ∧ PyData.canLayAll0 (cast.castA ds) = true ∧ PyData.intsShortAll 13 (cast.castA ds) = true ∧ PyData.depthAll (cast.castA ds) ≤ n + 1 := by
      intro ds
      induction ds with
      | nil => intro _; exact ⟨rfl, rfl, rfl, rfl, Nat.zero_le _⟩
      | cons d r ihr =>
        intro h
        simp only [List.all_cons, Bool.and_eq_true] at h
        obtain ⟨a1, a2, a3, a4, a5⟩ := ih d h.1
        obtain ⟨b1, b2, b3, b4, b5⟩ := ihr h.2
        exact ⟨by simp [a1]; simpa using b1, by simp [cast.castA, PyData.showableAll, a2, b2], by simp [cast.castA, PyData.canLayAll0, a3, b3], by simp [cast.castA, PyData.intsShortAll, a4, b4], by simp only [cast.castA, PyData.depthAll]; omega⟩
    intro d h
    cases d with
    | none => exact ⟨rfl, rfl, rfl, rfl, by simp [cast, PyData.depth]⟩
    | bool b => exact ⟨rfl, rfl, rfl, rfl, by simp [cast, PyData.depth]⟩
    | int i =>
      have := int_short (i := i) (by simpa [smB] using h)
      exact ⟨rfl, this.1, rfl, this.2, by simp [cast, PyData.depth]⟩
    | str x => exact ⟨by simpa [shpB, smB] using h, rfl, by simpa [cast, PyData.canLay0, smB] using h, rfl, by simp [cast, PyData.depth]⟩
    | list ds =>
      obtain ⟨a1, a2, a3, a4, a5⟩ := all ds (by simpa only [smB] using h)
      exact ⟨by simpa only [shpB] using a1, by simpa only [cast, PyData.showable] using a2, by simpa only [cast, PyData.canLay0] using a3, by simpa only [cast, PyData.intsShort] using a4, by simp only [cast, PyData.depth]; omega⟩
    | tuple ds =>
      obtain ⟨a1, a2, a3, a4, a5⟩ := all ds (by simpa only [smB] using h)
      exact ⟨by simpa only [shpB] using a1, by simpa only [cast, PyData.showable] using a2, by simpa only [cast, PyData.canLay0] using a3, by simpa only [cast, PyData.intsShort] using a4, by simp only [cast, PyData.depth]; omega⟩
    | dict _ => simp [smB] at h
    | scr _ => simp [smB] at h
abbrev wD (d : D) : Nat := PyData.weight (cast d)
theorem repr_small {d : D} (h : smB 9 d = true) (hw : wD d ≤ 2 ^ 20) : reprOk d = true := by
  obtain ⟨a1, a2, a3, a4, a5⟩ := small_ok 9 d h
  have hl : PyData.layable0 (cast d) = true := by
    simp only [PyData.layable0, Bool.and_eq_true, decide_eq_true_eq]
    exact ⟨⟨a3, by omega⟩, hw⟩
  have hz := PyProof.Rows.shown_le13 hl a4
  simp only [reprOk, Bool.and_eq_true, decide_eq_true_eq]
  exact ⟨⟨a1, a2⟩, Nat.le_trans hz (by decide)⟩
theorem w_all {α : Type} {e : α → D} {B : Nat} : ∀ {as : List α}, (∀ a ∈ as, wD (e a) ≤ B) → PyData.weightAll (cast.castA (as.map e)) ≤ as.length * (B + 1)
  | [], _ => Nat.zero_le _
  | a :: r, h => by
    have h1 := h a List.mem_cons_self
    have h2 := w_all fun b hb => h b (List.mem_cons_of_mem _ hb)
    simp only [List.map_cons, cast.castA, PyData.weightAll, List.length_cons, Nat.succ_mul]
    have h1 : PyData.weight (cast (e a)) ≤ B := h1
    omega
theorem w_list {ds : List D} : wD (.list ds) = PyData.weightAll (cast.castA ds) := by simp only [wD, cast, PyData.weight]
theorem w_tup {ds : List D} : wD (.tuple ds) = PyData.weightAll (cast.castA ds) := by simp only [wD, cast, PyData.weight]
theorem w_cons {d : D} {ds : List D} : PyData.weightAll (cast.castA (d :: ds)) = wD d + 1 + PyData.weightAll (cast.castA ds) := by simp only [cast.castA, PyData.weightAll]
theorem w_nil : PyData.weightAll (cast.castA []) = 0 := rfl
theorem w_int {i : Int} {k : Nat} (h : i.natAbs < 2 ^ k) (hk : 0 < k) : wD (.int i) ≤ k := by
  have := log2_lt h hk
  simp only [wD, cast, PyData.weight]; split <;> omega
theorem w_nI {n : Nat} {k : Nat} (h : n < 2 ^ k) (hk : 0 < k) : wD (nI n) ≤ k := w_int (by rw [Int.natAbs_natCast]; exact h) hk
theorem nrm_small {w s : Nat} (hs : 0 < s) : (nrm (w : Int) (s : Int)).1.natAbs ≤ w ∧ (nrm (w : Int) (s : Int)).2.natAbs ≤ s := by
  have h : ¬ ((s : Int) < 0) := by omega
  unfold nrm
  rw [if_neg h]
  show ((w : Int) / (Int.gcd w s : Nat)).natAbs ≤ w ∧ ((s : Int) / (Int.gcd w s : Nat)).natAbs ≤ s
  rw [← Int.natCast_ediv, ← Int.natCast_ediv, Int.natAbs_natCast, Int.natAbs_natCast]
  exact ⟨Nat.div_le_self _ _, Nat.div_le_self _ _⟩
theorem okBs_small {bs : List ((Int × Int) × Nat)} (h : okBs bs) (hl : bs.length ≤ 6) : ∀ b ∈ bs, b.1.1.natAbs ≤ 5 ∧ b.1.2.natAbs ≤ 30 := by
  obtain ⟨ws, h1, h2, h3⟩ := h
  intro b hb
  have hm : b.1 ∈ bs.map (·.1) := List.mem_map.mpr ⟨b, hb, rfl⟩
  rw [h3] at hm
  obtain ⟨w, hw, e⟩ := List.mem_map.mp hm
  have s1 := sum_ge fun w h => (h2 w h).1
  have s2 := sum_le (m := 5) fun w h => (h2 w h).2
  have hp : 0 < ws.length := List.length_pos_of_mem hw
  have := nrm_small (w := w) (s := ws.sum) (by omega)
  rw [← e]
  have := h2 w hw
  omega
theorem strOk_draw : PyData.strOk (Str.ofString "draw") = true := by decide +kernel
theorem strOk_side (o : Bool) : PyData.strOk (sideS o) = true := by cases o <;> decide +kernel
theorem w_draw : wD (.str (Str.ofString "draw")) ≤ 6 := by decide +kernel
theorem w_side (o : Bool) : wD (.str (sideS o)) ≤ 6 := by cases o <;> decide +kernel
theorem sm_nI (n k : Nat) (h : k < 10 ^ 12) : smB n (nI k) = true := by
  cases n <;> simp only [smB, Int.natAbs_natCast, decide_eq_true_eq] <;> exact h
theorem sm_int (n : Nat) {i : Int} (h : i.natAbs < 10 ^ 12) : smB n (.int i) = true := by
  cases n <;> simp only [smB, decide_eq_true_eq] <;> exact h
theorem sm_str (n : Nat) {x : Str} (h : PyData.strOk x = true) : smB n (.str x) = true := by
  cases n <;> simpa only [smB] using h
/-- a place is small -/
theorem place_small {top many : Nat} {p : Pl} (h : p.Ok top many) (ht : top ≤ 9) (hm : many ≤ 1000) (n : Nat) : smB (n + 4) (encP p) = true ∧ wD (encP p) ≤ 300 := by
  obtain ⟨h1, h2, h3, h4, h5⟩ := h
  cases p with
  | draw m bs =>
    have h1 : m ≤ top := h1
    have hl : bs.length ≤ 6 := by have h3 : (bs.map (·.2)).length ≤ 6 := h3; simpa using h3
    have hb := okBs_small (h5 m bs rfl) hl
    have ht : ∀ b ∈ bs, b.2 < many := fun b hb => h4 b.2 (List.mem_map.mpr ⟨b, hb, rfl⟩)
    constructor
    · simp only [encP, smB, List.all_cons, List.all_nil, Bool.and_true, Bool.and_eq_true, List.all_eq_true, strOk_draw, true_and]
      refine ⟨decide_eq_true (by rw [Int.natAbs_natCast]; omega), fun x hx => ?_⟩
      obtain ⟨b, hb1, rfl⟩ := List.mem_map.mp hx
      have := hb b hb1
      have := ht b hb1
      simp only [encB, encQ, smB, List.all_cons, List.all_nil, Bool.and_true, Bool.and_eq_true]
      exact ⟨⟨decide_eq_true (by omega), decide_eq_true (by omega)⟩, decide_eq_true (by rw [Int.natAbs_natCast]; omega)⟩
    · have w := w_all (e := encB) (B := 40) (as := bs) fun b hb1 => by
        have := hb b hb1
        have := ht b hb1
        have a1 := w_int (i := b.1.1) (k := 10) (by omega) (by decide)
        have a2 := w_int (i := b.1.2) (k := 10) (by omega) (by decide)
        have a3 := w_nI (n := b.2) (k := 10) (by omega) (by decide)
        simp only [encB, encQ, w_tup, w_cons, w_nil]; omega
      have a1 := w_nI (n := m) (k := 4) (by omega) (by decide)
      have a2 := w_draw
      simp only [encP, w_tup, w_cons, w_nil, w_list]; omega
  | side m o ts =>
    have h1 : m ≤ top := h1
    have h3 : ts.length ≤ 6 := h3
    have h4 : ∀ t ∈ ts, t < many := h4
    constructor
    · simp only [encP, smB, List.all_cons, List.all_nil, Bool.and_true, Bool.and_eq_true, List.all_eq_true, strOk_side, true_and]
      refine ⟨decide_eq_true (by rw [Int.natAbs_natCast]; omega), fun x hx => ?_⟩
      obtain ⟨b, hb1, rfl⟩ := List.mem_map.mp hx
      have := h4 b hb1
      exact sm_nI _ _ (by omega)
    · have w := w_all (e := nI) (B := 10) (as := ts) fun b hb1 => w_nI (by have := h4 b hb1; omega) (by decide)
      have a1 := w_nI (n := m) (k := 4) (by omega) (by decide)
      have a2 := w_side o
      simp only [encP, w_tup, w_cons, w_nil, w_list]; omega
theorem game_small {top most : Nat} {g : List Pl} (h : GOk top most g) (ht : top ≤ 9) (hm : most ≤ 1000) (n : Nat) : smB (n + 5) (encG g) = true ∧ wD (encG g) ≤ 301 * g.length := by
  have hl : g.length ≤ 1000 := Nat.le_trans h.le hm
  constructor
  · simp only [encG, smB, List.all_eq_true]
    intro x hx
    obtain ⟨p, hp, rfl⟩ := List.mem_map.mp hx
    exact (place_small (h.all p hp) ht hl n).1
  · have := w_all (e := encP) (B := 300) (as := g) fun p hp => (place_small (h.all p hp) ht hl 0).2
    simp only [encG, w_list]; omega
theorem game_repr {top most : Nat} {g : List Pl} (h : GOk top most g) (ht : top ≤ 9) (hm : most ≤ 1000) : reprOk (.list (g.map encP)) = true := by
  obtain ⟨h1, h2⟩ := game_small h ht hm 4
  have := h.le
  exact repr_small h1 (by have : (2 : Nat) ^ 20 = 1048576 := by decide
                          have h2 : wD (.list (g.map encP)) ≤ 301 * g.length := h2
                          omega)
end Rf
end

section
/-! templates of the laws' helpers: the numbers of the defs they call are arguments. -/
namespace Rf
open PySem
/-- behind calls targets -/
def aBehind (c0 : Nat) : S := (.seq (.asg (.var 3) (.lst .nil)) (.seq (.asg (.var 4) (.lst (.cons (.var 1) .nil))) (.seq (.wh (.var 4) (.seq (.for_ (.var 5) (.call c0 (.cons (.var 0) (.cons (.mt .pop (.var 4) .nil) .nil))) (.seq (.ite (.and (.cmp .isin (.var 5) (.var 2)) (.cmp .notin (.var 5) (.var 3))) (.seq (.ex (.mt .append (.var 3) (.cons (.var 5) .nil))) (.seq (.ex (.mt .append (.var 4) (.cons (.var 5) .nil))) .skip)) .skip) .skip)) .skip)) (.seq (.ret (.var 3)) .skip))))
/-- is_company calls can_be_kept, behind -/
def aCompany (c0 : Nat) (c1 : Nat) : S := (.seq (.ite (.or (.not (.var 1)) (.not (.call c0 (.cons (.var 0) (.cons (.var 1) .nil))))) (.seq (.ret (.lit (.bool false))) .skip) .skip) (.seq (.ret (.bi .all (.cons (.comp [2] (.var 2) (.var 1) (.lit (.bool true)) (.cmp .eq (.bi .sorted (.cons (.call c1 (.cons (.var 0) (.cons (.var 2) (.cons (.var 1) .nil)))) .nil)) (.var 1))) .nil))) .skip))
/-- _law_after calls _law_targets -/
def aLAfter (c0 : Nat) : S := (.seq (.asg (.var 3) (.lst .nil)) (.seq (.asg (.var 4) (.lst (.cons (.var 2) .nil))) (.seq (.for_ (.var 5) (.bi .range (.cons (.bin .add (.bi .len (.cons (.var 0) .nil)) (.lit (.int (1)))) .nil)) (.seq (.asg (.var 6) (.lst .nil)) (.seq (.for_ (.var 7) (.var 4) (.seq (.for_ (.var 8) (.call c0 (.cons (.sub (.var 0) (.var 7)) .nil)) (.seq (.ite (.and (.cmp .isin (.var 8) (.var 1)) (.and (.cmp .notin (.var 8) (.var 3)) (.cmp .notin (.var 8) (.var 6)))) (.seq (.ex (.mt .append (.var 6) (.cons (.var 8) .nil))) .skip) .skip) .skip)) .skip)) (.seq (.asg (.var 3) (.bin .add (.var 3) (.var 6))) (.seq (.asg (.var 4) (.var 6)) .skip))))) (.seq (.ret (.bi .sorted (.cons (.var 3) .nil))) .skip))))
/-- _law_is_company calls _law_is_kept, _law_after -/
def aLCompany (c0 : Nat) (c1 : Nat) : S := (.seq (.ite (.or (.cmp .eq (.var 1) (.lst .nil)) (.not (.call c0 (.cons (.var 0) (.cons (.var 1) .nil))))) (.seq (.ret (.lit (.bool false))) .skip) .skip) (.seq (.ret (.bi .all (.cons (.comp [2] (.var 2) (.var 1) (.lit (.bool true)) (.cmp .eq (.call c1 (.cons (.var 0) (.cons (.var 1) (.cons (.var 2) .nil)))) (.bi .sorted (.cons (.var 1) .nil)))) .nil))) .skip))
/-- _law_lists -/
def aLLists : S := (.seq (.asg (.var 1) (.lst (.cons (.lst .nil) .nil))) (.seq (.for_ (.var 2) (.var 0) (.seq (.asg (.var 1) (.bin .add (.var 1) (.comp [3] (.var 3) (.var 1) (.lit (.bool true)) (.bin .add (.var 3) (.lst (.cons (.var 2) .nil)))))) .skip)) (.seq (.ret (.var 1)) .skip)))
/-- law calls _law_draws, _law_game, _law_lists, is_company, _law_is_company -/
def aLaw27 (c0 : Nat) (c1 : Nat) (c2 : Nat) (c3 : Nat) (c4 : Nat) : S := (.seq (.asg (.var 1) (.call c0 (.cons (.var 0) (.cons (.lit (.int (80))) .nil)))) (.seq (.asg (.var 2) (.call c1 (.cons (.var 1) (.cons (.lit (.int (5))) (.cons (.lit (.int (9))) .nil))))) (.seq (.asg (.var 3) (.bi .repr (.cons (.var 2) .nil))) (.seq (.for_ (.var 4) (.call c2 (.cons (.bi .list (.cons (.bi .range (.cons (.bi .len (.cons (.var 2) .nil)) .nil)) .nil)) .nil)) (.seq (.asg (.var 5) (.bi .list (.cons (.var 4) .nil))) (.seq (.asg (.var 6) (.call c3 (.cons (.var 2) (.cons (.var 5) .nil)))) (.seq (.ite (.or (.not (.isi (.var 6) [.bool])) (.or (.cmp .ne (.var 6) (.call c4 (.cons (.var 2) (.cons (.var 4) .nil)))) (.cmp .ne (.var 5) (.var 4)))) (.seq (.ret (.lit (.bool false))) .skip) .skip) .skip)))) (.seq (.ret (.cmp .eq (.bi .repr (.cons (.var 2) .nil)) (.var 3))) .skip)))))
end Rf
end

section
/-! Pm7: ways within a list; companies. -/
namespace Rf
open PySem
/-- a while: k falls at each turn -/
theorem loopW_sat {c : Env → Res (D × Env)} {b : Env → Out} {N B C : Env → Prop} {R : D → Prop} (I : Nat → Env → Prop)
    (hs : ∀ k ρ, I k ρ → (c ρ).sat fun p => if truth p.1 = true then (b p.2).sat (fun ρ' => ∃ m, m < k ∧ I m ρ') N (fun ρ' => ∃ m, m < k ∧ I m ρ') R else N p.2) : ∀ (fuel k : Nat) (ρ : Env), k < fuel → I k ρ → (loopW c b fuel ρ).sat N B C R
  | 0, k, _, h, _ => absurd h (Nat.not_lt_zero _)
  | n + 1, k, ρ, hk, h => by
    have h1 := hs k ρ h
    unfold loopW
    rw [o_out]
    refine h1.imp fun p h2 => ?_
    by_cases ht : truth p.1 = true
    · rw [if_pos ht] at h2
      have go : ∀ ρ2, (∃ m, m < k ∧ I m ρ2) → (loopW c b n ρ2).sat N B C R := fun ρ2 ⟨m, hm, h⟩ => loopW_sat I hs n m ρ2 (by omega) h
      obtain ⟨d, ρ1⟩ := p
      simp only at ht h2 ⊢
      rw [if_pos ht]
      revert h2
      cases b ρ1 <;> intro h2 <;> (simp only [o_next, o_brk, o_cnt, o_ret] at h2 ⊢) <;> first | exact go _ h2 | exact h2 | (unfold Out.sat at *; exact h2)
    · rw [if_neg ht] at h2
      obtain ⟨d, ρ1⟩ := p
      simp only at ht h2 ⊢
      rw [if_neg ht]
      rw [o_next]; exact h2
/-! lists -/
theorem nodup_len : ∀ {l m : List Nat}, l.Nodup → (∀ a ∈ l, a ∈ m) → l.length ≤ m.length
  | [], _, _, _ => Nat.zero_le _
  | a :: r, m, nd, h => by
    rw [List.nodup_cons] at nd
    have ha := h a List.mem_cons_self
    have ih := nodup_len (l := r) (m := m.erase a) nd.2 fun b hb => by
      have hb2 := h b (List.mem_cons_of_mem _ hb)
      exact (List.mem_erase_of_ne (fun e => nd.1 (by rw [← e]; exact hb))).mpr hb2
    have := List.length_erase_of_mem ha
    have hp : 0 < m.length := List.length_pos_of_mem ha
    rw [List.length_cons]; omega
theorem nodup_perm : ∀ {l m : List Nat}, l.Nodup → m.Nodup → (∀ a, a ∈ l ↔ a ∈ m) → l.Perm m
  | [], m, _, _, h => by
    cases m with
    | nil => exact .refl _
    | cons b r => exact absurd ((h b).mpr List.mem_cons_self) (by simp)
  | a :: r, m, nl, nm, h => by
    rw [List.nodup_cons] at nl
    have ha : a ∈ m := (h a).mp List.mem_cons_self
    have ih := nodup_perm (l := r) (m := m.erase a) nl.2 (nm.erase a) fun b => by
      by_cases e : b = a
      · subst e
        constructor
        · intro hb; exact absurd hb nl.1
        · intro hb; exact absurd hb (by rw [nm.mem_erase_iff]; simp)
      · rw [List.mem_erase_of_ne e, ← h b, List.mem_cons]; simp [e]
    exact (ih.cons a).trans (List.perm_cons_erase ha).symm
/-- a list in order is its own sorted list -/
theorem srt_of {f c : List Nat} (hp : f.Perm c) (hc : c.Pairwise (· < ·)) : srt (f.map fun n : Nat => (n : Int)) = c.map fun n : Nat => (n : Int) := by
  refine sorted_uniq ((srt_perm _).trans (hp.map _)) (srt_sorted _) ?_
  rw [List.pairwise_map]
  exact hc.imp fun h => by omega
theorem srt_nI {f c : List Nat} (hp : f.Perm c) (hc : c.Pairwise (· < ·)) {P : D → Prop} : (biD .sorted [.list (f.map nI)]).sat P = P (.list (c.map nI)) := by
  rw [map_nI, p_sorted, srt_of hp hc, ← map_nI]
/-! ways -/
/-- from a one comes to b by one step or more, within ps -/
inductive Rch (tg : Nat → List Nat) (ps : List Nat) (a : Nat) : Nat → Prop where
  | one {b : Nat} : b ∈ tg a → b ∈ ps → Rch tg ps a b
  | more {b c : Nat} : Rch tg ps a b → c ∈ tg b → c ∈ ps → Rch tg ps a c
theorem Rch.mem {tg : Nat → List Nat} {ps : List Nat} {a b : Nat} (h : Rch tg ps a b) : b ∈ ps := by cases h <;> assumption
/-- what is closed holds all -/
theorem Rch.sub {tg : Nat → List Nat} {ps f : List Nat} {a : Nat} (h : ∀ x ∈ a :: f, ∀ y ∈ tg x, y ∈ ps → y ∈ f) {b : Nat} (r : Rch tg ps a b) : b ∈ f := by
  induction r with
  | one h1 h2 => exact h a List.mem_cons_self _ h1 h2
  | more _ h1 h2 ih => exact h _ (List.mem_cons_of_mem _ ih) _ h1 h2
def tgOf (g : List Pl) (k : Nat) : List Nat := (g.getD k (.side 0 true [])).tg
theorem tgOf_at {g : List Pl} {k : Nat} (hk : k < g.length) : tgOf g k = g[k].tg := by unfold tgOf; rw [getD_at hk]
open Classical in
/-- those of ps to which one comes from a, in order -/
noncomputable def cl (g : List Pl) (ps : List Nat) (a : Nat) : List Nat := ps.filter fun b => decide (Rch (tgOf g) ps a b)
theorem cl_perm {g : List Pl} {ps f : List Nat} {a : Nat} (hp : ps.Nodup) (nf : f.Nodup) (h : ∀ b, b ∈ f ↔ Rch (tgOf g) ps a b) : f.Perm (cl g ps a) := by
  classical
  refine nodup_perm nf (hp.filter _) fun b => ?_
  unfold cl
  rw [h, List.mem_filter, decide_eq_true_eq]
  exact ⟨fun r => ⟨r.mem, r⟩, fun r => r.2⟩
theorem cl_asc {g : List Pl} {ps : List Nat} {a : Nat} (hp : ps.Pairwise (· < ·)) : (cl g ps a).Pairwise (· < ·) := hp.filter _
theorem nd_of {ps : List Nat} (h : ps.Pairwise (· < ·)) : ps.Nodup := h.imp fun h => by omega
theorem truth_l {ws : List Nat} : (truth (.list (ws.map nI)) = true) = (ws ≠ []) := by cases ws <;> simp [truth]
theorem m_onp {ds : List D} : (mtOn .pop (.list ds) = true) = True := by simp [mtOn]
theorem p_popN {ws : List Nat} {w : Nat} {P : D × D → Prop} : (mtM .pop (.list ((ws ++ [w]).map nI)) []).sat P = P (nI w, .list (ws.map nI)) := by
  rw [List.map_append]
  simp [mtM, s_ok]
/-- the step of a list of targets: what is new is found and waits -/
structure NewOk (ps f new ts : List Nat) (i : Nat) : Prop where
  nd : (f ++ new).Nodup
  sb : ∀ b ∈ new, b ∈ ps
  tg : ∀ b ∈ new, b ∈ ts
  all : ∀ (j : Nat) (b : Nat), j < i → ts[j]? = some b → b ∈ ps → b ∈ f ++ new
theorem NewOk.skip {ps f new ts : List Nat} {i b : Nat} (h : NewOk ps f new ts i) (e : ts[i]? = some b) (hb : b ∈ ps → b ∈ f ++ new) : NewOk ps f new ts (i + 1) :=
  ⟨h.nd, h.sb, h.tg, fun j c hj e2 hc => by
    rcases Nat.lt_succ_iff_lt_or_eq.mp hj with h1 | rfl
    · exact h.all j c h1 e2 hc
    · rw [e] at e2; cases e2; exact hb hc⟩
theorem NewOk.add {ps f new ts : List Nat} {i b : Nat} (h : NewOk ps f new ts i) (e : ts[i]? = some b) (hb : b ∈ ps) (hn : b ∉ f ++ new) : NewOk ps f (new ++ [b]) ts (i + 1) := by
  refine ⟨?_, fun c hc => ?_, fun c hc => ?_, fun j c hj e2 hc => ?_⟩
  · rw [← List.append_assoc, List.nodup_append]
    refine ⟨h.nd, by simp, fun a ha c hc => ?_⟩
    rw [List.mem_singleton] at hc
    rintro rfl
    subst hc
    exact hn ha
  · rcases List.mem_append.mp hc with h1 | h1
    · exact h.sb c h1
    · rw [List.mem_singleton] at h1; subst h1; exact hb
  · rcases List.mem_append.mp hc with h1 | h1
    · exact h.tg c h1
    · rw [List.mem_singleton] at h1; subst h1; exact List.mem_of_getElem? e
  · rw [← List.append_assoc]
    rcases Nat.lt_succ_iff_lt_or_eq.mp hj with h1 | rfl
    · exact List.mem_append_left _ (h.all j c h1 e2 hc)
    · rw [e] at e2; cases e2; exact List.mem_append_right _ (by simp)
/-- what a search knows -/
structure Srch (tg : Nat → List Nat) (ps : List Nat) (p : Nat) (f w : List Nat) : Prop where
  nd : f.Nodup
  ok : ∀ b ∈ f, Rch tg ps p b
  wt : ∀ b ∈ w, b = p ∨ b ∈ f
  cs : ∀ a, a = p ∨ a ∈ f → a ∉ w → ∀ b ∈ tg a, b ∈ ps → b ∈ f
theorem Srch.ps {tg : Nat → List Nat} {ps : List Nat} {p : Nat} {f w : List Nat} (h : Srch tg ps p f w) : ∀ b ∈ f, b ∈ ps := fun b hb => (h.ok b hb).mem
theorem Srch.fin {tg : Nat → List Nat} {ps : List Nat} {p : Nat} {f : List Nat} (h : Srch tg ps p f []) (b : Nat) : b ∈ f ↔ Rch tg ps p b :=
  ⟨h.ok b, fun r => r.sub fun x hx y hy hp => h.cs x (List.mem_cons.mp hx) (by simp) y hy hp⟩
theorem Srch.len {tg : Nat → List Nat} {ps : List Nat} {p : Nat} {f w : List Nat} (h : Srch tg ps p f w) : f.length ≤ ps.length := nodup_len h.nd h.ps
theorem Srch.start {tg : Nat → List Nat} {ps : List Nat} {p : Nat} : Srch tg ps p [] [p] where
  nd := .nil
  ok := fun b h => by cases h
  wt := fun b h => .inl (List.mem_singleton.mp h)
  cs := fun a h hn => by
    rcases h with e | h
    · exact absurd (List.mem_singleton.mpr e) hn
    · cases h
/-- one that waited is looked at -/
theorem Srch.step {tg : Nat → List Nat} {ps : List Nat} {p : Nat} {f r new : List Nat} {w : Nat} (h : Srch tg ps p f (r ++ [w])) (n : NewOk ps f new (tg w) (tg w).length) : Srch tg ps p (f ++ new) (r ++ new) where
  nd := n.nd
  ok := fun b hb => by
    rcases List.mem_append.mp hb with h1 | h1
    · exact h.ok b h1
    · rcases h.wt w (by simp) with rfl | hw
      · exact .one (n.tg b h1) (n.sb b h1)
      · exact .more (h.ok w hw) (n.tg b h1) (n.sb b h1)
  wt := fun b hb => by
    rcases List.mem_append.mp hb with h1 | h1
    · rcases h.wt b (List.mem_append_left _ h1) with e | e
      · exact .inl e
      · exact .inr (List.mem_append_left _ e)
    · exact .inr (List.mem_append_right _ h1)
  cs := fun a ha hn b hb hp => by
    by_cases e : a = w
    · subst e
      obtain ⟨j, hj, e⟩ := List.getElem_of_mem hb
      exact n.all j b hj (by rw [List.getElem?_eq_getElem hj, e]) hp
    · have h1 : a = p ∨ a ∈ f := by
        rcases ha with h | h
        · exact .inl h
        · rcases List.mem_append.mp h with h | h
          · exact .inr h
          · exact absurd (List.mem_append_right _ h) hn
      exact List.mem_append_left _ (h.cs a h1 (fun h2 => by
        rcases List.mem_append.mp h2 with h2 | h2
        · exact hn (List.mem_append_left _ h2)
        · exact e (List.mem_singleton.mp h2)) b hb hp)
theorem q_notin_nat {x : Nat} {ns : List Nat} {B : Bool → Prop} : (cmpD .notin (nI x) (.list (ns.map nI))).sat B = B (decide (x ∉ ns)) := by
  rw [q_notin, q_in_nat]; simp
theorem q_in_nat' {x : Nat} {ns : List Nat} {B : Bool → Prop} : (cmpD .isin (nI x) (.list (ns.map nI))).sat B = B (decide (x ∈ ns)) := by
  rw [q_in, q_in_nat]
theorem app_nI {ws : List Nat} {b : Nat} : ws.map nI ++ [nI b] = (ws ++ [b]).map nI := by rw [List.map_append]; rfl
theorem sp_behind {Φ : Calls} {c0 : Nat} (ht : TgOk Φ c0) {g : List Pl} {p : Nat} {ps : List Nat} (hz : ∀ q ∈ g, q.tg.length ≤ 1000) (hp : p < g.length) (hps : ∀ k ∈ ps, k < g.length) (hl : ps.length ≤ 1000) : (runFn Φ ⟨3, 6, aBehind c0⟩ [.list (g.map encP), nI p, .list (ps.map nI)]).sat fun d => ∃ f : List Nat, d = .list (f.map nI) ∧ f.Nodup ∧ ∀ b, b ∈ f ↔ Rch (tgOf g) ps p b := by
  rw [run_eq]
  refine ⟨⟨rfl, by decide⟩, ?_⟩
  show (exec Φ (aBehind c0) [some (.list (g.map encP)), some (nI p), some (.list (ps.map nI)), none, none, none]).sat _ _ _ _
  unfold aBehind
  simp only [x_skip, x_seq, x_asg, x_aug, x_ex, x_ite, x_for, x_ret, x_brk, x_cnt, t_var, t_tup, t_tupL, t_nil, t_cons, t_sub, n_var, n_tup, n_nil, n_cons, c_cons', c_lst, c_neg, c_tup, e_nil, e_cons, e_var, e_lit, e_tup, e_lst, e_neg, e_not, e_bin, e_cmp, e_and, e_or, e_ite, e_sub, e_slc, e_call, e_bi, e_isi, e_app, e_pop, e_comp, e_dcomp, i_sat, g_zero, g_succ, z_zero, z_succ, wipe_nil, wipe_cons, p_add, p_sub, p_mul, p_fdiv, p_mod, p_pow, p_addL, p_addT, p_auga, p_augs, q_lt, q_le, q_gt, q_ge, q_isN, q_isnotN, q_in, q_notin, q_in_ints, p_len, p_lenT, p_lenS, p_list, p_listT, p_int, p_intB, p_abs, p_range, p_range2, p_all, p_any, p_sum, p_gcd, p_append, p_items, p_itemsT, p_itemsS, p_subL, p_subT, at0, at1, at2, truth_b, lt_zero, lt_succ, ln_cons, ln_nil, p_slc, p_putL, true_and, and_true, decide_eq_true_eq, m_on, q_eqI, q_neI, Option.some.injEq, exists_eq_left', exists_eq_left, if_true, if_false, eq_self, Bool.false_eq_true, Bool.not_eq_true, List.length_map, reduceCtorEq, not_false_eq_true, sat_ite, s_ok, q_eqS, q_neS, q_eqB, q_neB, i_bb, i_tt, i_ll, p_end, p_endN, ne_eq, rng0, Int.toNat_natCast, List.length_range, p_sumN, line, x_wh]
  refine loopW_sat (fun k ρ => ∃ (f w : List Nat) (x5 : Option D), ρ = [some (.list (g.map encP)), some (nI p), some (.list (ps.map nI)), some (.list (f.map nI)), some (.list (w.map nI)), x5] ∧ Srch (tgOf g) ps p f w ∧ w.length ≤ f.length + 1 ∧ k = 2 * (ps.length - f.length) + w.length) ?_ wturns (2 * ps.length + 1) _ (by unfold wturns; omega) ⟨[], [p], none, rfl, .start, by simp, by simp⟩
  rintro k ρ ⟨f, w, x5, rfl, S, hw, hk⟩
  simp only [x_skip, x_seq, x_asg, x_aug, x_ex, x_ite, x_for, x_ret, x_brk, x_cnt, t_var, t_tup, t_tupL, t_nil, t_cons, t_sub, n_var, n_tup, n_nil, n_cons, c_cons', c_lst, c_neg, c_tup, e_nil, e_cons, e_var, e_lit, e_tup, e_lst, e_neg, e_not, e_bin, e_cmp, e_and, e_or, e_ite, e_sub, e_slc, e_call, e_bi, e_isi, e_app, e_pop, e_comp, e_dcomp, i_sat, g_zero, g_succ, z_zero, z_succ, wipe_nil, wipe_cons, p_add, p_sub, p_mul, p_fdiv, p_mod, p_pow, p_addL, p_addT, p_auga, p_augs, q_lt, q_le, q_gt, q_ge, q_isN, q_isnotN, q_in, q_notin, q_in_ints, p_len, p_lenT, p_lenS, p_list, p_listT, p_int, p_intB, p_abs, p_range, p_range2, p_all, p_any, p_sum, p_gcd, p_append, p_items, p_itemsT, p_itemsS, p_subL, p_subT, at0, at1, at2, truth_b, lt_zero, lt_succ, ln_cons, ln_nil, p_slc, p_putL, true_and, and_true, decide_eq_true_eq, m_on, q_eqI, q_neI, Option.some.injEq, exists_eq_left', exists_eq_left, if_true, if_false, eq_self, Bool.false_eq_true, Bool.not_eq_true, List.length_map, reduceCtorEq, not_false_eq_true, sat_ite, s_ok, q_eqS, q_neS, q_eqB, q_neB, i_bb, i_tt, i_ll, p_end, p_endN, ne_eq, rng0, Int.toNat_natCast, List.length_range, p_sumN, line, truth_l]
  rcases List.eq_nil_or_concat w with rfl | ⟨r, t, rfl⟩
  · rw [if_neg (by simp)]
    exact ⟨f, rfl, S.nd, S.fin⟩
  · rw [List.concat_eq_append] at *
    have tl : t < g.length := by
      rcases S.wt t (by simp) with rfl | h
      · exact hp
      · exact hps t (S.ps t h)
    rw [if_pos (by simp)]
    simp only [x_skip, x_seq, x_asg, x_aug, x_ex, x_ite, x_for, x_ret, x_brk, x_cnt, t_var, t_tup, t_tupL, t_nil, t_cons, t_sub, n_var, n_tup, n_nil, n_cons, c_cons', c_lst, c_neg, c_tup, e_nil, e_cons, e_var, e_lit, e_tup, e_lst, e_neg, e_not, e_bin, e_cmp, e_and, e_or, e_ite, e_sub, e_slc, e_call, e_bi, e_isi, e_app, e_pop, e_comp, e_dcomp, i_sat, g_zero, g_succ, z_zero, z_succ, wipe_nil, wipe_cons, p_add, p_sub, p_mul, p_fdiv, p_mod, p_pow, p_addL, p_addT, p_auga, p_augs, q_lt, q_le, q_gt, q_ge, q_isN, q_isnotN, q_in, q_notin, q_in_ints, p_len, p_lenT, p_lenS, p_list, p_listT, p_int, p_intB, p_abs, p_range, p_range2, p_all, p_any, p_sum, p_gcd, p_append, p_items, p_itemsT, p_itemsS, p_subL, p_subT, at0, at1, at2, truth_b, lt_zero, lt_succ, ln_cons, ln_nil, p_slc, p_putL, true_and, and_true, decide_eq_true_eq, m_on, q_eqI, q_neI, Option.some.injEq, exists_eq_left', exists_eq_left, if_true, if_false, eq_self, Bool.false_eq_true, Bool.not_eq_true, List.length_map, reduceCtorEq, not_false_eq_true, sat_ite, s_ok, q_eqS, q_neS, q_eqB, q_neB, i_bb, i_tt, i_ll, p_end, p_endN, ne_eq, rng0, Int.toNat_natCast, List.length_range, p_sumN, line, m_onp, p_popN]
    refine (ht g t tl (hz _ (List.getElem_mem tl))).imp fun d e => ?_
    subst e
    have et : g[t].tg = tgOf g t := (tgOf_at tl).symm
    rw [et]
    simp only [x_skip, x_seq, x_asg, x_aug, x_ex, x_ite, x_for, x_ret, x_brk, x_cnt, t_var, t_tup, t_tupL, t_nil, t_cons, t_sub, n_var, n_tup, n_nil, n_cons, c_cons', c_lst, c_neg, c_tup, e_nil, e_cons, e_var, e_lit, e_tup, e_lst, e_neg, e_not, e_bin, e_cmp, e_and, e_or, e_ite, e_sub, e_slc, e_call, e_bi, e_isi, e_app, e_pop, e_comp, e_dcomp, i_sat, g_zero, g_succ, z_zero, z_succ, wipe_nil, wipe_cons, p_add, p_sub, p_mul, p_fdiv, p_mod, p_pow, p_addL, p_addT, p_auga, p_augs, q_lt, q_le, q_gt, q_ge, q_isN, q_isnotN, q_in, q_notin, q_in_ints, p_len, p_lenT, p_lenS, p_list, p_listT, p_int, p_intB, p_abs, p_range, p_range2, p_all, p_any, p_sum, p_gcd, p_append, p_items, p_itemsT, p_itemsS, p_subL, p_subT, at0, at1, at2, truth_b, lt_zero, lt_succ, ln_cons, ln_nil, p_slc, p_putL, true_and, and_true, decide_eq_true_eq, m_on, q_eqI, q_neI, Option.some.injEq, exists_eq_left', exists_eq_left, if_true, if_false, eq_self, Bool.false_eq_true, Bool.not_eq_true, List.length_map, reduceCtorEq, not_false_eq_true, sat_ite, s_ok, q_eqS, q_neS, q_eqB, q_neB, i_bb, i_tt, i_ll, p_end, p_endN, ne_eq, rng0, Int.toNat_natCast, List.length_range, p_sumN, line]
    refine loop_map (fun i ρ => ∃ (new : List Nat) (x5 : Option D), ρ = [some (.list (g.map encP)), some (nI p), some (.list (ps.map nI)), some (.list ((f ++ new).map nI)), some (.list ((r ++ new).map nI)), x5] ∧ NewOk ps f new (tgOf g t) i) (fun ρ => ∃ (new : List Nat) (x5 : Option D), ρ = [some (.list (g.map encP)), some (nI p), some (.list (ps.map nI)), some (.list ((f ++ new).map nI)), some (.list ((r ++ new).map nI)), x5] ∧ NewOk ps f new (tgOf g t) (tgOf g t).length) ?_ ?_ ?_ ?_
    · exact ⟨[], x5, by rw [List.append_nil, List.append_nil], by rw [List.append_nil]; exact S.nd, fun b h => (by cases h), fun b h => (by cases h), fun j b hj => absurd hj (Nat.not_lt_zero _)⟩
    · rintro i b ρ hi ⟨new, y5, rfl, n⟩
      simp only [x_skip, x_seq, x_asg, x_aug, x_ex, x_ite, x_for, x_ret, x_brk, x_cnt, t_var, t_tup, t_tupL, t_nil, t_cons, t_sub, n_var, n_tup, n_nil, n_cons, c_cons', c_lst, c_neg, c_tup, e_nil, e_cons, e_var, e_lit, e_tup, e_lst, e_neg, e_not, e_bin, e_cmp, e_and, e_or, e_ite, e_sub, e_slc, e_call, e_bi, e_isi, e_app, e_pop, e_comp, e_dcomp, i_sat, g_zero, g_succ, z_zero, z_succ, wipe_nil, wipe_cons, p_add, p_sub, p_mul, p_fdiv, p_mod, p_pow, p_addL, p_addT, p_auga, p_augs, q_lt, q_le, q_gt, q_ge, q_isN, q_isnotN, q_in, q_notin, q_in_ints, p_len, p_lenT, p_lenS, p_list, p_listT, p_int, p_intB, p_abs, p_range, p_range2, p_all, p_any, p_sum, p_gcd, p_append, p_items, p_itemsT, p_itemsS, p_subL, p_subT, at0, at1, at2, truth_b, lt_zero, lt_succ, ln_cons, ln_nil, p_slc, p_putL, true_and, and_true, decide_eq_true_eq, m_on, q_eqI, q_neI, Option.some.injEq, exists_eq_left', exists_eq_left, if_true, if_false, eq_self, Bool.false_eq_true, Bool.not_eq_true, List.length_map, reduceCtorEq, not_false_eq_true, sat_ite, s_ok, q_eqS, q_neS, q_eqB, q_neB, i_bb, i_tt, i_ll, p_end, p_endN, ne_eq, rng0, Int.toNat_natCast, List.length_range, p_sumN, line, q_in_nat, q_notin_nat]
      by_cases h1 : b ∈ ps
      · rw [if_pos h1]
        by_cases h2 : b ∈ f ++ new
        · rw [if_neg (by rw [decide_eq_true h2]; simp)]
          exact ⟨new, _, rfl, n.skip hi fun _ => h2⟩
        · rw [if_pos (by rw [decide_eq_false h2]; rfl)]
          have l1 := nodup_len n.nd fun a ha => by
            rcases List.mem_append.mp ha with h | h
            · exact S.ps a h
            · exact n.sb a h
          have lr : (r ++ new).length ≤ 5000 := by
            have a1 := S.len
            rw [List.length_append, List.length_singleton] at hw
            rw [List.length_append] at l1 ⊢; omega
          refine ⟨by rw [List.length_append] at *; omega, by rw [List.length_append] at *; omega, new ++ [b], some (nI b), ?_, n.add hi h1 h2⟩
          rw [app_nI, app_nI, List.append_assoc, List.append_assoc]
      · rw [if_neg h1, if_neg h1]
        exact ⟨new, _, rfl, n.skip hi fun h => absurd h h1⟩
    · exact fun ρ h => h
    · rintro ρ ⟨new, y5, rfl, n⟩
      have S2 := S.step n
      refine ⟨_, ?_, f ++ new, r ++ new, y5, rfl, S2, ?_, rfl⟩
      all_goals have := S2.len
      all_goals simp only [List.length_append, List.length_cons, List.length_nil] at *
      all_goals omega
def BehOk (Φ : Calls) (f : Nat) : Prop := ∀ (g : List Pl) (p : Nat) (ps : List Nat), (∀ q ∈ g, q.tg.length ≤ 1000) → p < g.length → (∀ k ∈ ps, k < g.length) → ps.length ≤ 1000 → (Φ f [.list (g.map encP), nI p, .list (ps.map nI)]).sat fun d => ∃ f : List Nat, d = .list (f.map nI) ∧ f.Nodup ∧ ∀ b, b ∈ f ↔ Rch (tgOf g) ps p b
def KeptOk (Φ : Calls) (f : Nat) : Prop := ∀ (g : List Pl) (ps : List Nat), (∀ p ∈ g, p.tg.length ≤ 1000) → (∀ k ∈ ps, k < g.length) → ps.length ≤ 1000 → (Φ f [.list (g.map encP), .list (ps.map nI)]).sat fun d => d = .bool (keptB g ps)
def LKeptOk (Φ : Calls) (f : Nat) : Prop := ∀ (g : List Pl) (ps : List Nat), (∀ p ∈ g, 1 ≤ p.tg.length ∧ p.tg.length ≤ 1000) → (∀ k ∈ ps, k < g.length) → (Φ f [.list (g.map encP), .list (ps.map nI)]).sat fun d => d = .bool (keptB g ps)
open Classical in
/-- a company -/
noncomputable def compB (g : List Pl) (ps : List Nat) : Bool := decide (ps ≠ []) && keptB g ps && (ps.map fun p => decide (cl g ps p = ps)).all id
theorem truth_nl {ws : List Nat} : truth (.list (ws.map nI)) = decide (ws ≠ []) := by cases ws <;> simp [truth]
theorem sp_company {Φ : Calls} {c0 c1 : Nat} (hk : KeptOk Φ c0) (hb : BehOk Φ c1) {g : List Pl} {ps : List Nat} (hz : ∀ q ∈ g, q.tg.length ≤ 1000) (hps : ∀ k ∈ ps, k < g.length) (ha : ps.Pairwise (· < ·)) (hl : ps.length ≤ 1000) : (runFn Φ ⟨2, 3, aCompany c0 c1⟩ [.list (g.map encP), .list (ps.map nI)]).sat fun d => d = .bool (compB g ps) := by
  rw [run_eq]
  refine ⟨⟨rfl, by decide⟩, ?_⟩
  show (exec Φ (aCompany c0 c1) [some (.list (g.map encP)), some (.list (ps.map nI)), none]).sat _ _ _ _
  unfold aCompany
  simp only [x_skip, x_seq, x_asg, x_aug, x_ex, x_ite, x_for, x_ret, x_brk, x_cnt, t_var, t_tup, t_tupL, t_nil, t_cons, t_sub, n_var, n_tup, n_nil, n_cons, c_cons', c_lst, c_neg, c_tup, e_nil, e_cons, e_var, e_lit, e_tup, e_lst, e_neg, e_not, e_bin, e_cmp, e_and, e_or, e_ite, e_sub, e_slc, e_call, e_bi, e_isi, e_app, e_pop, e_comp, e_dcomp, i_sat, g_zero, g_succ, z_zero, z_succ, wipe_nil, wipe_cons, p_add, p_sub, p_mul, p_fdiv, p_mod, p_pow, p_addL, p_addT, p_auga, p_augs, q_lt, q_le, q_gt, q_ge, q_isN, q_isnotN, q_in, q_notin, q_in_ints, p_len, p_lenT, p_lenS, p_list, p_listT, p_int, p_intB, p_abs, p_range, p_range2, p_all, p_any, p_sum, p_gcd, p_append, p_items, p_itemsT, p_itemsS, p_subL, p_subT, at0, at1, at2, truth_b, lt_zero, lt_succ, ln_cons, ln_nil, p_slc, p_putL, true_and, and_true, decide_eq_true_eq, m_on, q_eqI, q_neI, Option.some.injEq, exists_eq_left', exists_eq_left, if_true, if_false, eq_self, Bool.false_eq_true, Bool.not_eq_true, List.length_map, reduceCtorEq, not_false_eq_true, sat_ite, s_ok, q_eqS, q_neS, q_eqB, q_neB, i_bb, i_tt, i_ll, p_end, p_endN, ne_eq, rng0, Int.toNat_natCast, List.length_range, p_sumN, line, truth_nl]
  unfold compB
  by_cases h0 : ps = []
  · subst h0
    simp
  · have hd : decide (ps ≠ []) = true := by simp [h0]
    simp only [hd, Bool.not_true, Bool.false_eq_true, if_false]
    refine (hk g ps hz hps hl).imp fun d e => ?_
    subst e
    simp only [x_skip, x_seq, x_asg, x_aug, x_ex, x_ite, x_for, x_ret, x_brk, x_cnt, t_var, t_tup, t_tupL, t_nil, t_cons, t_sub, n_var, n_tup, n_nil, n_cons, c_cons', c_lst, c_neg, c_tup, e_nil, e_cons, e_var, e_lit, e_tup, e_lst, e_neg, e_not, e_bin, e_cmp, e_and, e_or, e_ite, e_sub, e_slc, e_call, e_bi, e_isi, e_app, e_pop, e_comp, e_dcomp, i_sat, g_zero, g_succ, z_zero, z_succ, wipe_nil, wipe_cons, p_add, p_sub, p_mul, p_fdiv, p_mod, p_pow, p_addL, p_addT, p_auga, p_augs, q_lt, q_le, q_gt, q_ge, q_isN, q_isnotN, q_in, q_notin, q_in_ints, p_len, p_lenT, p_lenS, p_list, p_listT, p_int, p_intB, p_abs, p_range, p_range2, p_all, p_any, p_sum, p_gcd, p_append, p_items, p_itemsT, p_itemsS, p_subL, p_subT, at0, at1, at2, truth_b, lt_zero, lt_succ, ln_cons, ln_nil, p_slc, p_putL, true_and, and_true, decide_eq_true_eq, m_on, q_eqI, q_neI, Option.some.injEq, exists_eq_left', exists_eq_left, if_true, if_false, eq_self, Bool.false_eq_true, Bool.not_eq_true, List.length_map, reduceCtorEq, not_false_eq_true, sat_ite, s_ok, q_eqS, q_neS, q_eqB, q_neB, i_bb, i_tt, i_ll, p_end, p_endN, ne_eq, rng0, Int.toNat_natCast, List.length_range, p_sumN, line, truth]
    by_cases h1 : keptB g ps = true
    · simp only [h1, Bool.not_true, Bool.false_eq_true, if_false]
      refine ⟨by omega, fm_map (as := ps) (ea := nI) (eb := D.bool) (fun p => decide (cl g ps p = ps)) (fun p hp => ?_) ?_⟩
      · simp only [x_skip, x_seq, x_asg, x_aug, x_ex, x_ite, x_for, x_ret, x_brk, x_cnt, t_var, t_tup, t_tupL, t_nil, t_cons, t_sub, n_var, n_tup, n_nil, n_cons, c_cons', c_lst, c_neg, c_tup, e_nil, e_cons, e_var, e_lit, e_tup, e_lst, e_neg, e_not, e_bin, e_cmp, e_and, e_or, e_ite, e_sub, e_slc, e_call, e_bi, e_isi, e_app, e_pop, e_comp, e_dcomp, i_sat, g_zero, g_succ, z_zero, z_succ, wipe_nil, wipe_cons, p_add, p_sub, p_mul, p_fdiv, p_mod, p_pow, p_addL, p_addT, p_auga, p_augs, q_lt, q_le, q_gt, q_ge, q_isN, q_isnotN, q_in, q_notin, q_in_ints, p_len, p_lenT, p_lenS, p_list, p_listT, p_int, p_intB, p_abs, p_range, p_range2, p_all, p_any, p_sum, p_gcd, p_append, p_items, p_itemsT, p_itemsS, p_subL, p_subT, at0, at1, at2, truth_b, lt_zero, lt_succ, ln_cons, ln_nil, p_slc, p_putL, true_and, and_true, decide_eq_true_eq, m_on, q_eqI, q_neI, Option.some.injEq, exists_eq_left', exists_eq_left, if_true, if_false, eq_self, Bool.false_eq_true, Bool.not_eq_true, List.length_map, reduceCtorEq, not_false_eq_true, sat_ite, s_ok, q_eqS, q_neS, q_eqB, q_neB, i_bb, i_tt, i_ll, p_end, p_endN, ne_eq, rng0, Int.toNat_natCast, List.length_range, p_sumN, line]
        refine (hb g p ps hz (hps p hp) hps hl).imp fun d ⟨f, e, nf, hf⟩ => ?_
        subst e
        simp only [x_skip, x_seq, x_asg, x_aug, x_ex, x_ite, x_for, x_ret, x_brk, x_cnt, t_var, t_tup, t_tupL, t_nil, t_cons, t_sub, n_var, n_tup, n_nil, n_cons, c_cons', c_lst, c_neg, c_tup, e_nil, e_cons, e_var, e_lit, e_tup, e_lst, e_neg, e_not, e_bin, e_cmp, e_and, e_or, e_ite, e_sub, e_slc, e_call, e_bi, e_isi, e_app, e_pop, e_comp, e_dcomp, i_sat, g_zero, g_succ, z_zero, z_succ, wipe_nil, wipe_cons, p_add, p_sub, p_mul, p_fdiv, p_mod, p_pow, p_addL, p_addT, p_auga, p_augs, q_lt, q_le, q_gt, q_ge, q_isN, q_isnotN, q_in, q_notin, q_in_ints, p_len, p_lenT, p_lenS, p_list, p_listT, p_int, p_intB, p_abs, p_range, p_range2, p_all, p_any, p_sum, p_gcd, p_append, p_items, p_itemsT, p_itemsS, p_subL, p_subT, at0, at1, at2, truth_b, lt_zero, lt_succ, ln_cons, ln_nil, p_slc, p_putL, true_and, and_true, decide_eq_true_eq, m_on, q_eqI, q_neI, Option.some.injEq, exists_eq_left', exists_eq_left, if_true, if_false, eq_self, Bool.false_eq_true, Bool.not_eq_true, List.length_map, reduceCtorEq, not_false_eq_true, sat_ite, s_ok, q_eqS, q_neS, q_eqB, q_neB, i_bb, i_tt, i_ll, p_end, p_endN, ne_eq, rng0, Int.toNat_natCast, List.length_range, p_sumN, line, srt_nI (cl_perm (nd_of ha) nf hf) (cl_asc ha), q_eqN]
      simp only [x_skip, x_seq, x_asg, x_aug, x_ex, x_ite, x_for, x_ret, x_brk, x_cnt, t_var, t_tup, t_tupL, t_nil, t_cons, t_sub, n_var, n_tup, n_nil, n_cons, c_cons', c_lst, c_neg, c_tup, e_nil, e_cons, e_var, e_lit, e_tup, e_lst, e_neg, e_not, e_bin, e_cmp, e_and, e_or, e_ite, e_sub, e_slc, e_call, e_bi, e_isi, e_app, e_pop, e_comp, e_dcomp, i_sat, g_zero, g_succ, z_zero, z_succ, wipe_nil, wipe_cons, p_add, p_sub, p_mul, p_fdiv, p_mod, p_pow, p_addL, p_addT, p_auga, p_augs, q_lt, q_le, q_gt, q_ge, q_isN, q_isnotN, q_in, q_notin, q_in_ints, p_len, p_lenT, p_lenS, p_list, p_listT, p_int, p_intB, p_abs, p_range, p_range2, p_all, p_any, p_sum, p_gcd, p_append, p_items, p_itemsT, p_itemsS, p_subL, p_subT, at0, at1, at2, truth_b, lt_zero, lt_succ, ln_cons, ln_nil, p_slc, p_putL, true_and, and_true, decide_eq_true_eq, m_on, q_eqI, q_neI, Option.some.injEq, exists_eq_left', exists_eq_left, if_true, if_false, eq_self, Bool.false_eq_true, Bool.not_eq_true, List.length_map, reduceCtorEq, not_false_eq_true, sat_ite, s_ok, q_eqS, q_neS, q_eqB, q_neB, i_bb, i_tt, i_ll, p_end, p_endN, ne_eq, rng0, Int.toNat_natCast, List.length_range, p_sumN, line, Bool.true_and]
    · have h2 : keptB g ps = false := by simpa using h1
      simp [h2]
end Rf
end

section
/-! Pm8: ways by rounds; all parts of a list. -/
namespace Rf
open PySem
/-- a round: what is new from the first i of w -/
structure Lvl (tg : Nat → List Nat) (ps f w new : List Nat) (i : Nat) : Prop where
  nd : (f ++ new).Nodup
  sb : ∀ b ∈ new, b ∈ ps
  fr : ∀ b ∈ new, ∃ a ∈ w, b ∈ tg a
  all : ∀ (j a : Nat), j < i → w[j]? = some a → ∀ b ∈ tg a, b ∈ ps → b ∈ f ++ new
/-- .. and the first m targets of the next -/
structure LvlT (tg : Nat → List Nat) (ps f w new : List Nat) (i : Nat) (t : Nat) (m : Nat) : Prop where
  lv : Lvl tg ps f w new i
  al : ∀ (j b : Nat), j < m → (tg t)[j]? = some b → b ∈ ps → b ∈ f ++ new
theorem LvlT.skip {tg : Nat → List Nat} {ps f w new : List Nat} {i t m b : Nat} (h : LvlT tg ps f w new i t m) (e : (tg t)[m]? = some b) (hb : b ∈ ps → b ∈ f ++ new) : LvlT tg ps f w new i t (m + 1) :=
  ⟨h.lv, fun j c hj e2 hc => by
    rcases Nat.lt_succ_iff_lt_or_eq.mp hj with h1 | rfl
    · exact h.al j c h1 e2 hc
    · rw [e] at e2; cases e2; exact hb hc⟩
theorem LvlT.add {tg : Nat → List Nat} {ps f w new : List Nat} {i t m b : Nat} (h : LvlT tg ps f w new i t m) (ht : t ∈ w) (e : (tg t)[m]? = some b) (hb : b ∈ ps) (hn : b ∉ f ++ new) : LvlT tg ps f w (new ++ [b]) i t (m + 1) := by
  have sub : ∀ c, c ∈ f ++ new → c ∈ f ++ (new ++ [b]) := fun c hc => by rw [← List.append_assoc]; exact List.mem_append_left _ hc
  refine ⟨⟨?_, fun c hc => ?_, fun c hc => ?_, fun j a hj e2 c hc hp => sub _ (h.lv.all j a hj e2 c hc hp)⟩, fun j c hj e2 hc => ?_⟩
  · rw [← List.append_assoc, List.nodup_append]
    refine ⟨h.lv.nd, by simp, fun a ha c hc => ?_⟩
    rw [List.mem_singleton] at hc
    rintro rfl
    subst hc
    exact hn ha
  · rcases List.mem_append.mp hc with h1 | h1
    · exact h.lv.sb c h1
    · rw [List.mem_singleton] at h1; subst h1; exact hb
  · rcases List.mem_append.mp hc with h1 | h1
    · exact h.lv.fr c h1
    · rw [List.mem_singleton] at h1; subst h1; exact ⟨t, ht, List.mem_of_getElem? e⟩
  · rcases Nat.lt_succ_iff_lt_or_eq.mp hj with h1 | rfl
    · exact sub _ (h.al j c h1 e2 hc)
    · rw [e] at e2; cases e2; rw [← List.append_assoc]; exact List.mem_append_right _ (by simp)
theorem LvlT.done {tg : Nat → List Nat} {ps f w new : List Nat} {i t : Nat} (e : w[i]? = some t) (h : LvlT tg ps f w new i t (tg t).length) : Lvl tg ps f w new (i + 1) :=
  ⟨h.lv.nd, h.lv.sb, h.lv.fr, fun j a hj e2 b hb hp => by
    rcases Nat.lt_succ_iff_lt_or_eq.mp hj with h1 | rfl
    · exact h.lv.all j a h1 e2 b hb hp
    · rw [e] at e2; cases e2
      obtain ⟨k, hk, e3⟩ := List.getElem_of_mem hb
      exact h.al k b hk (by rw [List.getElem?_eq_getElem hk, e3]) hp⟩
theorem Srch.level {tg : Nat → List Nat} {ps : List Nat} {p : Nat} {f w new : List Nat} (h : Srch tg ps p f w) (n : Lvl tg ps f w new w.length) : Srch tg ps p (f ++ new) new where
  nd := n.nd
  ok := fun b hb => by
    rcases List.mem_append.mp hb with h1 | h1
    · exact h.ok b h1
    · obtain ⟨a, ha, hb2⟩ := n.fr b h1
      rcases h.wt a ha with rfl | hw
      · exact .one hb2 (n.sb b h1)
      · exact .more (h.ok a hw) hb2 (n.sb b h1)
  wt := fun b hb => .inr (List.mem_append_right _ hb)
  cs := fun a ha hn b hb hp => by
    by_cases hw : a ∈ w
    · obtain ⟨j, hj, e⟩ := List.getElem_of_mem hw
      exact n.all j a hj (by rw [List.getElem?_eq_getElem hj, e]) b hb hp
    · have h1 : a = p ∨ a ∈ f := by
        rcases ha with h | h
        · exact .inl h
        · rcases List.mem_append.mp h with h | h
          · exact .inr h
          · exact absurd h hn
      exact List.mem_append_left _ (h.cs a h1 hw b hb hp)
theorem app_map {as bs : List Nat} : as.map nI ++ bs.map nI = (as ++ bs).map nI := by rw [List.map_append]
theorem sp_after {Φ : Calls} {c0 : Nat} (ht : LTgOk Φ c0) {g : List Pl} {p : Nat} {ps : List Nat} (hz : ∀ q ∈ g, q.tg.length ≤ 1000) (hp : p < g.length) (hps : ∀ k ∈ ps, k < g.length) (ha : ps.Pairwise (· < ·)) (hl : ps.length ≤ g.length) (hg : g.length ≤ 1000) :
    (runFn Φ ⟨3, 9, aLAfter c0⟩ [.list (g.map encP), .list (ps.map nI), nI p]).sat fun d => d = .list ((cl g ps p).map nI) := by
  rw [run_eq]
  refine ⟨⟨rfl, by decide⟩, ?_⟩
  show (exec Φ (aLAfter c0) [some (.list (g.map encP)), some (.list (ps.map nI)), some (nI p), none, none, none, none, none, none]).sat _ _ _ _
  unfold aLAfter
  have en : ((g.length : Int) + 1) = ((g.length + 1 : Nat) : Int) := by push_cast; rfl
  simp only [x_skip, x_seq, x_asg, x_aug, x_ex, x_ite, x_for, x_ret, x_brk, x_cnt, t_var, t_tup, t_tupL, t_nil, t_cons, t_sub, n_var, n_tup, n_nil, n_cons, c_cons', c_lst, c_neg, c_tup, e_nil, e_cons, e_var, e_lit, e_tup, e_lst, e_neg, e_not, e_bin, e_cmp, e_and, e_or, e_ite, e_sub, e_slc, e_call, e_bi, e_isi, e_app, e_pop, e_comp, e_dcomp, i_sat, g_zero, g_succ, z_zero, z_succ, wipe_nil, wipe_cons, p_add, p_sub, p_mul, p_fdiv, p_mod, p_pow, p_addL, p_addT, p_auga, p_augs, q_lt, q_le, q_gt, q_ge, q_isN, q_isnotN, q_in, q_notin, q_in_ints, p_len, p_lenT, p_lenS, p_list, p_listT, p_int, p_intB, p_abs, p_range, p_range2, p_all, p_any, p_sum, p_gcd, p_append, p_items, p_itemsT, p_itemsS, p_subL, p_subT, at0, at1, at2, truth_b, lt_zero, lt_succ, ln_cons, ln_nil, p_slc, p_putL, true_and, and_true, decide_eq_true_eq, m_on, q_eqI, q_neI, Option.some.injEq, exists_eq_left', exists_eq_left, if_true, if_false, eq_self, Bool.false_eq_true, Bool.not_eq_true, List.length_map, reduceCtorEq, not_false_eq_true, sat_ite, s_ok, q_eqS, q_neS, q_eqB, q_neB, i_bb, i_tt, i_ll, p_end, p_endN, ne_eq, rng0, Int.toNat_natCast, List.length_range, p_sumN, line, en]
  refine ⟨rOk_nat (by omega), ?_⟩
  refine loop_map (as := List.range (g.length + 1)) (e := nI) (fun i ρ => ∃ (f w : List Nat) (x5 x6 x7 x8 : Option D), ρ = [some (.list (g.map encP)), some (.list (ps.map nI)), some (nI p), some (.list (f.map nI)), some (.list (w.map nI)), x5, x6, x7, x8] ∧ Srch (tgOf g) ps p f w ∧ (w = [] ∨ i ≤ f.length) ∧ w.length ≤ f.length + 1)
    (fun ρ => ∃ (f : List Nat) (x4 x5 x6 x7 x8 : Option D), ρ = [some (.list (g.map encP)), some (.list (ps.map nI)), some (nI p), some (.list (f.map nI)), x4, x5, x6, x7, x8] ∧ Srch (tgOf g) ps p f []) ?_ ?_ ?_ ?_
  · exact ⟨[], [p], none, none, none, none, rfl, .start, .inr (Nat.zero_le _), by simp⟩
  · rintro i a ρ _ ⟨f, w, x5, x6, x7, x8, rfl, S, hi, hw⟩
    simp only [x_skip, x_seq, x_asg, x_aug, x_ex, x_ite, x_for, x_ret, x_brk, x_cnt, t_var, t_tup, t_tupL, t_nil, t_cons, t_sub, n_var, n_tup, n_nil, n_cons, c_cons', c_lst, c_neg, c_tup, e_nil, e_cons, e_var, e_lit, e_tup, e_lst, e_neg, e_not, e_bin, e_cmp, e_and, e_or, e_ite, e_sub, e_slc, e_call, e_bi, e_isi, e_app, e_pop, e_comp, e_dcomp, i_sat, g_zero, g_succ, z_zero, z_succ, wipe_nil, wipe_cons, p_add, p_sub, p_mul, p_fdiv, p_mod, p_pow, p_addL, p_addT, p_auga, p_augs, q_lt, q_le, q_gt, q_ge, q_isN, q_isnotN, q_in, q_notin, q_in_ints, p_len, p_lenT, p_lenS, p_list, p_listT, p_int, p_intB, p_abs, p_range, p_range2, p_all, p_any, p_sum, p_gcd, p_append, p_items, p_itemsT, p_itemsS, p_subL, p_subT, at0, at1, at2, truth_b, lt_zero, lt_succ, ln_cons, ln_nil, p_slc, p_putL, true_and, and_true, decide_eq_true_eq, m_on, q_eqI, q_neI, Option.some.injEq, exists_eq_left', exists_eq_left, if_true, if_false, eq_self, Bool.false_eq_true, Bool.not_eq_true, List.length_map, reduceCtorEq, not_false_eq_true, sat_ite, s_ok, q_eqS, q_neS, q_eqB, q_neB, i_bb, i_tt, i_ll, p_end, p_endN, ne_eq, rng0, Int.toNat_natCast, List.length_range, p_sumN, line]
    have sl := S.len
    refine loop_map (as := w) (e := nI) (fun i ρ => ∃ (new : List Nat) (x7 x8 : Option D), ρ = [some (.list (g.map encP)), some (.list (ps.map nI)), some (nI p), some (.list (f.map nI)), some (.list (w.map nI)), some (nI a), some (.list (new.map nI)), x7, x8] ∧ Lvl (tgOf g) ps f w new i)
      (fun ρ => ∃ (new : List Nat) (x7 x8 : Option D), ρ = [some (.list (g.map encP)), some (.list (ps.map nI)), some (nI p), some (.list (f.map nI)), some (.list (w.map nI)), some (nI a), some (.list (new.map nI)), x7, x8] ∧ Lvl (tgOf g) ps f w new w.length) ?_ ?_ ?_ ?_
    · exact ⟨[], x7, x8, rfl, by rw [List.append_nil]; exact S.nd, fun b h => (by cases h), fun b h => (by cases h), fun j a hj => absurd hj (Nat.not_lt_zero _)⟩
    · rintro i2 t ρ hi2 ⟨new, y7, y8, rfl, L⟩
      have tw : t ∈ w := List.mem_of_getElem? hi2
      have tl : t < g.length := by
        rcases S.wt t tw with rfl | h
        · exact hp
        · exact hps t (S.ps t h)
      have ea := atG (g := g) (i := (t : Int)) t rfl tl
      have et : g[t].tg = tgOf g t := (tgOf_at tl).symm
      simp only [x_skip, x_seq, x_asg, x_aug, x_ex, x_ite, x_for, x_ret, x_brk, x_cnt, t_var, t_tup, t_tupL, t_nil, t_cons, t_sub, n_var, n_tup, n_nil, n_cons, c_cons', c_lst, c_neg, c_tup, e_nil, e_cons, e_var, e_lit, e_tup, e_lst, e_neg, e_not, e_bin, e_cmp, e_and, e_or, e_ite, e_sub, e_slc, e_call, e_bi, e_isi, e_app, e_pop, e_comp, e_dcomp, i_sat, g_zero, g_succ, z_zero, z_succ, wipe_nil, wipe_cons, p_add, p_sub, p_mul, p_fdiv, p_mod, p_pow, p_addL, p_addT, p_auga, p_augs, q_lt, q_le, q_gt, q_ge, q_isN, q_isnotN, q_in, q_notin, q_in_ints, p_len, p_lenT, p_lenS, p_list, p_listT, p_int, p_intB, p_abs, p_range, p_range2, p_all, p_any, p_sum, p_gcd, p_append, p_items, p_itemsT, p_itemsS, p_subL, p_subT, at0, at1, at2, truth_b, lt_zero, lt_succ, ln_cons, ln_nil, p_slc, p_putL, true_and, and_true, decide_eq_true_eq, m_on, q_eqI, q_neI, Option.some.injEq, exists_eq_left', exists_eq_left, if_true, if_false, eq_self, Bool.false_eq_true, Bool.not_eq_true, List.length_map, reduceCtorEq, not_false_eq_true, sat_ite, s_ok, q_eqS, q_neS, q_eqB, q_neB, i_bb, i_tt, i_ll, p_end, p_endN, ne_eq, rng0, Int.toNat_natCast, List.length_range, p_sumN, line, ea]
      refine (ht g[t] (hz _ (List.getElem_mem tl))).imp fun d e => ?_
      subst e
      rw [et]
      simp only [x_skip, x_seq, x_asg, x_aug, x_ex, x_ite, x_for, x_ret, x_brk, x_cnt, t_var, t_tup, t_tupL, t_nil, t_cons, t_sub, n_var, n_tup, n_nil, n_cons, c_cons', c_lst, c_neg, c_tup, e_nil, e_cons, e_var, e_lit, e_tup, e_lst, e_neg, e_not, e_bin, e_cmp, e_and, e_or, e_ite, e_sub, e_slc, e_call, e_bi, e_isi, e_app, e_pop, e_comp, e_dcomp, i_sat, g_zero, g_succ, z_zero, z_succ, wipe_nil, wipe_cons, p_add, p_sub, p_mul, p_fdiv, p_mod, p_pow, p_addL, p_addT, p_auga, p_augs, q_lt, q_le, q_gt, q_ge, q_isN, q_isnotN, q_in, q_notin, q_in_ints, p_len, p_lenT, p_lenS, p_list, p_listT, p_int, p_intB, p_abs, p_range, p_range2, p_all, p_any, p_sum, p_gcd, p_append, p_items, p_itemsT, p_itemsS, p_subL, p_subT, at0, at1, at2, truth_b, lt_zero, lt_succ, ln_cons, ln_nil, p_slc, p_putL, true_and, and_true, decide_eq_true_eq, m_on, q_eqI, q_neI, Option.some.injEq, exists_eq_left', exists_eq_left, if_true, if_false, eq_self, Bool.false_eq_true, Bool.not_eq_true, List.length_map, reduceCtorEq, not_false_eq_true, sat_ite, s_ok, q_eqS, q_neS, q_eqB, q_neB, i_bb, i_tt, i_ll, p_end, p_endN, ne_eq, rng0, Int.toNat_natCast, List.length_range, p_sumN, line]
      refine loop_map (as := tgOf g t) (e := nI) (fun m ρ => ∃ (new : List Nat) (x8 : Option D), ρ = [some (.list (g.map encP)), some (.list (ps.map nI)), some (nI p), some (.list (f.map nI)), some (.list (w.map nI)), some (nI a), some (.list (new.map nI)), some (nI t), x8] ∧ LvlT (tgOf g) ps f w new i2 t m)
        (fun ρ => ∃ (new : List Nat) (x8 : Option D), ρ = [some (.list (g.map encP)), some (.list (ps.map nI)), some (nI p), some (.list (f.map nI)), some (.list (w.map nI)), some (nI a), some (.list (new.map nI)), some (nI t), x8] ∧ LvlT (tgOf g) ps f w new i2 t (tgOf g t).length) ?_ ?_ ?_ ?_
      · exact ⟨new, y8, rfl, L, fun j b hj => absurd hj (Nat.not_lt_zero _)⟩
      · rintro m b ρ hm ⟨new, z8, rfl, T⟩
        simp only [x_skip, x_seq, x_asg, x_aug, x_ex, x_ite, x_for, x_ret, x_brk, x_cnt, t_var, t_tup, t_tupL, t_nil, t_cons, t_sub, n_var, n_tup, n_nil, n_cons, c_cons', c_lst, c_neg, c_tup, e_nil, e_cons, e_var, e_lit, e_tup, e_lst, e_neg, e_not, e_bin, e_cmp, e_and, e_or, e_ite, e_sub, e_slc, e_call, e_bi, e_isi, e_app, e_pop, e_comp, e_dcomp, i_sat, g_zero, g_succ, z_zero, z_succ, wipe_nil, wipe_cons, p_add, p_sub, p_mul, p_fdiv, p_mod, p_pow, p_addL, p_addT, p_auga, p_augs, q_lt, q_le, q_gt, q_ge, q_isN, q_isnotN, q_in, q_notin, q_in_ints, p_len, p_lenT, p_lenS, p_list, p_listT, p_int, p_intB, p_abs, p_range, p_range2, p_all, p_any, p_sum, p_gcd, p_append, p_items, p_itemsT, p_itemsS, p_subL, p_subT, at0, at1, at2, truth_b, lt_zero, lt_succ, ln_cons, ln_nil, p_slc, p_putL, true_and, and_true, decide_eq_true_eq, m_on, q_eqI, q_neI, Option.some.injEq, exists_eq_left', exists_eq_left, if_true, if_false, eq_self, Bool.false_eq_true, Bool.not_eq_true, List.length_map, reduceCtorEq, not_false_eq_true, sat_ite, s_ok, q_eqS, q_neS, q_eqB, q_neB, i_bb, i_tt, i_ll, p_end, p_endN, ne_eq, rng0, Int.toNat_natCast, List.length_range, p_sumN, line, q_in_nat, q_notin_nat]
        by_cases h1 : b ∈ ps
        · rw [if_pos h1]
          by_cases h2 : b ∈ f
          · rw [if_neg (by rw [decide_eq_true h2]; simp)]
            rw [if_neg (by rw [decide_eq_true h2]; simp)]
            exact ⟨new, _, rfl, T.skip hm fun _ => List.mem_append_left _ h2⟩
          · rw [if_pos (by rw [decide_eq_false h2]; rfl)]
            by_cases h3 : b ∈ new
            · rw [if_neg (by rw [decide_eq_true h3]; simp)]
              exact ⟨new, _, rfl, T.skip hm fun _ => List.mem_append_right _ h3⟩
            · rw [if_pos (by rw [decide_eq_false h3]; rfl)]
              have nn : b ∉ f ++ new := fun h => (List.mem_append.mp h).elim h2 h3
              have l1 := nodup_len T.lv.nd fun a ha => by
                rcases List.mem_append.mp ha with h | h
                · exact S.ps a h
                · exact T.lv.sb a h
              rw [List.length_append] at l1
              exact ⟨by omega, new ++ [b], _, by rw [app_nI], T.add tw hm h1 nn⟩
        · rw [if_neg h1, if_neg h1]
          exact ⟨new, _, rfl, T.skip hm fun h => absurd h h1⟩
      · exact fun ρ h => h
      · rintro ρ ⟨new, z8, rfl, T⟩
        exact ⟨new, _, _, rfl, T.done hi2⟩
    · exact fun ρ h => h
    · rintro ρ ⟨new, y7, y8, rfl, L⟩
      have S2 := S.level L
      have l2 := S2.len
      rw [List.length_append] at l2
      simp only [x_skip, x_seq, x_asg, x_aug, x_ex, x_ite, x_for, x_ret, x_brk, x_cnt, t_var, t_tup, t_tupL, t_nil, t_cons, t_sub, n_var, n_tup, n_nil, n_cons, c_cons', c_lst, c_neg, c_tup, e_nil, e_cons, e_var, e_lit, e_tup, e_lst, e_neg, e_not, e_bin, e_cmp, e_and, e_or, e_ite, e_sub, e_slc, e_call, e_bi, e_isi, e_app, e_pop, e_comp, e_dcomp, i_sat, g_zero, g_succ, z_zero, z_succ, wipe_nil, wipe_cons, p_add, p_sub, p_mul, p_fdiv, p_mod, p_pow, p_addL, p_addT, p_auga, p_augs, q_lt, q_le, q_gt, q_ge, q_isN, q_isnotN, q_in, q_notin, q_in_ints, p_len, p_lenT, p_lenS, p_list, p_listT, p_int, p_intB, p_abs, p_range, p_range2, p_all, p_any, p_sum, p_gcd, p_append, p_items, p_itemsT, p_itemsS, p_subL, p_subT, at0, at1, at2, truth_b, lt_zero, lt_succ, ln_cons, ln_nil, p_slc, p_putL, true_and, and_true, decide_eq_true_eq, m_on, q_eqI, q_neI, Option.some.injEq, exists_eq_left', exists_eq_left, if_true, if_false, eq_self, Bool.false_eq_true, Bool.not_eq_true, List.length_map, reduceCtorEq, not_false_eq_true, sat_ite, s_ok, q_eqS, q_neS, q_eqB, q_neB, i_bb, i_tt, i_ll, p_end, p_endN, ne_eq, rng0, Int.toNat_natCast, List.length_range, p_sumN, line]
      refine ⟨by omega, f ++ new, new, _, _, _, _, by rw [app_map], S2, ?_, ?_⟩
      · rcases hi with rfl | hi
        · left
          cases new with
          | nil => rfl
          | cons b r => obtain ⟨a, ha, _⟩ := L.fr b List.mem_cons_self; cases ha
        · cases new with
          | nil => exact .inl rfl
          | cons b r => right; rw [List.length_append, List.length_cons]; omega
      · rw [List.length_append]; omega
  · rintro ρ ⟨f, w, x5, x6, x7, x8, rfl, S, hi, hw⟩
    have sl := S.len
    rw [List.length_range] at hi
    have : w = [] := by
      rcases hi with h | h
      · exact h
      · omega
    subst this
    exact ⟨f, _, _, _, _, _, rfl, S⟩
  · rintro ρ ⟨f, x4, x5, x6, x7, x8, rfl, S⟩
    simp only [x_skip, x_seq, x_asg, x_aug, x_ex, x_ite, x_for, x_ret, x_brk, x_cnt, t_var, t_tup, t_tupL, t_nil, t_cons, t_sub, n_var, n_tup, n_nil, n_cons, c_cons', c_lst, c_neg, c_tup, e_nil, e_cons, e_var, e_lit, e_tup, e_lst, e_neg, e_not, e_bin, e_cmp, e_and, e_or, e_ite, e_sub, e_slc, e_call, e_bi, e_isi, e_app, e_pop, e_comp, e_dcomp, i_sat, g_zero, g_succ, z_zero, z_succ, wipe_nil, wipe_cons, p_add, p_sub, p_mul, p_fdiv, p_mod, p_pow, p_addL, p_addT, p_auga, p_augs, q_lt, q_le, q_gt, q_ge, q_isN, q_isnotN, q_in, q_notin, q_in_ints, p_len, p_lenT, p_lenS, p_list, p_listT, p_int, p_intB, p_abs, p_range, p_range2, p_all, p_any, p_sum, p_gcd, p_append, p_items, p_itemsT, p_itemsS, p_subL, p_subT, at0, at1, at2, truth_b, lt_zero, lt_succ, ln_cons, ln_nil, p_slc, p_putL, true_and, and_true, decide_eq_true_eq, m_on, q_eqI, q_neI, Option.some.injEq, exists_eq_left', exists_eq_left, if_true, if_false, eq_self, Bool.false_eq_true, Bool.not_eq_true, List.length_map, reduceCtorEq, not_false_eq_true, sat_ite, s_ok, q_eqS, q_neS, q_eqB, q_neB, i_bb, i_tt, i_ll, p_end, p_endN, ne_eq, rng0, Int.toNat_natCast, List.length_range, p_sumN, line, srt_nI (cl_perm (nd_of ha) S.nd S.fin) (cl_asc ha)]
def AftOk (Φ : Calls) (f : Nat) : Prop := ∀ (g : List Pl) (p : Nat) (ps : List Nat), (∀ q ∈ g, q.tg.length ≤ 1000) → p < g.length → (∀ k ∈ ps, k < g.length) → ps.Pairwise (· < ·) → ps.length ≤ g.length → g.length ≤ 1000 → (Φ f [.list (g.map encP), .list (ps.map nI), nI p]).sat fun d => d = .list ((cl g ps p).map nI)
theorem q_eqNil {as : List Nat} {B : Bool → Prop} : (cmpD .eq (.list (as.map nI)) (.list [])).sat B = B (decide (as = [])) := q_eqN (bs := [])
theorem sp_lcompany {Φ : Calls} {c0 c1 : Nat} (hk : LKeptOk Φ c0) (hb : AftOk Φ c1) {g : List Pl} {ps : List Nat} (hz : ∀ p ∈ g, 1 ≤ p.tg.length ∧ p.tg.length ≤ 1000) (hps : ∀ k ∈ ps, k < g.length) (ha : ps.Pairwise (· < ·)) (hl : ps.length ≤ g.length) (hg : g.length ≤ 1000) : (runFn Φ ⟨2, 3, aLCompany c0 c1⟩ [.list (g.map encP), .list (ps.map nI)]).sat fun d => d = .bool (compB g ps) := by
  rw [run_eq]
  refine ⟨⟨rfl, by decide⟩, ?_⟩
  show (exec Φ (aLCompany c0 c1) [some (.list (g.map encP)), some (.list (ps.map nI)), none]).sat _ _ _ _
  unfold aLCompany
  simp only [x_skip, x_seq, x_asg, x_aug, x_ex, x_ite, x_for, x_ret, x_brk, x_cnt, t_var, t_tup, t_tupL, t_nil, t_cons, t_sub, n_var, n_tup, n_nil, n_cons, c_cons', c_lst, c_neg, c_tup, e_nil, e_cons, e_var, e_lit, e_tup, e_lst, e_neg, e_not, e_bin, e_cmp, e_and, e_or, e_ite, e_sub, e_slc, e_call, e_bi, e_isi, e_app, e_pop, e_comp, e_dcomp, i_sat, g_zero, g_succ, z_zero, z_succ, wipe_nil, wipe_cons, p_add, p_sub, p_mul, p_fdiv, p_mod, p_pow, p_addL, p_addT, p_auga, p_augs, q_lt, q_le, q_gt, q_ge, q_isN, q_isnotN, q_in, q_notin, q_in_ints, p_len, p_lenT, p_lenS, p_list, p_listT, p_int, p_intB, p_abs, p_range, p_range2, p_all, p_any, p_sum, p_gcd, p_append, p_items, p_itemsT, p_itemsS, p_subL, p_subT, at0, at1, at2, truth_b, lt_zero, lt_succ, ln_cons, ln_nil, p_slc, p_putL, true_and, and_true, decide_eq_true_eq, m_on, q_eqI, q_neI, Option.some.injEq, exists_eq_left', exists_eq_left, if_true, if_false, eq_self, Bool.false_eq_true, Bool.not_eq_true, List.length_map, reduceCtorEq, not_false_eq_true, sat_ite, s_ok, q_eqS, q_neS, q_eqB, q_neB, i_bb, i_tt, i_ll, p_end, p_endN, ne_eq, rng0, Int.toNat_natCast, List.length_range, p_sumN, line, q_eqNil]
  unfold compB
  by_cases h0 : ps = []
  · subst h0
    simp
  · simp only [h0, if_false]
    refine (hk g ps hz hps).imp fun d e => ?_
    subst e
    have hd : decide (ps ≠ []) = true := by simp [h0]
    simp only [x_skip, x_seq, x_asg, x_aug, x_ex, x_ite, x_for, x_ret, x_brk, x_cnt, t_var, t_tup, t_tupL, t_nil, t_cons, t_sub, n_var, n_tup, n_nil, n_cons, c_cons', c_lst, c_neg, c_tup, e_nil, e_cons, e_var, e_lit, e_tup, e_lst, e_neg, e_not, e_bin, e_cmp, e_and, e_or, e_ite, e_sub, e_slc, e_call, e_bi, e_isi, e_app, e_pop, e_comp, e_dcomp, i_sat, g_zero, g_succ, z_zero, z_succ, wipe_nil, wipe_cons, p_add, p_sub, p_mul, p_fdiv, p_mod, p_pow, p_addL, p_addT, p_auga, p_augs, q_lt, q_le, q_gt, q_ge, q_isN, q_isnotN, q_in, q_notin, q_in_ints, p_len, p_lenT, p_lenS, p_list, p_listT, p_int, p_intB, p_abs, p_range, p_range2, p_all, p_any, p_sum, p_gcd, p_append, p_items, p_itemsT, p_itemsS, p_subL, p_subT, at0, at1, at2, truth_b, lt_zero, lt_succ, ln_cons, ln_nil, p_slc, p_putL, true_and, and_true, decide_eq_true_eq, m_on, q_eqI, q_neI, Option.some.injEq, exists_eq_left', exists_eq_left, if_true, if_false, eq_self, Bool.false_eq_true, Bool.not_eq_true, List.length_map, reduceCtorEq, not_false_eq_true, sat_ite, s_ok, q_eqS, q_neS, q_eqB, q_neB, i_bb, i_tt, i_ll, p_end, p_endN, ne_eq, rng0, Int.toNat_natCast, List.length_range, p_sumN, line, truth]
    by_cases h1 : keptB g ps = true
    · simp only [h1, Bool.not_true, Bool.false_eq_true, if_false]
      refine ⟨by omega, fm_map (as := ps) (ea := nI) (eb := D.bool) (fun p => decide (cl g ps p = ps)) (fun p hp => ?_) ?_⟩
      · simp only [x_skip, x_seq, x_asg, x_aug, x_ex, x_ite, x_for, x_ret, x_brk, x_cnt, t_var, t_tup, t_tupL, t_nil, t_cons, t_sub, n_var, n_tup, n_nil, n_cons, c_cons', c_lst, c_neg, c_tup, e_nil, e_cons, e_var, e_lit, e_tup, e_lst, e_neg, e_not, e_bin, e_cmp, e_and, e_or, e_ite, e_sub, e_slc, e_call, e_bi, e_isi, e_app, e_pop, e_comp, e_dcomp, i_sat, g_zero, g_succ, z_zero, z_succ, wipe_nil, wipe_cons, p_add, p_sub, p_mul, p_fdiv, p_mod, p_pow, p_addL, p_addT, p_auga, p_augs, q_lt, q_le, q_gt, q_ge, q_isN, q_isnotN, q_in, q_notin, q_in_ints, p_len, p_lenT, p_lenS, p_list, p_listT, p_int, p_intB, p_abs, p_range, p_range2, p_all, p_any, p_sum, p_gcd, p_append, p_items, p_itemsT, p_itemsS, p_subL, p_subT, at0, at1, at2, truth_b, lt_zero, lt_succ, ln_cons, ln_nil, p_slc, p_putL, true_and, and_true, decide_eq_true_eq, m_on, q_eqI, q_neI, Option.some.injEq, exists_eq_left', exists_eq_left, if_true, if_false, eq_self, Bool.false_eq_true, Bool.not_eq_true, List.length_map, reduceCtorEq, not_false_eq_true, sat_ite, s_ok, q_eqS, q_neS, q_eqB, q_neB, i_bb, i_tt, i_ll, p_end, p_endN, ne_eq, rng0, Int.toNat_natCast, List.length_range, p_sumN, line]
        refine (hb g p ps (fun q hq => (hz q hq).2) (hps p hp) hps ha hl hg).imp fun d e => ?_
        subst e
        simp only [x_skip, x_seq, x_asg, x_aug, x_ex, x_ite, x_for, x_ret, x_brk, x_cnt, t_var, t_tup, t_tupL, t_nil, t_cons, t_sub, n_var, n_tup, n_nil, n_cons, c_cons', c_lst, c_neg, c_tup, e_nil, e_cons, e_var, e_lit, e_tup, e_lst, e_neg, e_not, e_bin, e_cmp, e_and, e_or, e_ite, e_sub, e_slc, e_call, e_bi, e_isi, e_app, e_pop, e_comp, e_dcomp, i_sat, g_zero, g_succ, z_zero, z_succ, wipe_nil, wipe_cons, p_add, p_sub, p_mul, p_fdiv, p_mod, p_pow, p_addL, p_addT, p_auga, p_augs, q_lt, q_le, q_gt, q_ge, q_isN, q_isnotN, q_in, q_notin, q_in_ints, p_len, p_lenT, p_lenS, p_list, p_listT, p_int, p_intB, p_abs, p_range, p_range2, p_all, p_any, p_sum, p_gcd, p_append, p_items, p_itemsT, p_itemsS, p_subL, p_subT, at0, at1, at2, truth_b, lt_zero, lt_succ, ln_cons, ln_nil, p_slc, p_putL, true_and, and_true, decide_eq_true_eq, m_on, q_eqI, q_neI, Option.some.injEq, exists_eq_left', exists_eq_left, if_true, if_false, eq_self, Bool.false_eq_true, Bool.not_eq_true, List.length_map, reduceCtorEq, not_false_eq_true, sat_ite, s_ok, q_eqS, q_neS, q_eqB, q_neB, i_bb, i_tt, i_ll, p_end, p_endN, ne_eq, rng0, Int.toNat_natCast, List.length_range, p_sumN, line, srt_nI (.refl ps) ha, q_eqN]
      simp only [x_skip, x_seq, x_asg, x_aug, x_ex, x_ite, x_for, x_ret, x_brk, x_cnt, t_var, t_tup, t_tupL, t_nil, t_cons, t_sub, n_var, n_tup, n_nil, n_cons, c_cons', c_lst, c_neg, c_tup, e_nil, e_cons, e_var, e_lit, e_tup, e_lst, e_neg, e_not, e_bin, e_cmp, e_and, e_or, e_ite, e_sub, e_slc, e_call, e_bi, e_isi, e_app, e_pop, e_comp, e_dcomp, i_sat, g_zero, g_succ, z_zero, z_succ, wipe_nil, wipe_cons, p_add, p_sub, p_mul, p_fdiv, p_mod, p_pow, p_addL, p_addT, p_auga, p_augs, q_lt, q_le, q_gt, q_ge, q_isN, q_isnotN, q_in, q_notin, q_in_ints, p_len, p_lenT, p_lenS, p_list, p_listT, p_int, p_intB, p_abs, p_range, p_range2, p_all, p_any, p_sum, p_gcd, p_append, p_items, p_itemsT, p_itemsS, p_subL, p_subT, at0, at1, at2, truth_b, lt_zero, lt_succ, ln_cons, ln_nil, p_slc, p_putL, true_and, and_true, decide_eq_true_eq, m_on, q_eqI, q_neI, Option.some.injEq, exists_eq_left', exists_eq_left, if_true, if_false, eq_self, Bool.false_eq_true, Bool.not_eq_true, List.length_map, reduceCtorEq, not_false_eq_true, sat_ite, s_ok, q_eqS, q_neS, q_eqB, q_neB, i_bb, i_tt, i_ll, p_end, p_endN, ne_eq, rng0, Int.toNat_natCast, List.length_range, p_sumN, line, Bool.true_and]
      simp [h0]
    · have h2 : keptB g ps = false := by simpa using h1
      simp [h2]
/-- all parts of a list -/
theorem sp_lists {Φ : Calls} {ps : List Nat} (hl : ps.length ≤ 20) : (runFn Φ ⟨1, 4, aLLists⟩ [.list (ps.map nI)]).sat fun d => ∃ L : List (List Nat), d = .list (L.map fun l => .list (l.map nI)) ∧ (∀ l ∈ L, l.Sublist ps) ∧ L.length = 2 ^ ps.length := by
  rw [run_eq]
  refine ⟨⟨rfl, by decide⟩, ?_⟩
  show (exec Φ aLLists [some (.list (ps.map nI)), none, none, none]).sat _ _ _ _
  unfold aLLists
  simp only [x_skip, x_seq, x_asg, x_aug, x_ex, x_ite, x_for, x_ret, x_brk, x_cnt, t_var, t_tup, t_tupL, t_nil, t_cons, t_sub, n_var, n_tup, n_nil, n_cons, c_cons', c_lst, c_neg, c_tup, e_nil, e_cons, e_var, e_lit, e_tup, e_lst, e_neg, e_not, e_bin, e_cmp, e_and, e_or, e_ite, e_sub, e_slc, e_call, e_bi, e_isi, e_app, e_pop, e_comp, e_dcomp, i_sat, g_zero, g_succ, z_zero, z_succ, wipe_nil, wipe_cons, p_add, p_sub, p_mul, p_fdiv, p_mod, p_pow, p_addL, p_addT, p_auga, p_augs, q_lt, q_le, q_gt, q_ge, q_isN, q_isnotN, q_in, q_notin, q_in_ints, p_len, p_lenT, p_lenS, p_list, p_listT, p_int, p_intB, p_abs, p_range, p_range2, p_all, p_any, p_sum, p_gcd, p_append, p_items, p_itemsT, p_itemsS, p_subL, p_subT, at0, at1, at2, truth_b, lt_zero, lt_succ, ln_cons, ln_nil, p_slc, p_putL, true_and, and_true, decide_eq_true_eq, m_on, q_eqI, q_neI, Option.some.injEq, exists_eq_left', exists_eq_left, if_true, if_false, eq_self, Bool.false_eq_true, Bool.not_eq_true, List.length_map, reduceCtorEq, not_false_eq_true, sat_ite, s_ok, q_eqS, q_neS, q_eqB, q_neB, i_bb, i_tt, i_ll, p_end, p_endN, ne_eq, rng0, Int.toNat_natCast, List.length_range, p_sumN, line]
  refine loop_map (fun i ρ => ∃ (L : List (List Nat)) (x2 x3 : Option D), ρ = [some (.list (ps.map nI)), some (.list (L.map fun l => .list (l.map nI))), x2, x3] ∧ (∀ l ∈ L, l.Sublist (ps.take i)) ∧ L.length = 2 ^ i)
    (fun ρ => ∃ (L : List (List Nat)) (x2 x3 : Option D), ρ = [some (.list (ps.map nI)), some (.list (L.map fun l => .list (l.map nI))), x2, x3] ∧ (∀ l ∈ L, l.Sublist ps) ∧ L.length = 2 ^ ps.length) ?_ ?_ ?_ ?_
  · exact ⟨[[]], _, _, rfl, fun l h => by rw [List.mem_singleton] at h; subst h; exact List.nil_sublist _, rfl⟩
  · rintro i k ρ hi ⟨L, x2, x3, rfl, h1, h2⟩
    have hi2 : i < ps.length := (List.getElem?_eq_some_iff.mp hi).1
    have hp : 2 ^ (i + 1) ≤ 2 ^ 20 := Nat.pow_le_pow_right (by decide) (by omega)
    have hp2 : (2 : Nat) ^ 20 = 1048576 := by decide
    have hp3 : 2 ^ (i + 1) = 2 ^ i * 2 := Nat.pow_succ ..
    simp only [x_skip, x_seq, x_asg, x_aug, x_ex, x_ite, x_for, x_ret, x_brk, x_cnt, t_var, t_tup, t_tupL, t_nil, t_cons, t_sub, n_var, n_tup, n_nil, n_cons, c_cons', c_lst, c_neg, c_tup, e_nil, e_cons, e_var, e_lit, e_tup, e_lst, e_neg, e_not, e_bin, e_cmp, e_and, e_or, e_ite, e_sub, e_slc, e_call, e_bi, e_isi, e_app, e_pop, e_comp, e_dcomp, i_sat, g_zero, g_succ, z_zero, z_succ, wipe_nil, wipe_cons, p_add, p_sub, p_mul, p_fdiv, p_mod, p_pow, p_addL, p_addT, p_auga, p_augs, q_lt, q_le, q_gt, q_ge, q_isN, q_isnotN, q_in, q_notin, q_in_ints, p_len, p_lenT, p_lenS, p_list, p_listT, p_int, p_intB, p_abs, p_range, p_range2, p_all, p_any, p_sum, p_gcd, p_append, p_items, p_itemsT, p_itemsS, p_subL, p_subT, at0, at1, at2, truth_b, lt_zero, lt_succ, ln_cons, ln_nil, p_slc, p_putL, true_and, and_true, decide_eq_true_eq, m_on, q_eqI, q_neI, Option.some.injEq, exists_eq_left', exists_eq_left, if_true, if_false, eq_self, Bool.false_eq_true, Bool.not_eq_true, List.length_map, reduceCtorEq, not_false_eq_true, sat_ite, s_ok, q_eqS, q_neS, q_eqB, q_neB, i_bb, i_tt, i_ll, p_end, p_endN, ne_eq, rng0, Int.toNat_natCast, List.length_range, p_sumN, line]
    refine ⟨by omega, fm_map (as := L) (ea := fun l : List Nat => .list (l.map nI)) (eb := fun l : List Nat => .list (l.map nI)) (fun l => l ++ [k]) (fun l hl2 => ?_) ?_⟩
    · have := (h1 l hl2).length_le
      rw [List.length_take] at this
      simp only [x_skip, x_seq, x_asg, x_aug, x_ex, x_ite, x_for, x_ret, x_brk, x_cnt, t_var, t_tup, t_tupL, t_nil, t_cons, t_sub, n_var, n_tup, n_nil, n_cons, c_cons', c_lst, c_neg, c_tup, e_nil, e_cons, e_var, e_lit, e_tup, e_lst, e_neg, e_not, e_bin, e_cmp, e_and, e_or, e_ite, e_sub, e_slc, e_call, e_bi, e_isi, e_app, e_pop, e_comp, e_dcomp, i_sat, g_zero, g_succ, z_zero, z_succ, wipe_nil, wipe_cons, p_add, p_sub, p_mul, p_fdiv, p_mod, p_pow, p_addL, p_addT, p_auga, p_augs, q_lt, q_le, q_gt, q_ge, q_isN, q_isnotN, q_in, q_notin, q_in_ints, p_len, p_lenT, p_lenS, p_list, p_listT, p_int, p_intB, p_abs, p_range, p_range2, p_all, p_any, p_sum, p_gcd, p_append, p_items, p_itemsT, p_itemsS, p_subL, p_subT, at0, at1, at2, truth_b, lt_zero, lt_succ, ln_cons, ln_nil, p_slc, p_putL, true_and, and_true, decide_eq_true_eq, m_on, q_eqI, q_neI, Option.some.injEq, exists_eq_left', exists_eq_left, if_true, if_false, eq_self, Bool.false_eq_true, Bool.not_eq_true, List.length_map, reduceCtorEq, not_false_eq_true, sat_ite, s_ok, q_eqS, q_neS, q_eqB, q_neB, i_bb, i_tt, i_ll, p_end, p_endN, ne_eq, rng0, Int.toNat_natCast, List.length_range, p_sumN, line]
      exact ⟨by simp only [List.length_cons, List.length_nil]; omega, by rw [app_nI]⟩
    · simp only [List.length_map]
      refine ⟨by omega, L ++ L.map (fun l => l ++ [k]), _, _, by rw [List.map_append], fun l hl2 => ?_, ?_⟩
      · have et : ps.take (i + 1) = ps.take i ++ [k] := by rw [List.take_add_one, hi]; rfl
        rw [et]
        rcases List.mem_append.mp hl2 with h | h
        · exact (h1 l h).trans (List.sublist_append_left _ _)
        · obtain ⟨l', h', rfl⟩ := List.mem_map.mp h
          exact (h1 l' h').append (.refl _)
      · rw [List.length_append, List.length_map, h2, hp3]; omega
  · rintro ρ ⟨L, x2, x3, rfl, h1, h2⟩
    exact ⟨L, _, _, rfl, by simpa using h1, h2⟩
  · rintro ρ ⟨L, x2, x3, rfl, h1, h2⟩
    simp only [x_skip, x_seq, x_asg, x_aug, x_ex, x_ite, x_for, x_ret, x_brk, x_cnt, t_var, t_tup, t_tupL, t_nil, t_cons, t_sub, n_var, n_tup, n_nil, n_cons, c_cons', c_lst, c_neg, c_tup, e_nil, e_cons, e_var, e_lit, e_tup, e_lst, e_neg, e_not, e_bin, e_cmp, e_and, e_or, e_ite, e_sub, e_slc, e_call, e_bi, e_isi, e_app, e_pop, e_comp, e_dcomp, i_sat, g_zero, g_succ, z_zero, z_succ, wipe_nil, wipe_cons, p_add, p_sub, p_mul, p_fdiv, p_mod, p_pow, p_addL, p_addT, p_auga, p_augs, q_lt, q_le, q_gt, q_ge, q_isN, q_isnotN, q_in, q_notin, q_in_ints, p_len, p_lenT, p_lenS, p_list, p_listT, p_int, p_intB, p_abs, p_range, p_range2, p_all, p_any, p_sum, p_gcd, p_append, p_items, p_itemsT, p_itemsS, p_subL, p_subT, at0, at1, at2, truth_b, lt_zero, lt_succ, ln_cons, ln_nil, p_slc, p_putL, true_and, and_true, decide_eq_true_eq, m_on, q_eqI, q_neI, Option.some.injEq, exists_eq_left', exists_eq_left, if_true, if_false, eq_self, Bool.false_eq_true, Bool.not_eq_true, List.length_map, reduceCtorEq, not_false_eq_true, sat_ite, s_ok, q_eqS, q_neS, q_eqB, q_neB, i_bb, i_tt, i_ll, p_end, p_endN, ne_eq, rng0, Int.toNat_natCast, List.length_range, p_sumN, line]
    exact ⟨L, rfl, h1, h2⟩
end Rf
end

section
/-! templates of the laws' helpers: the numbers of the defs they call are arguments. -/
namespace Rf
open PySem
/-- rounds_out calls fits -/
def aRounds (c0 : Nat) : S := (.seq (.asg (.var 2) (.comp [6] (.var 6) (.var 0) (.lit (.bool true)) (.lit .none))) (.seq (.asg (.var 3) (.bi .list (.cons (.var 1) .nil))) (.seq (.asg (.var 4) (.lit (.int (1)))) (.seq (.wh (.lit (.bool true)) (.seq (.asg (.var 5) (.comp [6] (.var 6) (.var 3) (.not (.call c0 (.cons (.var 0) (.cons (.var 6) (.cons (.var 3) .nil))))) (.var 6))) (.seq (.ite (.not (.var 5)) (.seq (.ret (.var 2)) .skip) .skip) (.seq (.for_ (.var 6) (.var 5) (.seq (.asg (.sub (.var 2) (.var 6)) (.var 4)) .skip)) (.seq (.asg (.var 3) (.comp [6] (.var 6) (.var 3) (.cmp .notin (.var 6) (.var 5)) (.var 6))) (.seq (.aug 4 .add (.lit (.int (1)))) .skip)))))) .skip))))
/-- staying calls rounds_out -/
def aStaying (c0 : Nat) : S := (.seq (.asg (.var 2) (.call c0 (.cons (.var 0) (.cons (.var 1) .nil)))) (.seq (.ret (.comp [3] (.var 3) (.var 1) (.cmp .is (.sub (.var 2) (.var 3)) (.lit .none)) (.var 3))) .skip))
/-- _law_rounds calls _law_targets -/
def aLRounds (c0 : Nat) : S := (.seq (.asg (.var 2) (.comp [8] (.var 8) (.var 0) (.lit (.bool true)) (.lit .none))) (.seq (.asg (.var 3) (.bi .list (.cons (.var 1) .nil))) (.seq (.for_ (.var 4) (.bi .range (.cons (.lit (.int (1))) (.cons (.bin .add (.bi .len (.cons (.var 0) .nil)) (.lit (.int (2)))) .nil))) (.seq (.asg (.var 5) (.lst .nil)) (.seq (.for_ (.var 6) (.var 3) (.seq (.asg (.var 7) (.comp [9] (.var 9) (.call c0 (.cons (.sub (.var 0) (.var 6)) .nil)) (.lit (.bool true)) (.bi .int (.cons (.cmp .isin (.var 9) (.var 3)) .nil)))) (.seq (.ite (.or (.cmp .eq (.bi .sum (.cons (.var 7) .nil)) (.lit (.int (0)))) (.and (.cmp .eq (.sub (.sub (.var 0) (.var 6)) (.lit (.int (1)))) (.lit (.str (Str.ofString "draw")))) (.cmp .lt (.bi .sum (.cons (.var 7) .nil)) (.bi .len (.cons (.var 7) .nil))))) (.seq (.ex (.mt .append (.var 5) (.cons (.var 6) .nil))) .skip) .skip) .skip))) (.seq (.for_ (.var 6) (.var 5) (.seq (.asg (.sub (.var 2) (.var 6)) (.var 4)) .skip)) (.seq (.asg (.var 3) (.comp [6] (.var 6) (.var 3) (.cmp .notin (.var 6) (.var 5)) (.var 6))) .skip))))) (.seq (.ret (.var 2)) .skip))))
end Rf
end

section
/-! Pm9: rounds in which places go out; what stays. -/
namespace Rf
open PySem
def oI : Option Nat → D
  | none => .none
  | some r => nI r
abbrev fitB (g : List Pl) (k : Nat) (left : List Nat) : Bool := fitsB (g.getD k (.side 0 true [])) left
def outs (g : List Pl) (left : List Nat) : List Nat := left.filterMap fun k => if fitB g k left = false then some k else none
def nextL (g : List Pl) (left : List Nat) : List Nat := left.filterMap fun k => if k ∉ outs g left then some k else none
def marked (f : List (Option Nat)) (out : List Nat) (r : Nat) : List (Option Nat) := out.foldl (fun f k => f.set k (some r)) f
/-- what is left and what is told behind i rounds -/
def stt (g : List Pl) (ps : List Nat) : Nat → List Nat × List (Option Nat)
  | 0 => (ps, List.replicate g.length none)
  | i + 1 => (nextL g (stt g ps i).1, marked (stt g ps i).2 (outs g (stt g ps i).1) (i + 1))
theorem mem_outs {g : List Pl} {left : List Nat} {k : Nat} : k ∈ outs g left ↔ k ∈ left ∧ fitB g k left = false := by
  unfold outs
  rw [List.mem_filterMap]
  constructor
  · rintro ⟨a, h1, h2⟩
    split at h2
    · rename_i h; cases h2; exact ⟨h1, h⟩
    · cases h2
  · rintro ⟨h1, h2⟩
    exact ⟨k, h1, by rw [if_pos h2]⟩
theorem mem_nextL {g : List Pl} {left : List Nat} {k : Nat} : k ∈ nextL g left ↔ k ∈ left ∧ fitB g k left = true := by
  unfold nextL
  rw [List.mem_filterMap]
  constructor
  · rintro ⟨a, h1, h2⟩
    split at h2
    · rename_i h; cases h2
      refine ⟨h1, ?_⟩
      rw [mem_outs] at h
      cases e : fitB g k left with
      | true => rfl
      | false => exact absurd ⟨h1, e⟩ h
    · cases h2
  · rintro ⟨h1, h2⟩
    exact ⟨k, h1, by rw [if_pos]; rw [mem_outs]; rintro ⟨_, h⟩; rw [h2] at h; cases h⟩
theorem filterMap_sub {f : Nat → Option Nat} (h : ∀ a b, f a = some b → b = a) : ∀ {l : List Nat}, (l.filterMap f).Sublist l
  | [] => .slnil
  | a :: r => by
    rw [List.filterMap_cons]
    cases e : f a with
    | none => exact (filterMap_sub h).cons a
    | some b => have := h a b e; subst this; exact (filterMap_sub h).cons_cons b
theorem nextL_sub {g : List Pl} {left : List Nat} : (nextL g left).Sublist left := filterMap_sub fun a b h => by
  split at h
  · cases h; rfl
  · cases h
theorem outs_sub {g : List Pl} {left : List Nat} : (outs g left).Sublist left := filterMap_sub fun a b h => by
  split at h
  · cases h; rfl
  · cases h
theorem nextL_lt {g : List Pl} {left : List Nat} (h : outs g left ≠ []) : (nextL g left).length < left.length := by
  have hs := nextL_sub (g := g) (left := left)
  rcases Nat.lt_or_eq_of_le hs.length_le with h1 | h1
  · exact h1
  · exfalso
    have e := hs.eq_of_length h1
    obtain ⟨k, hk⟩ := List.exists_mem_of_ne_nil _ h
    rw [mem_outs] at hk
    have : k ∈ nextL g left := by rw [e]; exact hk.1
    rw [mem_nextL] at this
    rw [this.2] at hk; cases hk.2
theorem nextL_same {g : List Pl} {left : List Nat} (h : outs g left = []) : nextL g left = left := by
  unfold nextL
  rw [h]
  simp
theorem marked_len : ∀ {out : List Nat} {f : List (Option Nat)} {r : Nat}, (marked f out r).length = f.length
  | [], _, _ => rfl
  | k :: o, f, r => by show (marked (f.set k (some r)) o r).length = _; rw [marked_len, List.length_set]
theorem marked_get {r : Nat} : ∀ {out : List Nat} {f : List (Option Nat)} {k : Nat}, k < f.length → (marked f out r)[k]? = if k ∈ out then some (some r) else f[k]?
  | [], _, _, _ => by simp [marked]
  | a :: o, f, k, hk => by
    show (marked (f.set a (some r)) o r)[k]? = _
    rw [marked_get (by rw [List.length_set]; exact hk)]
    by_cases h : k ∈ o
    · rw [if_pos h, if_pos (List.mem_cons_of_mem _ h)]
    · rw [if_neg h]
      by_cases e : k = a
      · subst e
        rw [if_pos List.mem_cons_self, List.getElem?_set_self hk]
      · rw [List.getElem?_set_ne (Ne.symm e), if_neg (by rw [List.mem_cons]; rintro (h1 | h1) <;> contradiction)]
theorem stt_len {g : List Pl} {ps : List Nat} : ∀ i, (stt g ps i).2.length = g.length
  | 0 => by simp [stt]
  | i + 1 => by simp only [stt, marked_len, stt_len i]
theorem stt_sub {g : List Pl} {ps : List Nat} : ∀ i, (stt g ps i).1.Sublist ps
  | 0 => .refl _
  | i + 1 => nextL_sub.trans (stt_sub i)
/-- nothing is told of those that are left -/
theorem stt_none {g : List Pl} {ps : List Nat} (hp : ∀ k ∈ ps, k < g.length) : ∀ (i k : Nat), k ∈ ps → ((stt g ps i).2[k]? = some none ↔ k ∈ (stt g ps i).1)
  | 0, k, hk => by simp [stt, hk, hp k hk]
  | i + 1, k, hk => by
    have ih := stt_none hp i k hk
    simp only [stt]
    rw [marked_get (by rw [stt_len]; exact hp k hk), mem_nextL]
    by_cases h : k ∈ outs g (stt g ps i).1
    · rw [if_pos h]
      rw [mem_outs] at h
      simp [h.2]
    · rw [if_neg h, ih]
      constructor
      · intro hl
        refine ⟨hl, ?_⟩
        cases e : fitB g k (stt g ps i).1 with
        | true => rfl
        | false => exact absurd (mem_outs.mpr ⟨hl, e⟩) h
      · exact fun hl => hl.1
theorem stt_stop {g : List Pl} {ps : List Nat} {t : Nat} (h : outs g (stt g ps t).1 = []) : ∀ j, stt g ps (t + j) = stt g ps t
  | 0 => rfl
  | j + 1 => by
    have ih := stt_stop h j
    show (nextL g (stt g ps (t + j)).1, marked (stt g ps (t + j)).2 (outs g (stt g ps (t + j)).1) (t + j + 1)) = _
    rw [ih, h, nextL_same h]
    rfl
theorem stt_dec {g : List Pl} {ps : List Nat} : ∀ {t : Nat}, (∀ i, i < t → outs g (stt g ps i).1 ≠ []) → (stt g ps t).1.length + t ≤ ps.length
  | 0, _ => Nat.le_refl _
  | t + 1, h => by
    have ih := stt_dec (t := t) fun i hi => h i (by omega)
    have := nextL_lt (h t (Nat.lt_succ_self t))
    show (nextL g (stt g ps t).1).length + (t + 1) ≤ _
    omega
/-- what stays in the end -/
def fin (g : List Pl) (ps : List Nat) : List Nat × List (Option Nat) := stt g ps (g.length + 1)
theorem fin_of {g : List Pl} {ps : List Nat} {t : Nat} (hl : ps.length ≤ g.length) (h1 : ∀ i, i < t → outs g (stt g ps i).1 ≠ []) (h2 : outs g (stt g ps t).1 = []) : stt g ps t = fin g ps := by
  have := stt_dec h1
  have e : g.length + 1 = t + (g.length + 1 - t) := by omega
  unfold fin
  rw [e, stt_stop h2]
theorem fin_out {g : List Pl} {ps : List Nat} (hl : ps.length ≤ g.length) : outs g (fin g ps).1 = [] := by
  -- the first round at which none goes out
  have ex : ∃ t, t ≤ ps.length ∧ (∀ i, i < t → outs g (stt g ps i).1 ≠ []) ∧ outs g (stt g ps t).1 = [] := by
    apply Classical.byContradiction
    intro hn
    have all : ∀ t, t ≤ ps.length + 1 → ∀ i, i < t → outs g (stt g ps i).1 ≠ [] := by
      intro t
      induction t with
      | zero => intro _ i hi; exact absurd hi (Nat.not_lt_zero _)
      | succ t ih =>
        intro ht i hi
        rcases Nat.lt_succ_iff_lt_or_eq.mp hi with h | rfl
        · exact ih (by omega) i h
        · intro e
          exact hn ⟨i, by omega, ih (by omega), e⟩
    have := stt_dec (all (ps.length + 1) (Nat.le_refl _))
    omega
  obtain ⟨t, _, h1, h2⟩ := ex
  rw [← fin_of hl h1 h2]; exact h2
theorem map_oI_set {f : List (Option Nat)} {k r : Nat} : (f.map oI).set k (nI r) = (f.set k (some r)).map oI := by rw [List.map_set]; rfl
theorem not_l {ws : List Nat} : (!truth (.list (ws.map nI))) = decide (ws = []) := by cases ws <;> simp [truth]
/-- rounds_out(game, places) -/
theorem sp_rounds {Φ : Calls} {c0 : Nat} (hf : FitsOk Φ c0) {g : List Pl} {ps : List Nat} (hz : ∀ p ∈ g, p.tg.length ≤ 1000) (hp : ∀ k ∈ ps, k < g.length) (hl : ps.length ≤ g.length) (hg : g.length ≤ 1000) : (runFn Φ ⟨2, 7, aRounds c0⟩ [.list (g.map encP), .list (ps.map nI)]).sat fun d => d = .list ((fin g ps).2.map oI) := by
  rw [run_eq]
  refine ⟨⟨rfl, by decide⟩, ?_⟩
  show (exec Φ (aRounds c0) [some (.list (g.map encP)), some (.list (ps.map nI)), none, none, none, none, none]).sat _ _ _ _
  unfold aRounds
  simp only [x_skip, x_seq, x_asg, x_aug, x_ex, x_ite, x_for, x_ret, x_brk, x_cnt, t_var, t_tup, t_tupL, t_nil, t_cons, t_sub, n_var, n_tup, n_nil, n_cons, c_cons', c_lst, c_neg, c_tup, e_nil, e_cons, e_var, e_lit, e_tup, e_lst, e_neg, e_not, e_bin, e_cmp, e_and, e_or, e_ite, e_sub, e_slc, e_call, e_bi, e_isi, e_app, e_pop, e_comp, e_dcomp, i_sat, g_zero, g_succ, z_zero, z_succ, wipe_nil, wipe_cons, p_add, p_sub, p_mul, p_fdiv, p_mod, p_pow, p_addL, p_addT, p_auga, p_augs, q_lt, q_le, q_gt, q_ge, q_isN, q_isnotN, q_in, q_notin, q_in_ints, p_len, p_lenT, p_lenS, p_list, p_listT, p_int, p_intB, p_abs, p_range, p_range2, p_all, p_any, p_sum, p_gcd, p_append, p_items, p_itemsT, p_itemsS, p_subL, p_subT, at0, at1, at2, truth_b, lt_zero, lt_succ, ln_cons, ln_nil, p_slc, p_putL, true_and, and_true, decide_eq_true_eq, m_on, q_eqI, q_neI, Option.some.injEq, exists_eq_left', exists_eq_left, if_true, if_false, eq_self, Bool.false_eq_true, Bool.not_eq_true, List.length_map, reduceCtorEq, not_false_eq_true, sat_ite, s_ok, q_eqS, q_neS, q_eqB, q_neB, i_bb, i_tt, i_ll, p_end, p_endN, ne_eq, rng0, Int.toNat_natCast, List.length_range, p_sumN, line, x_wh]
  refine ⟨by omega, fm_map (as := g) (ea := encP) (eb := oI) (fun _ => none) (fun p _ => ?_) ?_⟩
  · simp only [x_skip, x_seq, x_asg, x_aug, x_ex, x_ite, x_for, x_ret, x_brk, x_cnt, t_var, t_tup, t_tupL, t_nil, t_cons, t_sub, n_var, n_tup, n_nil, n_cons, c_cons', c_lst, c_neg, c_tup, e_nil, e_cons, e_var, e_lit, e_tup, e_lst, e_neg, e_not, e_bin, e_cmp, e_and, e_or, e_ite, e_sub, e_slc, e_call, e_bi, e_isi, e_app, e_pop, e_comp, e_dcomp, i_sat, g_zero, g_succ, z_zero, z_succ, wipe_nil, wipe_cons, p_add, p_sub, p_mul, p_fdiv, p_mod, p_pow, p_addL, p_addT, p_auga, p_augs, q_lt, q_le, q_gt, q_ge, q_isN, q_isnotN, q_in, q_notin, q_in_ints, p_len, p_lenT, p_lenS, p_list, p_listT, p_int, p_intB, p_abs, p_range, p_range2, p_all, p_any, p_sum, p_gcd, p_append, p_items, p_itemsT, p_itemsS, p_subL, p_subT, at0, at1, at2, truth_b, lt_zero, lt_succ, ln_cons, ln_nil, p_slc, p_putL, true_and, and_true, decide_eq_true_eq, m_on, q_eqI, q_neI, Option.some.injEq, exists_eq_left', exists_eq_left, if_true, if_false, eq_self, Bool.false_eq_true, Bool.not_eq_true, List.length_map, reduceCtorEq, not_false_eq_true, sat_ite, s_ok, q_eqS, q_neS, q_eqB, q_neB, i_bb, i_tt, i_ll, p_end, p_endN, ne_eq, rng0, Int.toNat_natCast, List.length_range, p_sumN, line]
    rfl
  have e0 : (g.map fun _ => (none : Option Nat)) = List.replicate g.length none := by rw [List.map_const']
  rw [e0]
  refine loopW_sat (fun k ρ => ∃ (i : Nat) (x5 x6 : Option D), ρ = [some (.list (g.map encP)), some (.list (ps.map nI)), some (.list ((stt g ps i).2.map oI)), some (.list ((stt g ps i).1.map nI)), some (nI (i + 1)), x5, x6] ∧ (∀ j, j < i → outs g (stt g ps j).1 ≠ []) ∧ k = (stt g ps i).1.length) ?_ wturns ps.length _ (by unfold wturns; omega) ⟨0, none, none, rfl, fun j h => absurd h (Nat.not_lt_zero _), rfl⟩
  rintro k ρ ⟨i, x5, x6, rfl, hi, hk⟩
  have hs := stt_sub (g := g) (ps := ps) i
  have hsl := hs.length_le
  have hin : ∀ k ∈ (stt g ps i).1, k < g.length := fun k h => hp k (hs.subset h)
  have hlen := stt_len (g := g) (ps := ps) i
  simp only [x_skip, x_seq, x_asg, x_aug, x_ex, x_ite, x_for, x_ret, x_brk, x_cnt, t_var, t_tup, t_tupL, t_nil, t_cons, t_sub, n_var, n_tup, n_nil, n_cons, c_cons', c_lst, c_neg, c_tup, e_nil, e_cons, e_var, e_lit, e_tup, e_lst, e_neg, e_not, e_bin, e_cmp, e_and, e_or, e_ite, e_sub, e_slc, e_call, e_bi, e_isi, e_app, e_pop, e_comp, e_dcomp, i_sat, g_zero, g_succ, z_zero, z_succ, wipe_nil, wipe_cons, p_add, p_sub, p_mul, p_fdiv, p_mod, p_pow, p_addL, p_addT, p_auga, p_augs, q_lt, q_le, q_gt, q_ge, q_isN, q_isnotN, q_in, q_notin, q_in_ints, p_len, p_lenT, p_lenS, p_list, p_listT, p_int, p_intB, p_abs, p_range, p_range2, p_all, p_any, p_sum, p_gcd, p_append, p_items, p_itemsT, p_itemsS, p_subL, p_subT, at0, at1, at2, truth_b, lt_zero, lt_succ, ln_cons, ln_nil, p_slc, p_putL, true_and, and_true, decide_eq_true_eq, m_on, q_eqI, q_neI, Option.some.injEq, exists_eq_left', exists_eq_left, if_true, if_false, eq_self, Bool.false_eq_true, Bool.not_eq_true, List.length_map, reduceCtorEq, not_false_eq_true, sat_ite, s_ok, q_eqS, q_neS, q_eqB, q_neB, i_bb, i_tt, i_ll, p_end, p_endN, ne_eq, rng0, Int.toNat_natCast, List.length_range, p_sumN, line]
  refine ⟨by omega, fm_filter (as := (stt g ps i).1) (ea := nI) (eb := nI) (fun k => if fitB g k (stt g ps i).1 = false then some k else none) (fun k hk2 => ?_) ?_⟩
  · simp only [x_skip, x_seq, x_asg, x_aug, x_ex, x_ite, x_for, x_ret, x_brk, x_cnt, t_var, t_tup, t_tupL, t_nil, t_cons, t_sub, n_var, n_tup, n_nil, n_cons, c_cons', c_lst, c_neg, c_tup, e_nil, e_cons, e_var, e_lit, e_tup, e_lst, e_neg, e_not, e_bin, e_cmp, e_and, e_or, e_ite, e_sub, e_slc, e_call, e_bi, e_isi, e_app, e_pop, e_comp, e_dcomp, i_sat, g_zero, g_succ, z_zero, z_succ, wipe_nil, wipe_cons, p_add, p_sub, p_mul, p_fdiv, p_mod, p_pow, p_addL, p_addT, p_auga, p_augs, q_lt, q_le, q_gt, q_ge, q_isN, q_isnotN, q_in, q_notin, q_in_ints, p_len, p_lenT, p_lenS, p_list, p_listT, p_int, p_intB, p_abs, p_range, p_range2, p_all, p_any, p_sum, p_gcd, p_append, p_items, p_itemsT, p_itemsS, p_subL, p_subT, at0, at1, at2, truth_b, lt_zero, lt_succ, ln_cons, ln_nil, p_slc, p_putL, true_and, and_true, decide_eq_true_eq, m_on, q_eqI, q_neI, Option.some.injEq, exists_eq_left', exists_eq_left, if_true, if_false, eq_self, Bool.false_eq_true, Bool.not_eq_true, List.length_map, reduceCtorEq, not_false_eq_true, sat_ite, s_ok, q_eqS, q_neS, q_eqB, q_neB, i_bb, i_tt, i_ll, p_end, p_endN, ne_eq, rng0, Int.toNat_natCast, List.length_range, p_sumN, line]
    refine (hf g k (stt g ps i).1 (hin k hk2) (hz _ (List.getElem_mem _))).imp fun d e => ?_
    subst e
    have ef : fitB g k (stt g ps i).1 = fitsB (g[k]'(hin k hk2)) (stt g ps i).1 := by unfold fitB; rw [getD_at (hin k hk2)]
    rw [← ef]
    simp only [truth]
    cases fitB g k (stt g ps i).1 <;> simp
  have eo : (stt g ps i).1.filterMap (fun k => if fitB g k (stt g ps i).1 = false then some k else none) = outs g (stt g ps i).1 := rfl
  rw [eo, not_l]
  by_cases ho : outs g (stt g ps i).1 = []
  · rw [if_pos (by simpa using ho)]
    rw [fin_of hl hi ho]
  · rw [if_neg (by simpa using ho)]
    have hos := outs_sub (g := g) (left := (stt g ps i).1)
    refine loop_map (fun m ρ => ∃ x6 : Option D, ρ = [some (.list (g.map encP)), some (.list (ps.map nI)), some (.list ((marked (stt g ps i).2 ((outs g (stt g ps i).1).take m) (i + 1)).map oI)), some (.list ((stt g ps i).1.map nI)), some (nI (i + 1)), some (.list ((outs g (stt g ps i).1).map nI)), x6])
      (fun ρ => ∃ x6 : Option D, ρ = [some (.list (g.map encP)), some (.list (ps.map nI)), some (.list ((stt g ps (i + 1)).2.map oI)), some (.list ((stt g ps i).1.map nI)), some (nI (i + 1)), some (.list ((outs g (stt g ps i).1).map nI)), x6]) ?_ ?_ ?_ ?_
    · exact ⟨x6, rfl⟩
    · rintro m a ρ hm ⟨y6, rfl⟩
      have ha : a < g.length := hin a (hos.subset (List.mem_of_getElem? hm))
      simp only [x_skip, x_seq, x_asg, x_aug, x_ex, x_ite, x_for, x_ret, x_brk, x_cnt, t_var, t_tup, t_tupL, t_nil, t_cons, t_sub, n_var, n_tup, n_nil, n_cons, c_cons', c_lst, c_neg, c_tup, e_nil, e_cons, e_var, e_lit, e_tup, e_lst, e_neg, e_not, e_bin, e_cmp, e_and, e_or, e_ite, e_sub, e_slc, e_call, e_bi, e_isi, e_app, e_pop, e_comp, e_dcomp, i_sat, g_zero, g_succ, z_zero, z_succ, wipe_nil, wipe_cons, p_add, p_sub, p_mul, p_fdiv, p_mod, p_pow, p_addL, p_addT, p_auga, p_augs, q_lt, q_le, q_gt, q_ge, q_isN, q_isnotN, q_in, q_notin, q_in_ints, p_len, p_lenT, p_lenS, p_list, p_listT, p_int, p_intB, p_abs, p_range, p_range2, p_all, p_any, p_sum, p_gcd, p_append, p_items, p_itemsT, p_itemsS, p_subL, p_subT, at0, at1, at2, truth_b, lt_zero, lt_succ, ln_cons, ln_nil, p_slc, p_putL, true_and, and_true, decide_eq_true_eq, m_on, q_eqI, q_neI, Option.some.injEq, exists_eq_left', exists_eq_left, if_true, if_false, eq_self, Bool.false_eq_true, Bool.not_eq_true, List.length_map, reduceCtorEq, not_false_eq_true, sat_ite, s_ok, q_eqS, q_neS, q_eqB, q_neB, i_bb, i_tt, i_ll, p_end, p_endN, ne_eq, rng0, Int.toNat_natCast, List.length_range, p_sumN, line, marked_len, hlen, ixN_nat ha, map_oI_set]
      refine ⟨some (nI a), ?_⟩
      have : marked (stt g ps i).2 ((outs g (stt g ps i).1).take (m + 1)) (i + 1) = (marked (stt g ps i).2 ((outs g (stt g ps i).1).take m) (i + 1)).set a (some (i + 1)) := by
        rw [List.take_add_one, hm]
        unfold marked
        rw [List.foldl_append]; rfl
      rw [this]
    · rintro ρ ⟨y6, rfl⟩
      exact ⟨y6, by rw [List.take_length]; rfl⟩
    · rintro ρ ⟨y6, rfl⟩
      simp only [x_skip, x_seq, x_asg, x_aug, x_ex, x_ite, x_for, x_ret, x_brk, x_cnt, t_var, t_tup, t_tupL, t_nil, t_cons, t_sub, n_var, n_tup, n_nil, n_cons, c_cons', c_lst, c_neg, c_tup, e_nil, e_cons, e_var, e_lit, e_tup, e_lst, e_neg, e_not, e_bin, e_cmp, e_and, e_or, e_ite, e_sub, e_slc, e_call, e_bi, e_isi, e_app, e_pop, e_comp, e_dcomp, i_sat, g_zero, g_succ, z_zero, z_succ, wipe_nil, wipe_cons, p_add, p_sub, p_mul, p_fdiv, p_mod, p_pow, p_addL, p_addT, p_auga, p_augs, q_lt, q_le, q_gt, q_ge, q_isN, q_isnotN, q_in, q_notin, q_in_ints, p_len, p_lenT, p_lenS, p_list, p_listT, p_int, p_intB, p_abs, p_range, p_range2, p_all, p_any, p_sum, p_gcd, p_append, p_items, p_itemsT, p_itemsS, p_subL, p_subT, at0, at1, at2, truth_b, lt_zero, lt_succ, ln_cons, ln_nil, p_slc, p_putL, true_and, and_true, decide_eq_true_eq, m_on, q_eqI, q_neI, Option.some.injEq, exists_eq_left', exists_eq_left, if_true, if_false, eq_self, Bool.false_eq_true, Bool.not_eq_true, List.length_map, reduceCtorEq, not_false_eq_true, sat_ite, s_ok, q_eqS, q_neS, q_eqB, q_neB, i_bb, i_tt, i_ll, p_end, p_endN, ne_eq, rng0, Int.toNat_natCast, List.length_range, p_sumN, line]
      refine ⟨by omega, fm_filter (as := (stt g ps i).1) (ea := nI) (eb := nI) (fun k => if k ∉ outs g (stt g ps i).1 then some k else none) (fun k _ => ?_) ?_⟩
      · simp only [x_skip, x_seq, x_asg, x_aug, x_ex, x_ite, x_for, x_ret, x_brk, x_cnt, t_var, t_tup, t_tupL, t_nil, t_cons, t_sub, n_var, n_tup, n_nil, n_cons, c_cons', c_lst, c_neg, c_tup, e_nil, e_cons, e_var, e_lit, e_tup, e_lst, e_neg, e_not, e_bin, e_cmp, e_and, e_or, e_ite, e_sub, e_slc, e_call, e_bi, e_isi, e_app, e_pop, e_comp, e_dcomp, i_sat, g_zero, g_succ, z_zero, z_succ, wipe_nil, wipe_cons, p_add, p_sub, p_mul, p_fdiv, p_mod, p_pow, p_addL, p_addT, p_auga, p_augs, q_lt, q_le, q_gt, q_ge, q_isN, q_isnotN, q_in, q_notin, q_in_ints, p_len, p_lenT, p_lenS, p_list, p_listT, p_int, p_intB, p_abs, p_range, p_range2, p_all, p_any, p_sum, p_gcd, p_append, p_items, p_itemsT, p_itemsS, p_subL, p_subT, at0, at1, at2, truth_b, lt_zero, lt_succ, ln_cons, ln_nil, p_slc, p_putL, true_and, and_true, decide_eq_true_eq, m_on, q_eqI, q_neI, Option.some.injEq, exists_eq_left', exists_eq_left, if_true, if_false, eq_self, Bool.false_eq_true, Bool.not_eq_true, List.length_map, reduceCtorEq, not_false_eq_true, sat_ite, s_ok, q_eqS, q_neS, q_eqB, q_neB, i_bb, i_tt, i_ll, p_end, p_endN, ne_eq, rng0, Int.toNat_natCast, List.length_range, p_sumN, line, q_in_nat]
        by_cases h : k ∈ outs g (stt g ps i).1
        · rw [if_neg (by rw [decide_eq_true h]; simp), if_neg (by simpa using h)]; rfl
        · rw [if_pos (by rw [decide_eq_false h]; rfl), if_pos h]; rfl
      refine ⟨(nextL g (stt g ps i).1).length, by rw [hk]; exact nextL_lt ho, i + 1, some (.list ((outs g (stt g ps i).1).map nI)), y6, ?_, fun j hj => ?_, rfl⟩
      · rfl
      · rcases Nat.lt_succ_iff_lt_or_eq.mp hj with h | rfl
        · exact hi j h
        · exact ho
def RndOk (Φ : Calls) (f : Nat) : Prop := ∀ (g : List Pl) (ps : List Nat), (∀ p ∈ g, p.tg.length ≤ 1000) → (∀ k ∈ ps, k < g.length) → ps.length ≤ g.length → g.length ≤ 1000 → (Φ f [.list (g.map encP), .list (ps.map nI)]).sat fun d => d = .list ((fin g ps).2.map oI)
/-- those that stay -/
def stays (g : List Pl) (ps : List Nat) : List Nat := ps.filterMap fun k => if (fin g ps).2[k]? = some none then some k else none
theorem at_oI {f : List (Option Nat)} {k : Nat} {o : Option Nat} (h : f[k]? = some o) : atL (f.map oI) (k : Int) = some (oI o) := by
  rw [atL_nat, List.getElem?_map, h]; rfl
theorem is_oI {o : Option Nat} {B : Bool → Prop} : (cmpD .is (oI o) .none).sat B = B (decide (o = none)) := by
  rw [q_isN]; cases o <;> simp [oI]
theorem sp_staying {Φ : Calls} {c0 : Nat} (hr : RndOk Φ c0) {g : List Pl} {ps : List Nat} (hz : ∀ p ∈ g, p.tg.length ≤ 1000) (hp : ∀ k ∈ ps, k < g.length) (hl : ps.length ≤ g.length) (hg : g.length ≤ 1000) : (runFn Φ ⟨2, 4, aStaying c0⟩ [.list (g.map encP), .list (ps.map nI)]).sat fun d => d = .list ((stays g ps).map nI) := by
  rw [run_eq]
  refine ⟨⟨rfl, by decide⟩, ?_⟩
  show (exec Φ (aStaying c0) [some (.list (g.map encP)), some (.list (ps.map nI)), none, none]).sat _ _ _ _
  unfold aStaying
  simp only [x_skip, x_seq, x_asg, x_aug, x_ex, x_ite, x_for, x_ret, x_brk, x_cnt, t_var, t_tup, t_tupL, t_nil, t_cons, t_sub, n_var, n_tup, n_nil, n_cons, c_cons', c_lst, c_neg, c_tup, e_nil, e_cons, e_var, e_lit, e_tup, e_lst, e_neg, e_not, e_bin, e_cmp, e_and, e_or, e_ite, e_sub, e_slc, e_call, e_bi, e_isi, e_app, e_pop, e_comp, e_dcomp, i_sat, g_zero, g_succ, z_zero, z_succ, wipe_nil, wipe_cons, p_add, p_sub, p_mul, p_fdiv, p_mod, p_pow, p_addL, p_addT, p_auga, p_augs, q_lt, q_le, q_gt, q_ge, q_isN, q_isnotN, q_in, q_notin, q_in_ints, p_len, p_lenT, p_lenS, p_list, p_listT, p_int, p_intB, p_abs, p_range, p_range2, p_all, p_any, p_sum, p_gcd, p_append, p_items, p_itemsT, p_itemsS, p_subL, p_subT, at0, at1, at2, truth_b, lt_zero, lt_succ, ln_cons, ln_nil, p_slc, p_putL, true_and, and_true, decide_eq_true_eq, m_on, q_eqI, q_neI, Option.some.injEq, exists_eq_left', exists_eq_left, if_true, if_false, eq_self, Bool.false_eq_true, Bool.not_eq_true, List.length_map, reduceCtorEq, not_false_eq_true, sat_ite, s_ok, q_eqS, q_neS, q_eqB, q_neB, i_bb, i_tt, i_ll, p_end, p_endN, ne_eq, rng0, Int.toNat_natCast, List.length_range, p_sumN, line]
  refine (hr g ps hz hp hl hg).imp fun d e => ?_
  subst e
  refine ⟨by omega, fm_filter (as := ps) (ea := nI) (eb := nI) (fun k => if (fin g ps).2[k]? = some none then some k else none) (fun k hk => ?_) rfl⟩
  have hlen : (fin g ps).2.length = g.length := stt_len _
  obtain ⟨o, ho⟩ : ∃ o, (fin g ps).2[k]? = some o := ⟨_, List.getElem?_eq_getElem (by rw [hlen]; exact hp k hk)⟩
  simp only [x_skip, x_seq, x_asg, x_aug, x_ex, x_ite, x_for, x_ret, x_brk, x_cnt, t_var, t_tup, t_tupL, t_nil, t_cons, t_sub, n_var, n_tup, n_nil, n_cons, c_cons', c_lst, c_neg, c_tup, e_nil, e_cons, e_var, e_lit, e_tup, e_lst, e_neg, e_not, e_bin, e_cmp, e_and, e_or, e_ite, e_sub, e_slc, e_call, e_bi, e_isi, e_app, e_pop, e_comp, e_dcomp, i_sat, g_zero, g_succ, z_zero, z_succ, wipe_nil, wipe_cons, p_add, p_sub, p_mul, p_fdiv, p_mod, p_pow, p_addL, p_addT, p_auga, p_augs, q_lt, q_le, q_gt, q_ge, q_isN, q_isnotN, q_in, q_notin, q_in_ints, p_len, p_lenT, p_lenS, p_list, p_listT, p_int, p_intB, p_abs, p_range, p_range2, p_all, p_any, p_sum, p_gcd, p_append, p_items, p_itemsT, p_itemsS, p_subL, p_subT, at0, at1, at2, truth_b, lt_zero, lt_succ, ln_cons, ln_nil, p_slc, p_putL, true_and, and_true, decide_eq_true_eq, m_on, q_eqI, q_neI, Option.some.injEq, exists_eq_left', exists_eq_left, if_true, if_false, eq_self, Bool.false_eq_true, Bool.not_eq_true, List.length_map, reduceCtorEq, not_false_eq_true, sat_ite, s_ok, q_eqS, q_neS, q_eqB, q_neB, i_bb, i_tt, i_ll, p_end, p_endN, ne_eq, rng0, Int.toNat_natCast, List.length_range, p_sumN, line, at_oI ho, is_oI, ho]
  cases o with
  | none => simp [oI]
  | some r => simp [oI]
theorem mem_stays {g : List Pl} {ps : List Nat} (hp : ∀ k ∈ ps, k < g.length) {k : Nat} : k ∈ stays g ps ↔ k ∈ (fin g ps).1 := by
  unfold stays
  rw [List.mem_filterMap]
  have hs := stt_sub (g := g) (ps := ps) (g.length + 1)
  constructor
  · rintro ⟨a, h1, h2⟩
    split at h2
    · rename_i h; cases h2; exact (stt_none hp _ k h1).mp h
    · cases h2
  · intro h
    have hk := hs.subset h
    exact ⟨k, hk, by rw [if_pos (show (fin g ps).2[k]? = some none from (stt_none hp _ k hk).mpr h)]⟩
/-- more places: more fits -/
theorem fitsB_mono {p : Pl} {a b : List Nat} (h : ∀ k ∈ a, k ∈ b) (hf : fitsB p a = true) : fitsB p b = true := by
  unfold fitsB at *
  split
  · rename_i hd
    rw [if_pos hd] at hf
    simp only [List.all_map, List.all_eq_true, Function.comp, id, decide_eq_true_eq] at hf ⊢
    exact fun t ht => h t (hf t ht)
  · rename_i hd
    rw [if_neg hd] at hf
    simp only [List.any_map, List.any_eq_true, Function.comp, id, decide_eq_true_eq] at hf ⊢
    obtain ⟨t, h1, h2⟩ := hf
    exact ⟨t, h1, h t h2⟩
theorem kept_iff {g : List Pl} {ps : List Nat} : keptB g ps = true ↔ ∀ k ∈ ps, fitB g k ps = true := by
  unfold keptB
  simp only [List.all_map, List.all_eq_true, Function.comp, id]
/-- a part that can be kept stays -/
theorem kept_stays {g : List Pl} {ps q : List Nat} (hq : ∀ k ∈ q, k ∈ ps) (hk : keptB g q = true) : ∀ (i k : Nat), k ∈ q → k ∈ (stt g ps i).1
  | 0, k, h => hq k h
  | i + 1, k, h => by
    have ih := kept_stays hq hk i
    show k ∈ nextL g (stt g ps i).1
    rw [mem_nextL]
    exact ⟨ih k h, fitsB_mono ih (kept_iff.mp hk k h)⟩
theorem stays_kept {g : List Pl} {ps : List Nat} (hp : ∀ k ∈ ps, k < g.length) (hl : ps.length ≤ g.length) : keptB g (stays g ps) = true := by
  rw [kept_iff]
  intro k hk
  have h1 := (mem_stays hp).mp hk
  have ho := fin_out (g := g) hl
  have h2 : fitB g k (fin g ps).1 = true := by
    cases e : fitB g k (fin g ps).1 with
    | true => rfl
    | false =>
      have : k ∈ outs g (fin g ps).1 := mem_outs.mpr ⟨h1, e⟩
      rw [ho] at this; cases this
  exact fitsB_mono (fun j hj => (mem_stays hp).mpr hj) h2
/-- _law_rounds(game, places) -/
theorem sp_lrounds {Φ : Calls} {c0 : Nat} (ht : LTgOk Φ c0) {g : List Pl} {ps : List Nat} (hz : ∀ p ∈ g, 1 ≤ p.tg.length ∧ p.tg.length ≤ 1000) (hp : ∀ k ∈ ps, k < g.length) (hl : ps.length ≤ g.length) (hg : g.length ≤ 1000) : (runFn Φ ⟨2, 10, aLRounds c0⟩ [.list (g.map encP), .list (ps.map nI)]).sat fun d => d = .list ((fin g ps).2.map oI) := by
  rw [run_eq]
  refine ⟨⟨rfl, by decide⟩, ?_⟩
  show (exec Φ (aLRounds c0) [some (.list (g.map encP)), some (.list (ps.map nI)), none, none, none, none, none, none, none, none]).sat _ _ _ _
  unfold aLRounds
  simp only [x_skip, x_seq, x_asg, x_aug, x_ex, x_ite, x_for, x_ret, x_brk, x_cnt, t_var, t_tup, t_tupL, t_nil, t_cons, t_sub, n_var, n_tup, n_nil, n_cons, c_cons', c_lst, c_neg, c_tup, e_nil, e_cons, e_var, e_lit, e_tup, e_lst, e_neg, e_not, e_bin, e_cmp, e_and, e_or, e_ite, e_sub, e_slc, e_call, e_bi, e_isi, e_app, e_pop, e_comp, e_dcomp, i_sat, g_zero, g_succ, z_zero, z_succ, wipe_nil, wipe_cons, p_add, p_sub, p_mul, p_fdiv, p_mod, p_pow, p_addL, p_addT, p_auga, p_augs, q_lt, q_le, q_gt, q_ge, q_isN, q_isnotN, q_in, q_notin, q_in_ints, p_len, p_lenT, p_lenS, p_list, p_listT, p_int, p_intB, p_abs, p_range, p_range2, p_all, p_any, p_sum, p_gcd, p_append, p_items, p_itemsT, p_itemsS, p_subL, p_subT, at0, at1, at2, truth_b, lt_zero, lt_succ, ln_cons, ln_nil, p_slc, p_putL, true_and, and_true, decide_eq_true_eq, m_on, q_eqI, q_neI, Option.some.injEq, exists_eq_left', exists_eq_left, if_true, if_false, eq_self, Bool.false_eq_true, Bool.not_eq_true, List.length_map, reduceCtorEq, not_false_eq_true, sat_ite, s_ok, q_eqS, q_neS, q_eqB, q_neB, i_bb, i_tt, i_ll, p_end, p_endN, ne_eq, rng0, Int.toNat_natCast, List.length_range, p_sumN, line]
  refine ⟨by omega, fm_map (as := g) (ea := encP) (eb := oI) (fun _ => none) (fun p _ => ?_) ?_⟩
  · simp only [x_skip, x_seq, x_asg, x_aug, x_ex, x_ite, x_for, x_ret, x_brk, x_cnt, t_var, t_tup, t_tupL, t_nil, t_cons, t_sub, n_var, n_tup, n_nil, n_cons, c_cons', c_lst, c_neg, c_tup, e_nil, e_cons, e_var, e_lit, e_tup, e_lst, e_neg, e_not, e_bin, e_cmp, e_and, e_or, e_ite, e_sub, e_slc, e_call, e_bi, e_isi, e_app, e_pop, e_comp, e_dcomp, i_sat, g_zero, g_succ, z_zero, z_succ, wipe_nil, wipe_cons, p_add, p_sub, p_mul, p_fdiv, p_mod, p_pow, p_addL, p_addT, p_auga, p_augs, q_lt, q_le, q_gt, q_ge, q_isN, q_isnotN, q_in, q_notin, q_in_ints, p_len, p_lenT, p_lenS, p_list, p_listT, p_int, p_intB, p_abs, p_range, p_range2, p_all, p_any, p_sum, p_gcd, p_append, p_items, p_itemsT, p_itemsS, p_subL, p_subT, at0, at1, at2, truth_b, lt_zero, lt_succ, ln_cons, ln_nil, p_slc, p_putL, true_and, and_true, decide_eq_true_eq, m_on, q_eqI, q_neI, Option.some.injEq, exists_eq_left', exists_eq_left, if_true, if_false, eq_self, Bool.false_eq_true, Bool.not_eq_true, List.length_map, reduceCtorEq, not_false_eq_true, sat_ite, s_ok, q_eqS, q_neS, q_eqB, q_neB, i_bb, i_tt, i_ll, p_end, p_endN, ne_eq, rng0, Int.toNat_natCast, List.length_range, p_sumN, line]
    rfl
  have e0 : (g.map fun _ => (none : Option Nat)) = List.replicate g.length none := by rw [List.map_const']
  rw [e0]
  have er : ((g.length : Int) + 2 - 1).toNat = g.length + 1 := by omega
  rw [er]
  refine ⟨by simp only [rOk, Bool.and_eq_true, decide_eq_true_eq]; omega, ?_⟩
  refine loop_rng (fun i ρ => ∃ (x4 x5 x6 x7 x8 x9 : Option D), ρ = [some (.list (g.map encP)), some (.list (ps.map nI)), some (.list ((stt g ps i).2.map oI)), some (.list ((stt g ps i).1.map nI)), x4, x5, x6, x7, x8, x9])
    (fun ρ => ∃ (x3 x4 x5 x6 x7 x8 x9 : Option D), ρ = [some (.list (g.map encP)), some (.list (ps.map nI)), some (.list ((fin g ps).2.map oI)), x3, x4, x5, x6, x7, x8, x9]) ⟨_, _, _, _, _, _, rfl⟩ ?_ ?_ ?_
  · rintro i ρ hi ⟨x4, x5, x6, x7, x8, x9, rfl⟩
    have hs := stt_sub (g := g) (ps := ps) i
    have hsl := hs.length_le
    have hin : ∀ k ∈ (stt g ps i).1, k < g.length := fun k h => hp k (hs.subset h)
    have hlen := stt_len (g := g) (ps := ps) i
    simp only [x_skip, x_seq, x_asg, x_aug, x_ex, x_ite, x_for, x_ret, x_brk, x_cnt, t_var, t_tup, t_tupL, t_nil, t_cons, t_sub, n_var, n_tup, n_nil, n_cons, c_cons', c_lst, c_neg, c_tup, e_nil, e_cons, e_var, e_lit, e_tup, e_lst, e_neg, e_not, e_bin, e_cmp, e_and, e_or, e_ite, e_sub, e_slc, e_call, e_bi, e_isi, e_app, e_pop, e_comp, e_dcomp, i_sat, g_zero, g_succ, z_zero, z_succ, wipe_nil, wipe_cons, p_add, p_sub, p_mul, p_fdiv, p_mod, p_pow, p_addL, p_addT, p_auga, p_augs, q_lt, q_le, q_gt, q_ge, q_isN, q_isnotN, q_in, q_notin, q_in_ints, p_len, p_lenT, p_lenS, p_list, p_listT, p_int, p_intB, p_abs, p_range, p_range2, p_all, p_any, p_sum, p_gcd, p_append, p_items, p_itemsT, p_itemsS, p_subL, p_subT, at0, at1, at2, truth_b, lt_zero, lt_succ, ln_cons, ln_nil, p_slc, p_putL, true_and, and_true, decide_eq_true_eq, m_on, q_eqI, q_neI, Option.some.injEq, exists_eq_left', exists_eq_left, if_true, if_false, eq_self, Bool.false_eq_true, Bool.not_eq_true, List.length_map, reduceCtorEq, not_false_eq_true, sat_ite, s_ok, q_eqS, q_neS, q_eqB, q_neB, i_bb, i_tt, i_ll, p_end, p_endN, ne_eq, rng0, Int.toNat_natCast, List.length_range, p_sumN, line]
    generalize hL : (stt g ps i).1 = L at hsl hin
    refine loop_map (as := L) (e := nI) (fun m ρ => ∃ (x6 x7 x8 x9 : Option D), ρ = [some (.list (g.map encP)), some (.list (ps.map nI)), some (.list ((stt g ps i).2.map oI)), some (.list (L.map nI)), some (.int (1 + i)), some (.list (((L.take m).filterMap fun k => if fitB g k L = false then some k else none).map nI)), x6, x7, x8, x9])
      (fun ρ => ∃ (x6 x7 x8 x9 : Option D), ρ = [some (.list (g.map encP)), some (.list (ps.map nI)), some (.list ((stt g ps i).2.map oI)), some (.list (L.map nI)), some (.int (1 + i)), some (.list ((outs g L).map nI)), x6, x7, x8, x9]) ⟨_, _, _, _, rfl⟩ ?_ ?_ ?_
    · rintro m k ρ hm ⟨y6, y7, y8, y9, rfl⟩
      have hk := hin k (List.mem_of_getElem? hm)
      have ea := atG (g := g) (i := (k : Int)) k rfl hk
      obtain ⟨s, mk, bb, es, hsd⟩ := kind_at (p := g[k])
      have hz1 := hz g[k] (List.getElem_mem hk)
      have et : (L.take (m + 1)).filterMap (fun k => if fitB g k L = false then some k else none) = (L.take m).filterMap (fun k => if fitB g k L = false then some k else none) ++ (if fitB g k L = false then [k] else []) := by
        rw [List.take_add_one, hm, List.filterMap_append]
        congr 1
        show List.filterMap _ [k] = _
        rw [List.filterMap_cons]
        by_cases hf : fitB g k L = false
        · rw [if_pos hf, if_pos hf]; rfl
        · rw [if_neg hf, if_neg hf]; rfl
      have hol : ((L.take m).filterMap (fun k => if fitB g k L = false then some k else none)).length ≤ L.length := by
        refine Nat.le_trans (List.length_filterMap_le _ _) ?_
        rw [List.length_take]; exact Nat.min_le_right _ _
      rw [et]
      generalize hO : (L.take m).filterMap (fun k => if fitB g k L = false then some k else none) = O at hol
      simp only [x_skip, x_seq, x_asg, x_aug, x_ex, x_ite, x_for, x_ret, x_brk, x_cnt, t_var, t_tup, t_tupL, t_nil, t_cons, t_sub, n_var, n_tup, n_nil, n_cons, c_cons', c_lst, c_neg, c_tup, e_nil, e_cons, e_var, e_lit, e_tup, e_lst, e_neg, e_not, e_bin, e_cmp, e_and, e_or, e_ite, e_sub, e_slc, e_call, e_bi, e_isi, e_app, e_pop, e_comp, e_dcomp, i_sat, g_zero, g_succ, z_zero, z_succ, wipe_nil, wipe_cons, p_add, p_sub, p_mul, p_fdiv, p_mod, p_pow, p_addL, p_addT, p_auga, p_augs, q_lt, q_le, q_gt, q_ge, q_isN, q_isnotN, q_in, q_notin, q_in_ints, p_len, p_lenT, p_lenS, p_list, p_listT, p_int, p_intB, p_abs, p_range, p_range2, p_all, p_any, p_sum, p_gcd, p_append, p_items, p_itemsT, p_itemsS, p_subL, p_subT, at0, at1, at2, truth_b, lt_zero, lt_succ, ln_cons, ln_nil, p_slc, p_putL, true_and, and_true, decide_eq_true_eq, m_on, q_eqI, q_neI, Option.some.injEq, exists_eq_left', exists_eq_left, if_true, if_false, eq_self, Bool.false_eq_true, Bool.not_eq_true, List.length_map, reduceCtorEq, not_false_eq_true, sat_ite, s_ok, q_eqS, q_neS, q_eqB, q_neB, i_bb, i_tt, i_ll, p_end, p_endN, ne_eq, rng0, Int.toNat_natCast, List.length_range, p_sumN, line, ea]
      refine (ht g[k] hz1.2).imp fun d e => ?_
      subst e
      simp only [x_skip, x_seq, x_asg, x_aug, x_ex, x_ite, x_for, x_ret, x_brk, x_cnt, t_var, t_tup, t_tupL, t_nil, t_cons, t_sub, n_var, n_tup, n_nil, n_cons, c_cons', c_lst, c_neg, c_tup, e_nil, e_cons, e_var, e_lit, e_tup, e_lst, e_neg, e_not, e_bin, e_cmp, e_and, e_or, e_ite, e_sub, e_slc, e_call, e_bi, e_isi, e_app, e_pop, e_comp, e_dcomp, i_sat, g_zero, g_succ, z_zero, z_succ, wipe_nil, wipe_cons, p_add, p_sub, p_mul, p_fdiv, p_mod, p_pow, p_addL, p_addT, p_auga, p_augs, q_lt, q_le, q_gt, q_ge, q_isN, q_isnotN, q_in, q_notin, q_in_ints, p_len, p_lenT, p_lenS, p_list, p_listT, p_int, p_intB, p_abs, p_range, p_range2, p_all, p_any, p_sum, p_gcd, p_append, p_items, p_itemsT, p_itemsS, p_subL, p_subT, at0, at1, at2, truth_b, lt_zero, lt_succ, ln_cons, ln_nil, p_slc, p_putL, true_and, and_true, decide_eq_true_eq, m_on, q_eqI, q_neI, Option.some.injEq, exists_eq_left', exists_eq_left, if_true, if_false, eq_self, Bool.false_eq_true, Bool.not_eq_true, List.length_map, reduceCtorEq, not_false_eq_true, sat_ite, s_ok, q_eqS, q_neS, q_eqB, q_neB, i_bb, i_tt, i_ll, p_end, p_endN, ne_eq, rng0, Int.toNat_natCast, List.length_range, p_sumN, line]
      refine ⟨by omega, fm_map (as := g[k].tg) (ea := nI) (eb := D.int) (fun t => if t ∈ L then 1 else 0) (fun t _ => ?_) ?_⟩
      · simp only [x_skip, x_seq, x_asg, x_aug, x_ex, x_ite, x_for, x_ret, x_brk, x_cnt, t_var, t_tup, t_tupL, t_nil, t_cons, t_sub, n_var, n_tup, n_nil, n_cons, c_cons', c_lst, c_neg, c_tup, e_nil, e_cons, e_var, e_lit, e_tup, e_lst, e_neg, e_not, e_bin, e_cmp, e_and, e_or, e_ite, e_sub, e_slc, e_call, e_bi, e_isi, e_app, e_pop, e_comp, e_dcomp, i_sat, g_zero, g_succ, z_zero, z_succ, wipe_nil, wipe_cons, p_add, p_sub, p_mul, p_fdiv, p_mod, p_pow, p_addL, p_addT, p_auga, p_augs, q_lt, q_le, q_gt, q_ge, q_isN, q_isnotN, q_in, q_notin, q_in_ints, p_len, p_lenT, p_lenS, p_list, p_listT, p_int, p_intB, p_abs, p_range, p_range2, p_all, p_any, p_sum, p_gcd, p_append, p_items, p_itemsT, p_itemsS, p_subL, p_subT, at0, at1, at2, truth_b, lt_zero, lt_succ, ln_cons, ln_nil, p_slc, p_putL, true_and, and_true, decide_eq_true_eq, m_on, q_eqI, q_neI, Option.some.injEq, exists_eq_left', exists_eq_left, if_true, if_false, eq_self, Bool.false_eq_true, Bool.not_eq_true, List.length_map, reduceCtorEq, not_false_eq_true, sat_ite, s_ok, q_eqS, q_neS, q_eqB, q_neB, i_bb, i_tt, i_ll, p_end, p_endN, ne_eq, rng0, Int.toNat_natCast, List.length_range, p_sumN, line, q_in_nat]
      have em : (g[k].tg.map fun t => if t ∈ L then (1 : Int) else 0) = ((g[k].tg.map fun t => decide (t ∈ L)).map fun b => if b = true then (1 : Int) else 0) := by rw [List.map_map]; apply List.map_congr_left; intro t _; by_cases h : t ∈ L <;> simp [h]
      have el : (g[k].tg.length : Int) = ((g[k].tg.map fun t => decide (t ∈ L)).length : Nat) := by rw [List.length_map]
      have c0 := cnt_zero (g[k].tg.map fun t => decide (t ∈ L))
      have c1 := cnt_len (g[k].tg.map fun t => decide (t ∈ L))
      rw [← em] at c0 c1
      rw [← el] at c1
      simp only [x_skip, x_seq, x_asg, x_aug, x_ex, x_ite, x_for, x_ret, x_brk, x_cnt, t_var, t_tup, t_tupL, t_nil, t_cons, t_sub, n_var, n_tup, n_nil, n_cons, c_cons', c_lst, c_neg, c_tup, e_nil, e_cons, e_var, e_lit, e_tup, e_lst, e_neg, e_not, e_bin, e_cmp, e_and, e_or, e_ite, e_sub, e_slc, e_call, e_bi, e_isi, e_app, e_pop, e_comp, e_dcomp, i_sat, g_zero, g_succ, z_zero, z_succ, wipe_nil, wipe_cons, p_add, p_sub, p_mul, p_fdiv, p_mod, p_pow, p_addL, p_addT, p_auga, p_augs, q_lt, q_le, q_gt, q_ge, q_isN, q_isnotN, q_in, q_notin, q_in_ints, p_len, p_lenT, p_lenS, p_list, p_listT, p_int, p_intB, p_abs, p_range, p_range2, p_all, p_any, p_sum, p_gcd, p_append, p_items, p_itemsT, p_itemsS, p_subL, p_subT, at0, at1, at2, truth_b, lt_zero, lt_succ, ln_cons, ln_nil, p_slc, p_putL, true_and, and_true, decide_eq_true_eq, m_on, q_eqI, q_neI, Option.some.injEq, exists_eq_left', exists_eq_left, if_true, if_false, eq_self, Bool.false_eq_true, Bool.not_eq_true, List.length_map, reduceCtorEq, not_false_eq_true, sat_ite, s_ok, q_eqS, q_neS, q_eqB, q_neB, i_bb, i_tt, i_ll, p_end, p_endN, ne_eq, rng0, Int.toNat_natCast, List.length_range, p_sumN, line, ea, es, hsd, c0, c1]
      have fb : fitB g k L = fitsB g[k] L := by unfold fitB; rw [getD_at hk]
      rw [fb]
      have al : (g[k].tg.map fun t => decide (t ∈ L)).any id = false → (g[k].tg.map fun t => decide (t ∈ L)).all id = false := fun h => by
        cases e : g[k].tg with
        | nil => rw [e] at hz1; exact absurd hz1.1 (by simp)
        | cons t r => rw [e] at h; simp at h; simp; intro h2; exact absurd h2 h.1
      have yes : fitsB g[k] L = false → O.length < 16777216 ∧ ∃ x6 x7 x8 x9 : Option D, [some (D.list (g.map encP)), some (D.list (ps.map nI)), some (D.list ((stt g ps i).2.map oI)), some (D.list (L.map nI)), some (D.int (1 + i)), some (D.list (O.map nI ++ [nI k])), some (nI k), some (D.list ((g[k].tg.map fun t => if t ∈ L then (1 : Int) else 0).map D.int)), y8, y9] = [some (D.list (g.map encP)), some (D.list (ps.map nI)), some (D.list ((stt g ps i).2.map oI)), some (D.list (L.map nI)), some (D.int (1 + i)), some (D.list ((O ++ (if fitsB g[k] L = false then [k] else [])).map nI)), x6, x7, x8, x9] := fun h => ⟨by omega, _, _, _, _, by rw [if_pos h, app_nI]⟩
      have no : fitsB g[k] L = true → ∃ x6 x7 x8 x9 : Option D, [some (D.list (g.map encP)), some (D.list (ps.map nI)), some (D.list ((stt g ps i).2.map oI)), some (D.list (L.map nI)), some (D.int (1 + i)), some (D.list (O.map nI)), some (nI k), some (D.list ((g[k].tg.map fun t => if t ∈ L then (1 : Int) else 0).map D.int)), y8, y9] = [some (D.list (g.map encP)), some (D.list (ps.map nI)), some (D.list ((stt g ps i).2.map oI)), some (D.list (L.map nI)), some (D.int (1 + i)), some (D.list ((O ++ (if fitsB g[k] L = false then [k] else [])).map nI)), x6, x7, x8, x9] := fun h => ⟨_, _, _, _, by rw [if_neg (by rw [h]; simp), List.append_nil]⟩
      by_cases h1 : (g[k].tg.map fun t => decide (t ∈ L)).any id = false
      · rw [if_pos h1, if_pos h1]
        exact yes (by unfold fitsB; split; exact al h1; exact h1)
      · rw [if_neg h1]
        by_cases h2 : g[k].isDraw = true
        · rw [if_pos h2]
          by_cases h3 : (g[k].tg.map fun t => decide (t ∈ L)).all id = false
          · rw [if_pos h3]; exact yes (by unfold fitsB; rw [if_pos h2]; exact h3)
          · rw [if_neg h3]
            exact no (by unfold fitsB; rw [if_pos h2]; simpa using h3)
        · rw [if_neg h2, if_neg h2]
          exact no (by unfold fitsB; rw [if_neg h2]; simpa using h1)
    · rintro ρ ⟨y6, y7, y8, y9, rfl⟩
      exact ⟨_, _, _, _, by rw [List.take_length]; rfl⟩
    · rintro ρ ⟨y6, y7, y8, y9, rfl⟩
      have hos := outs_sub (g := g) (left := L)
      simp only [x_skip, x_seq, x_asg, x_aug, x_ex, x_ite, x_for, x_ret, x_brk, x_cnt, t_var, t_tup, t_tupL, t_nil, t_cons, t_sub, n_var, n_tup, n_nil, n_cons, c_cons', c_lst, c_neg, c_tup, e_nil, e_cons, e_var, e_lit, e_tup, e_lst, e_neg, e_not, e_bin, e_cmp, e_and, e_or, e_ite, e_sub, e_slc, e_call, e_bi, e_isi, e_app, e_pop, e_comp, e_dcomp, i_sat, g_zero, g_succ, z_zero, z_succ, wipe_nil, wipe_cons, p_add, p_sub, p_mul, p_fdiv, p_mod, p_pow, p_addL, p_addT, p_auga, p_augs, q_lt, q_le, q_gt, q_ge, q_isN, q_isnotN, q_in, q_notin, q_in_ints, p_len, p_lenT, p_lenS, p_list, p_listT, p_int, p_intB, p_abs, p_range, p_range2, p_all, p_any, p_sum, p_gcd, p_append, p_items, p_itemsT, p_itemsS, p_subL, p_subT, at0, at1, at2, truth_b, lt_zero, lt_succ, ln_cons, ln_nil, p_slc, p_putL, true_and, and_true, decide_eq_true_eq, m_on, q_eqI, q_neI, Option.some.injEq, exists_eq_left', exists_eq_left, if_true, if_false, eq_self, Bool.false_eq_true, Bool.not_eq_true, List.length_map, reduceCtorEq, not_false_eq_true, sat_ite, s_ok, q_eqS, q_neS, q_eqB, q_neB, i_bb, i_tt, i_ll, p_end, p_endN, ne_eq, rng0, Int.toNat_natCast, List.length_range, p_sumN, line]
      refine loop_map (as := outs g L) (e := nI) (fun m ρ => ∃ (x6 x7 x8 x9 : Option D), ρ = [some (.list (g.map encP)), some (.list (ps.map nI)), some (.list ((marked (stt g ps i).2 ((outs g L).take m) (i + 1)).map oI)), some (.list (L.map nI)), some (.int (1 + i)), some (.list ((outs g L).map nI)), x6, x7, x8, x9])
        (fun ρ => ∃ (x6 x7 x8 x9 : Option D), ρ = [some (.list (g.map encP)), some (.list (ps.map nI)), some (.list ((stt g ps (i + 1)).2.map oI)), some (.list (L.map nI)), some (.int (1 + i)), some (.list ((outs g L).map nI)), x6, x7, x8, x9]) ⟨_, _, _, _, rfl⟩ ?_ ?_ ?_
      · rintro m a ρ hm ⟨z6, z7, z8, z9, rfl⟩
        have ha : a < g.length := hin a (hos.subset (List.mem_of_getElem? hm))
        have e1 : D.int (1 + (i : Int)) = nI (i + 1) := by show D.int _ = D.int _; congr 1; push_cast; omega
        simp only [x_skip, x_seq, x_asg, x_aug, x_ex, x_ite, x_for, x_ret, x_brk, x_cnt, t_var, t_tup, t_tupL, t_nil, t_cons, t_sub, n_var, n_tup, n_nil, n_cons, c_cons', c_lst, c_neg, c_tup, e_nil, e_cons, e_var, e_lit, e_tup, e_lst, e_neg, e_not, e_bin, e_cmp, e_and, e_or, e_ite, e_sub, e_slc, e_call, e_bi, e_isi, e_app, e_pop, e_comp, e_dcomp, i_sat, g_zero, g_succ, z_zero, z_succ, wipe_nil, wipe_cons, p_add, p_sub, p_mul, p_fdiv, p_mod, p_pow, p_addL, p_addT, p_auga, p_augs, q_lt, q_le, q_gt, q_ge, q_isN, q_isnotN, q_in, q_notin, q_in_ints, p_len, p_lenT, p_lenS, p_list, p_listT, p_int, p_intB, p_abs, p_range, p_range2, p_all, p_any, p_sum, p_gcd, p_append, p_items, p_itemsT, p_itemsS, p_subL, p_subT, at0, at1, at2, truth_b, lt_zero, lt_succ, ln_cons, ln_nil, p_slc, p_putL, true_and, and_true, decide_eq_true_eq, m_on, q_eqI, q_neI, Option.some.injEq, exists_eq_left', exists_eq_left, if_true, if_false, eq_self, Bool.false_eq_true, Bool.not_eq_true, List.length_map, reduceCtorEq, not_false_eq_true, sat_ite, s_ok, q_eqS, q_neS, q_eqB, q_neB, i_bb, i_tt, i_ll, p_end, p_endN, ne_eq, rng0, Int.toNat_natCast, List.length_range, p_sumN, line, marked_len, hlen, ixN_nat ha, e1, map_oI_set]
        have : marked (stt g ps i).2 ((outs g L).take (m + 1)) (i + 1) = (marked (stt g ps i).2 ((outs g L).take m) (i + 1)).set a (some (i + 1)) := by
          rw [List.take_add_one, hm]
          unfold marked
          rw [List.foldl_append]; rfl
        exact ⟨_, _, _, _, by rw [this]⟩
      · rintro ρ ⟨z6, z7, z8, z9, rfl⟩
        exact ⟨_, _, _, _, by rw [List.take_length]; subst hL; rfl⟩
      · rintro ρ ⟨z6, z7, z8, z9, rfl⟩
        simp only [x_skip, x_seq, x_asg, x_aug, x_ex, x_ite, x_for, x_ret, x_brk, x_cnt, t_var, t_tup, t_tupL, t_nil, t_cons, t_sub, n_var, n_tup, n_nil, n_cons, c_cons', c_lst, c_neg, c_tup, e_nil, e_cons, e_var, e_lit, e_tup, e_lst, e_neg, e_not, e_bin, e_cmp, e_and, e_or, e_ite, e_sub, e_slc, e_call, e_bi, e_isi, e_app, e_pop, e_comp, e_dcomp, i_sat, g_zero, g_succ, z_zero, z_succ, wipe_nil, wipe_cons, p_add, p_sub, p_mul, p_fdiv, p_mod, p_pow, p_addL, p_addT, p_auga, p_augs, q_lt, q_le, q_gt, q_ge, q_isN, q_isnotN, q_in, q_notin, q_in_ints, p_len, p_lenT, p_lenS, p_list, p_listT, p_int, p_intB, p_abs, p_range, p_range2, p_all, p_any, p_sum, p_gcd, p_append, p_items, p_itemsT, p_itemsS, p_subL, p_subT, at0, at1, at2, truth_b, lt_zero, lt_succ, ln_cons, ln_nil, p_slc, p_putL, true_and, and_true, decide_eq_true_eq, m_on, q_eqI, q_neI, Option.some.injEq, exists_eq_left', exists_eq_left, if_true, if_false, eq_self, Bool.false_eq_true, Bool.not_eq_true, List.length_map, reduceCtorEq, not_false_eq_true, sat_ite, s_ok, q_eqS, q_neS, q_eqB, q_neB, i_bb, i_tt, i_ll, p_end, p_endN, ne_eq, rng0, Int.toNat_natCast, List.length_range, p_sumN, line]
        refine ⟨by omega, fm_filter (as := L) (ea := nI) (eb := nI) (fun k => if k ∉ outs g L then some k else none) (fun k _ => ?_) ?_⟩
        · simp only [x_skip, x_seq, x_asg, x_aug, x_ex, x_ite, x_for, x_ret, x_brk, x_cnt, t_var, t_tup, t_tupL, t_nil, t_cons, t_sub, n_var, n_tup, n_nil, n_cons, c_cons', c_lst, c_neg, c_tup, e_nil, e_cons, e_var, e_lit, e_tup, e_lst, e_neg, e_not, e_bin, e_cmp, e_and, e_or, e_ite, e_sub, e_slc, e_call, e_bi, e_isi, e_app, e_pop, e_comp, e_dcomp, i_sat, g_zero, g_succ, z_zero, z_succ, wipe_nil, wipe_cons, p_add, p_sub, p_mul, p_fdiv, p_mod, p_pow, p_addL, p_addT, p_auga, p_augs, q_lt, q_le, q_gt, q_ge, q_isN, q_isnotN, q_in, q_notin, q_in_ints, p_len, p_lenT, p_lenS, p_list, p_listT, p_int, p_intB, p_abs, p_range, p_range2, p_all, p_any, p_sum, p_gcd, p_append, p_items, p_itemsT, p_itemsS, p_subL, p_subT, at0, at1, at2, truth_b, lt_zero, lt_succ, ln_cons, ln_nil, p_slc, p_putL, true_and, and_true, decide_eq_true_eq, m_on, q_eqI, q_neI, Option.some.injEq, exists_eq_left', exists_eq_left, if_true, if_false, eq_self, Bool.false_eq_true, Bool.not_eq_true, List.length_map, reduceCtorEq, not_false_eq_true, sat_ite, s_ok, q_eqS, q_neS, q_eqB, q_neB, i_bb, i_tt, i_ll, p_end, p_endN, ne_eq, rng0, Int.toNat_natCast, List.length_range, p_sumN, line, q_in_nat]
          by_cases h : k ∈ outs g L
          · rw [if_neg (by rw [decide_eq_true h]; simp), if_neg (by simpa using h)]; rfl
          · rw [if_pos (by rw [decide_eq_false h]; rfl), if_pos h]; rfl
        exact ⟨_, _, _, _, _, _, by subst hL; rfl⟩
  · rintro ρ ⟨x4, x5, x6, x7, x8, x9, rfl⟩
    exact ⟨_, _, _, _, _, _, _, rfl⟩
  · rintro ρ ⟨x3, x4, x5, x6, x7, x8, x9, rfl⟩
    simp only [x_skip, x_seq, x_asg, x_aug, x_ex, x_ite, x_for, x_ret, x_brk, x_cnt, t_var, t_tup, t_tupL, t_nil, t_cons, t_sub, n_var, n_tup, n_nil, n_cons, c_cons', c_lst, c_neg, c_tup, e_nil, e_cons, e_var, e_lit, e_tup, e_lst, e_neg, e_not, e_bin, e_cmp, e_and, e_or, e_ite, e_sub, e_slc, e_call, e_bi, e_isi, e_app, e_pop, e_comp, e_dcomp, i_sat, g_zero, g_succ, z_zero, z_succ, wipe_nil, wipe_cons, p_add, p_sub, p_mul, p_fdiv, p_mod, p_pow, p_addL, p_addT, p_auga, p_augs, q_lt, q_le, q_gt, q_ge, q_isN, q_isnotN, q_in, q_notin, q_in_ints, p_len, p_lenT, p_lenS, p_list, p_listT, p_int, p_intB, p_abs, p_range, p_range2, p_all, p_any, p_sum, p_gcd, p_append, p_items, p_itemsT, p_itemsS, p_subL, p_subT, at0, at1, at2, truth_b, lt_zero, lt_succ, ln_cons, ln_nil, p_slc, p_putL, true_and, and_true, decide_eq_true_eq, m_on, q_eqI, q_neI, Option.some.injEq, exists_eq_left', exists_eq_left, if_true, if_false, eq_self, Bool.false_eq_true, Bool.not_eq_true, List.length_map, reduceCtorEq, not_false_eq_true, sat_ite, s_ok, q_eqS, q_neS, q_eqB, q_neB, i_bb, i_tt, i_ll, p_end, p_endN, ne_eq, rng0, Int.toNat_natCast, List.length_range, p_sumN, line]
end Rf
end

section
/-! Pm10m: knots, the greatest companies: plain law. -/
namespace Rf
open PySem
section
variable {tg : Nat → List Nat} {ps qs S : List Nat} {a b c p o : Nat}
theorem Rch.trans (h1 : Rch tg ps a b) (h2 : Rch tg ps b c) : Rch tg ps a c := by
  induction h2 with
  | one h3 h4 => exact .more h1 h3 h4
  | more _ h3 h4 ih => exact .more ih h3 h4
theorem Rch.mono (h : ∀ x ∈ ps, x ∈ qs) (r : Rch tg ps a b) : Rch tg qs a b := by
  induction r with
  | one h3 h4 => exact .one h3 (h _ h4)
  | more _ h3 h4 ih => exact .more ih h3 (h _ h4)
open Classical in
/-- those that come to p and to which p comes -/
noncomputable def knot (tg : Nat → List Nat) (S : List Nat) (p : Nat) : List Nat := S.filter fun o => decide (Rch tg S p o ∧ Rch tg S o p)
theorem mem_knot : o ∈ knot tg S p ↔ Rch tg S p o ∧ Rch tg S o p := by
  classical
  unfold knot
  rw [List.mem_filter, decide_eq_true_eq]
  exact ⟨fun h => h.2, fun h => ⟨h.1.mem, h⟩⟩
theorem knot_sub : (knot tg S p).Sublist S := List.filter_sublist
theorem knot_eq (h : c ∈ knot tg S p) : knot tg S c = knot tg S p := by
  classical
  obtain ⟨h1, h2⟩ := mem_knot.mp h
  unfold knot
  refine List.filter_congr fun o _ => ?_
  rw [decide_eq_decide]
  exact ⟨fun ⟨a, b⟩ => ⟨h1.trans a, b.trans h2⟩, fun ⟨a, b⟩ => ⟨h2.trans a, b.trans h1⟩⟩
theorem knot_rch (ha : a ∈ knot tg S p) (hb : b ∈ knot tg S p) : Rch tg (knot tg S p) a b := by
  obtain ⟨a1, a2⟩ := mem_knot.mp ha
  obtain ⟨b1, b2⟩ := mem_knot.mp hb
  have key : ∀ {b}, Rch tg S a b → Rch tg S b p → Rch tg (knot tg S p) a b := by
    intro b r
    induction r with
    | one h3 h4 => exact fun h => .one h3 (mem_knot.mpr ⟨a1.trans (.one h3 h4), h⟩)
    | more r h3 h4 ih => exact fun h => .more (ih ((Rch.one h3 h4).trans h)) h3 (mem_knot.mpr ⟨(a1.trans r).trans (.one h3 h4), h⟩)
  exact key (a2.trans b1) b2
/-- the knots, each at its first place -/
noncomputable def knotsL (tg : Nat → List Nat) (S : List Nat) : List (List Nat) := S.filterMap fun p => if (knot tg S p).head? = some p then some (knot tg S p) else none
theorem mem_knotsL {K : List Nat} : K ∈ knotsL tg S ↔ ∃ p ∈ S, K = knot tg S p ∧ K.head? = some p := by
  unfold knotsL
  rw [List.mem_filterMap]
  constructor
  · rintro ⟨p, h1, h2⟩
    split at h2
    · rename_i h; cases h2; exact ⟨p, h1, rfl, h⟩
    · cases h2
  · rintro ⟨p, h1, rfl, h⟩
    exact ⟨p, h1, by rw [if_pos h]⟩
theorem knotsL_ne {K : List Nat} (h : K ∈ knotsL tg S) : K ≠ [] := by
  obtain ⟨p, _, _, h⟩ := mem_knotsL.mp h
  intro e; rw [e] at h; cases h
theorem knotsL_sub {K : List Nat} (h : K ∈ knotsL tg S) : K.Sublist S := by
  obtain ⟨p, _, rfl, _⟩ := mem_knotsL.mp h
  exact knot_sub
theorem knotsL_rch {K : List Nat} (h : K ∈ knotsL tg S) (ha : a ∈ K) (hb : b ∈ K) : Rch tg K a b := by
  obtain ⟨p, _, rfl, _⟩ := mem_knotsL.mp h
  exact knot_rch ha hb
/-- lists with nothing in common -/
abbrev Dj (L : List (List Nat)) : Prop := L.Pairwise fun a b => ∀ x ∈ a, x ∉ b
theorem knotsL_dj (hS : S.Nodup) : Dj (knotsL tg S) := by
  unfold knotsL
  refine List.pairwise_filterMap.mpr ((show S.Pairwise (· ≠ ·) from hS).imp fun {p q} hpq => ?_)
  intro A hA B hB x hx hx2
  split at hA
  · rename_i h1
    split at hB
    · rename_i h2
      cases hA; cases hB
      rw [← knot_eq hx, knot_eq hx2, h2] at h1
      cases h1; exact hpq rfl
    · cases hB
  · cases hA
theorem in_knotsL {C : List Nat} (hC : C ≠ []) (hs : ∀ x ∈ C, x ∈ S) (hr : ∀ a ∈ C, ∀ b ∈ C, Rch tg C a b) : ∃ K ∈ knotsL tg S, ∀ x ∈ C, x ∈ K := by
  obtain ⟨c, hc⟩ := List.exists_mem_of_ne_nil _ hC
  have sub : ∀ x ∈ C, x ∈ knot tg S c := fun x hx => mem_knot.mpr ⟨(hr c hc x hx).mono hs, (hr x hx c hc).mono hs⟩
  cases e : knot tg S c with
  | nil => have := sub c hc; rw [e] at this; cases this
  | cons p r =>
    have hp : p ∈ knot tg S c := by rw [e]; exact List.mem_cons_self
    refine ⟨knot tg S c, mem_knotsL.mpr ⟨p, knot_sub.subset hp, (knot_eq hp).symm, by rw [e]; rfl⟩, sub⟩
end
/-- a company -/
def Comp (g : List Pl) (C : List Nat) : Prop := C ≠ [] ∧ keptB g C = true ∧ ∀ a ∈ C, ∀ b ∈ C, Rch (tgOf g) C a b
theorem compB_iff {g : List Pl} {C : List Nat} : compB g C = true ↔ Comp g C := by
  classical
  unfold compB Comp
  simp only [Bool.and_eq_true, decide_eq_true_eq, List.all_map, List.all_eq_true, Function.comp, id, and_assoc]
  refine and_congr Iff.rfl (and_congr Iff.rfl ⟨fun h a ha b hb => ?_, fun h a ha => ?_⟩)
  · have := h a ha
    unfold cl at this
    rw [List.filter_eq_self] at this
    simpa using this b hb
  · unfold cl
    rw [List.filter_eq_self]
    exact fun b hb => by simpa using h a ha b hb
theorem stays_sub {g : List Pl} {P : List Nat} : (stays g P).Sublist P := filterMap_sub fun a b h => by
  split at h
  · cases h; rfl
  · cases h
/-- what is found and what waits -/
structure GInv (g : List Pl) (P0 : List Nat) (fnd wt : List (List Nat)) : Prop where
  sub : ∀ l ∈ fnd ++ wt, l.Sublist P0
  cmp : ∀ l ∈ fnd, Comp g l
  cov : ∀ C, Comp g C → (∀ x ∈ C, x ∈ P0) → ∃ l ∈ fnd ++ wt, ∀ x ∈ C, x ∈ l
  dj : Dj (fnd ++ wt)
theorem GInv.start {g : List Pl} {P0 : List Nat} : GInv g P0 [] [P0] where
  sub := fun l h => by have : l = P0 := by simpa using h
                       subst this; exact .refl _
  cmp := fun l h => by cases h
  cov := fun C _ h => ⟨P0, by simp, h⟩
  dj := by simp [Dj]
noncomputable def goodK (g : List Pl) (P : List Nat) : List (List Nat) := (knotsL (tgOf g) (stays g P)).filter fun K => keptB g K
noncomputable def badK (g : List Pl) (P : List Nat) : List (List Nat) := (knotsL (tgOf g) (stays g P)).filter fun K => !keptB g K
theorem mem_goodK {g : List Pl} {P K : List Nat} : K ∈ goodK g P ↔ K ∈ knotsL (tgOf g) (stays g P) ∧ keptB g K = true := by
  unfold goodK; rw [List.mem_filter]
theorem mem_badK {g : List Pl} {P K : List Nat} : K ∈ badK g P ↔ K ∈ knotsL (tgOf g) (stays g P) ∧ keptB g K = false := by
  unfold badK; rw [List.mem_filter]; simp
theorem dj_symm {a b : List Nat} (h : ∀ x ∈ a, x ∉ b) : ∀ x ∈ b, x ∉ a := fun x hx hx2 => h x hx2 hx
theorem GInv.step {g : List Pl} {P0 P : List Nat} {fnd r : List (List Nat)} (I : GInv g P0 fnd (r ++ [P])) (hP : P0.Nodup) (hg : ∀ x ∈ P0, x < g.length) : GInv g P0 (fnd ++ goodK g P) (r ++ badK g P) := by
  have hPs : P.Sublist P0 := I.sub P (by simp)
  have hS : (stays g P).Nodup := hP.sublist (stays_sub.trans hPs)
  have kn : ∀ K ∈ knotsL (tgOf g) (stays g P), K.Sublist P := fun K h => (knotsL_sub h).trans stays_sub
  have spl : ∀ l, l ∈ (fnd ++ goodK g P) ++ (r ++ badK g P) ↔ l ∈ fnd ∨ l ∈ r ∨ l ∈ knotsL (tgOf g) (stays g P) := fun l => by
    simp only [List.mem_append, mem_goodK, mem_badK]
    cases keptB g l <;> simp <;> grind
  refine ⟨fun l h => ?_, fun l h => ?_, fun C hC hx => ?_, ?_⟩
  · rcases (spl l).mp h with h | h | h
    · exact I.sub l (by simp [h])
    · exact I.sub l (by simp [h])
    · exact (kn l h).trans hPs
  · rcases List.mem_append.mp h with h | h
    · exact I.cmp l h
    · obtain ⟨h1, h2⟩ := mem_goodK.mp h
      exact ⟨knotsL_ne h1, h2, fun a ha b hb => knotsL_rch h1 ha hb⟩
  · obtain ⟨l, hl, hs⟩ := I.cov C hC hx
    by_cases e : l = P
    · subst e
      have hCS : ∀ x ∈ C, x ∈ stays g l := fun x hx => (mem_stays fun k hk => hg k (hPs.subset hk)).mpr (kept_stays hs hC.2.1 _ x hx)
      obtain ⟨K, h1, h2⟩ := in_knotsL hC.1 hCS hC.2.2
      exact ⟨K, (spl K).mpr (.inr (.inr h1)), h2⟩
    · refine ⟨l, (spl l).mpr ?_, hs⟩
      simp only [List.mem_append, List.mem_singleton] at hl
      rcases hl with h | h | h
      · exact .inl h
      · exact .inr (.inl h)
      · exact absurd h e
  · have p1 : ((fnd ++ goodK g P) ++ (r ++ badK g P)).Perm ((fnd ++ r) ++ knotsL (tgOf g) (stays g P)) := by
      have q1 : (goodK g P ++ badK g P).Perm (knotsL (tgOf g) (stays g P)) := List.filter_append_perm _ _
      have q2 : ((fnd ++ goodK g P) ++ (r ++ badK g P)).Perm ((fnd ++ r) ++ (goodK g P ++ badK g P)) := by
        rw [List.append_assoc, List.append_assoc]
        refine List.Perm.append_left _ ?_
        rw [← List.append_assoc, ← List.append_assoc]
        exact List.Perm.append_right _ List.perm_append_comm
      exact q2.trans (List.Perm.append_left _ q1)
    refine (p1.pairwise_iff dj_symm).mpr ?_
    have h0 : ((fnd ++ r) ++ [P]).Pairwise fun a b => ∀ x ∈ a, x ∉ b := by rw [List.append_assoc]; exact I.dj
    rw [List.pairwise_append] at h0 ⊢
    refine ⟨h0.1, knotsL_dj hS, fun A hA K hK x hx hx2 => ?_⟩
    exact h0.2.2 A hA P (by simp) x hx ((kn K hK).subset hx2)
/-- how much is still to be done -/
def gf (l : List Nat) : Nat := if l = [] then 1 else 2 * l.length - 1
def gms (L : List (List Nat)) : Nat := (L.map gf).sum
theorem gms_len {B : List (List Nat)} (h : ∀ l ∈ B, l ≠ []) : gms B + B.length = 2 * B.flatten.length := by
  induction B with
  | nil => rfl
  | cons l r ih =>
    have h1 := ih fun m hm => h m (List.mem_cons_of_mem _ hm)
    have h2 := h l List.mem_cons_self
    have h3 : 0 < l.length := List.length_pos_iff.mpr h2
    have e : gms (l :: r) = gf l + gms r := rfl
    rw [e, List.flatten_cons, List.length_append, List.length_cons]
    unfold gf
    rw [if_neg h2]; omega
theorem dj_flat {L : List (List Nat)} (h1 : ∀ l ∈ L, l.Nodup) (h2 : Dj L) : L.flatten.Nodup := by
  show L.flatten.Pairwise (· ≠ ·)
  rw [List.pairwise_flatten]
  exact ⟨h1, h2.imp fun h x hx y hy e => h x hx (by rw [e]; exact hy)⟩
theorem dj_len {L : List (List Nat)} {P : List Nat} (h0 : ∀ l ∈ L, l.Sublist P) (hP : P.Nodup) (h2 : Dj L) : L.flatten.length ≤ P.length := by
  refine nodup_len (dj_flat (fun l hl => hP.sublist (h0 l hl)) h2) fun a ha => ?_
  obtain ⟨l, hl, h⟩ := List.mem_flatten.mp ha
  exact (h0 l hl).subset h
theorem badK_gms {g : List Pl} {P : List Nat} (hP : P.Nodup) (hg : ∀ x ∈ P, x < g.length) (hl : P.length ≤ g.length) : gms (badK g P) < gf P := by
  have sub : ∀ K ∈ badK g P, K.Sublist P := fun K h => (knotsL_sub (mem_badK.mp h).1).trans stays_sub
  have ne : ∀ K ∈ badK g P, K ≠ [] := fun K h => knotsL_ne (mem_badK.mp h).1
  have lt : ∀ K ∈ badK g P, K.length < P.length := fun K h => by
    obtain ⟨h1, h2⟩ := mem_badK.mp h
    rcases Nat.lt_or_ge K.length P.length with q | q
    · exact q
    · have e1 := (sub K h).eq_of_length_le q
      have e2 : stays g P = P := (stays_sub (g := g) (P := P)).eq_of_length_le (Nat.le_trans q (knotsL_sub h1).length_le)
      have := stays_kept hg hl
      rw [e2, ← e1, h2] at this; cases this
  have hdj : Dj (badK g P) := (knotsL_dj (hP.sublist stays_sub)).sublist List.filter_sublist
  have h1 := gms_len ne
  have h2 := dj_len sub hP hdj
  revert h1 h2 lt ne
  generalize badK g P = B
  intro ne lt h1 h2
  match B with
  | [] => unfold gf gms; split <;> simp <;> (rename_i h; have := List.length_pos_iff.mpr h; omega)
  | [K] =>
    have := lt K (by simp)
    have hn := List.length_pos_iff.mpr (ne K (by simp))
    have e : gms [K] = gf K := by simp [gms]
    rw [e]; unfold gf
    rw [if_neg (ne K (by simp)), if_neg (fun e => by rw [e] at this; cases this)]; omega
  | K :: K2 :: r =>
    have := lt K (by simp)
    have hn := List.length_pos_iff.mpr (ne K (by simp))
    unfold gf
    rw [if_neg (fun e => by rw [e] at this; cases this)]
    simp only [List.length_cons] at h1
    omega
theorem gms_app {A B : List (List Nat)} : gms (A ++ B) = gms A + gms B := by unfold gms; rw [List.map_append, List.sum_append]
/-- the end -/
theorem GInv.fin {g : List Pl} {P0 : List Nat} {fnd : List (List Nat)} (I : GInv g P0 fnd []) : (∀ l ∈ fnd, l.Sublist P0 ∧ Comp g l) ∧ (∀ C, Comp g C → (∀ x ∈ C, x ∈ P0) → ∃ l ∈ fnd, ∀ x ∈ C, x ∈ l) ∧ Dj fnd := by
  obtain ⟨a, b, c, d⟩ := I
  rw [List.append_nil] at a c d
  exact ⟨fun l h => ⟨a l h, b l h⟩, c, d⟩
end Rf
end

section
/-! templates of the laws' helpers: the numbers of the defs they call are arguments. -/
namespace Rf
open PySem
/-- knots calls behind -/
def aKnots (c0 : Nat) : S := (.seq (.asg (.var 2) (.dcomp [4] (.var 4) (.var 1) (.var 4) (.call c0 (.cons (.var 0) (.cons (.var 4) (.cons (.var 1) .nil)))))) (.seq (.asg (.var 3) (.lst .nil)) (.seq (.for_ (.var 4) (.var 1) (.seq (.asg (.var 5) (.comp [6] (.var 6) (.var 1) (.and (.cmp .isin (.var 6) (.sub (.var 2) (.var 4))) (.cmp .isin (.var 4) (.sub (.var 2) (.var 6)))) (.var 6))) (.seq (.ite (.and (.var 5) (.cmp .eq (.sub (.var 5) (.lit (.int (0)))) (.var 4))) (.seq (.ex (.mt .append (.var 3) (.cons (.var 5) .nil))) .skip) .skip) .skip))) (.seq (.ret (.var 3)) .skip))))
/-- greatest_companies calls knots, staying, can_be_kept -/
def aGreat (c0 : Nat) (c1 : Nat) (c2 : Nat) : S := (.seq (.asg (.var 2) (.lst .nil)) (.seq (.asg (.var 3) (.lst (.cons (.var 1) .nil))) (.seq (.wh (.var 3) (.seq (.for_ (.var 4) (.call c0 (.cons (.var 0) (.cons (.call c1 (.cons (.var 0) (.cons (.mt .pop (.var 3) .nil) .nil))) .nil))) (.seq (.ite (.call c2 (.cons (.var 0) (.cons (.var 4) .nil))) (.seq (.ex (.mt .append (.var 2) (.cons (.var 4) .nil))) .skip) (.seq (.ex (.mt .append (.var 3) (.cons (.var 4) .nil))) .skip)) .skip)) .skip)) (.seq (.ret (.bi .sorted (.cons (.var 2) .nil))) .skip))))
/-- company_mark -/
def aCMark : S := (.seq (.ret (.bi .max (.cons (.comp [2] (.var 2) (.var 1) (.lit (.bool true)) (.sub (.sub (.var 0) (.var 2)) (.lit (.int (0))))) .nil))) .skip)
/-- topped calls greatest_companies, company_mark -/
def aTopped (c0 : Nat) (c1 : Nat) : S := (.seq (.asg (.var 3) (.comp [4] (.var 4) (.var 1) (.cmp .le (.sub (.sub (.var 0) (.var 4)) (.lit (.int (0)))) (.var 2)) (.var 4))) (.seq (.ret (.comp [5] (.var 5) (.call c0 (.cons (.var 0) (.cons (.var 3) .nil))) (.cmp .eq (.call c1 (.cons (.var 0) (.cons (.var 5) .nil))) (.var 2)) (.var 5))) .skip))
/-- marks_of_companies calls topped -/
def aMarks (c0 : Nat) : S := (.seq (.ret (.comp [2] (.var 2) (.bi .range (.cons (.lit (.int (10))) .nil)) (.call c0 (.cons (.var 0) (.cons (.var 1) (.cons (.var 2) .nil)))) (.var 2))) .skip)
/-- _law_companies calls _law_lists, _law_is_company -/
def aLComps (c0 : Nat) (c1 : Nat) : S := (.seq (.ret (.comp [2] (.var 2) (.call c0 (.cons (.var 1) .nil)) (.call c1 (.cons (.var 0) (.cons (.var 2) .nil))) (.var 2))) .skip)
/-- _law_top -/
def aLTop : S := (.seq (.ret (.bi .max (.cons (.comp [2] (.var 2) (.var 1) (.lit (.bool true)) (.sub (.sub (.var 0) (.var 2)) (.lit (.int (0))))) .nil))) .skip)
end Rf
end

section
/-! Pm10: knots, the greatest companies, marks of companies: what the texts compute. -/
namespace Rf
open PySem
theorem fm_guard {α : Type} {P : α → Prop} [DecidablePred P] : ∀ l : List α, (l.filterMap fun o => if P o then some o else none) = l.filter fun o => decide (P o)
  | [] => rfl
  | a :: r => by
    rw [List.filterMap_cons, List.filter_cons, fm_guard r]
    by_cases h : P a <;> simp [h]
theorem rev_ind {P : List Nat → Prop} (h0 : P []) (hs : ∀ r k, P r → P (r ++ [k])) : ∀ l, P l := by
  have : ∀ (n : Nat) (l : List Nat), l.length = n → P l := by
    intro n
    induction n with
    | zero => intro l hl; rw [List.length_eq_zero_iff.mp hl]; exact h0
    | succ n ih =>
      intro l hl
      rcases List.eq_nil_or_concat l with rfl | ⟨r, k, rfl⟩
      · exact h0
      · rw [List.concat_eq_append] at *
        rw [List.length_append, List.length_singleton] at hl
        exact hs r k (ih r (by omega))
  exact fun l => this _ l rfl
/-! dicts with whole numbers for keys -/
theorem fold_map {α β : Type} {F : β → D → Res β} {as : List α} {ea : α → D} (I : Nat → β → Prop) {b : β} {P : β → Prop} (h0 : I 0 b) (hs : ∀ i a b, as[i]? = some a → I i b → (F b (ea a)).sat (I (i + 1))) (hP : ∀ b, I as.length b → P b) : (foldR F b (as.map ea)).sat P := by
  induction as generalizing I b with
  | nil => simp only [List.map_nil, foldR, s_ok]; exact hP _ h0
  | cons a r ih =>
    simp only [List.map_cons, foldR, s_bind]
    refine (hs 0 a b rfl h0).imp fun b1 h1 => ?_
    exact ih (fun i => I (i + 1)) h1 (fun i a b e h => hs (i + 1) a b e h) hP
theorem k_sat {Φ : Calls} {own : List Nat} {tg k v : E} {ρ : Env} {acc : List (D × D)} {d : D} {P : List (D × D) → Prop} : (itemK Φ own tg k v ρ acc d).sat P = (bindN tg d (wipeD ρ own)).sat fun ρ1 => (ev Φ k ρ1).sat fun p => (ev Φ v p.2).sat fun q => (isKey p.1 = true ∧ acc.length < line) ∧ P (put p.1 q.1 acc) := by
  simp only [itemK, s_bind]
  congr 1; funext ρ1; congr 1; funext p; congr 1; funext q
  by_cases h : isKey p.1 = true ∧ acc.length < line
  · rw [if_pos (by simp [h.1, h.2]), s_ok]; simp [h.1, h.2]
  · rw [if_neg (by simpa using h), s_stk]; simp [h]
theorem keyEq_iff {a : D} {x y : Int} (h : keyEq a (.int x) = true) : keyEq a (.int y) = decide (x = y) := by
  cases a with
  | int z =>
    have : z = x := by simpa [keyEq] using h
    subst this
    show (z == y) = decide (z = y)
    rfl
  | _ => simp [keyEq] at h
theorem look_put {kvs : List (D × D)} {x y : Int} {v : D} : look (.int x) (put (.int y) v kvs) = if x = y then some v else look (.int x) kvs := by
  unfold put
  by_cases ha : (kvs.any fun p => keyEq p.1 (.int y)) = true
  · rw [if_pos ha]
    induction kvs with
    | nil => simp at ha
    | cons p r ih =>
      simp only [List.map_cons]
      by_cases hp : keyEq p.1 (.int y) = true
      · rw [if_pos hp]
        simp only [look]
        rw [keyEq_iff (y := x) hp]
        by_cases e : x = y
        · subst e; simp
        · rw [if_neg (by simpa using Ne.symm e), if_neg e, if_neg (by simpa using Ne.symm e)]
          by_cases ha2 : (r.any fun p => keyEq p.1 (.int y)) = true
          · rw [ih ha2, if_neg e]
          · have : r.map (fun p => if keyEq p.1 (.int y) = true then (p.1, v) else p) = r := by
              conv => rhs; rw [← List.map_id r]
              refine List.map_congr_left fun q hq => ?_
              rw [if_neg (fun h => ha2 (List.any_eq_true.mpr ⟨q, hq, h⟩))]; rfl
            rw [this]
      · rw [if_neg hp]
        simp only [look]
        have ha2 : (r.any fun p => keyEq p.1 (.int y)) = true := by
          rw [List.any_cons, Bool.or_eq_true] at ha
          exact ha.resolve_left hp
        by_cases hx : keyEq p.1 (.int x) = true
        · rw [if_pos hx, if_pos hx]
          rw [if_neg (fun e => hp (by rw [← e]; exact hx))]
        · rw [if_neg hx, if_neg hx, ih ha2]
  · rw [if_neg ha]
    induction kvs with
    | nil =>
      simp only [List.nil_append, look]
      have : keyEq (D.int y) (.int x) = decide (y = x) := by simp [keyEq]; rfl
      rw [this]
      by_cases e : x = y
      · subst e; simp
      · rw [if_neg (by simpa using Ne.symm e), if_neg e]
    | cons p r ih =>
      simp only [List.cons_append, look]
      rw [List.any_cons, Bool.or_eq_true, not_or] at ha
      by_cases hx : keyEq p.1 (.int x) = true
      · rw [if_pos hx, if_pos hx, if_neg (fun e => ha.1 (by rw [← e]; exact hx))]
      · rw [if_neg hx, if_neg hx, ih ha.2]
theorem put_len {kvs : List (D × D)} {k v : D} : (put k v kvs).length ≤ kvs.length + 1 := by
  unfold put; split
  · rw [List.length_map]; omega
  · rw [List.length_append]; simp
theorem p_subK {kvs : List (D × D)} {x : Nat} {v : D} {P : D → Prop} (h : look (nI x) kvs = some v) : (subD (.dict kvs) (nI x)).sat P = P v := by
  show (if isKey (D.int x) = true then (match look (D.int x) kvs with | some v => Res.ok v | none => .stk) else .stk).sat P = P v
  have h : look (D.int x) kvs = some v := h
  rw [if_pos (show isKey (D.int x) = true from rfl), h, s_ok]
noncomputable def kfn (g : List Pl) (ps : List Nat) (p : Nat) : Option (List Nat) := if (knot (tgOf g) ps p).head? = some p then some (knot (tgOf g) ps p) else none
theorem knotsL_eq {g : List Pl} {ps : List Nat} : knotsL (tgOf g) ps = ps.filterMap (kfn g ps) := rfl
/-- knots(game, places) -/
theorem sp_knots {Φ : Calls} {c0 : Nat} (hb : BehOk Φ c0) {g : List Pl} {ps : List Nat} (hz : ∀ q ∈ g, q.tg.length ≤ 1000) (hps : ∀ k ∈ ps, k < g.length) (hl : ps.length ≤ 1000) : (runFn Φ ⟨2, 7, aKnots c0⟩ [.list (g.map encP), .list (ps.map nI)]).sat fun d => d = .list ((knotsL (tgOf g) ps).map fun l => .list (l.map nI)) := by
  classical
  rw [run_eq]
  refine ⟨⟨rfl, by decide⟩, ?_⟩
  show (exec Φ (aKnots c0) [some (.list (g.map encP)), some (.list (ps.map nI)), none, none, none, none, none]).sat _ _ _ _
  unfold aKnots
  simp only [x_skip, x_seq, x_asg, x_aug, x_ex, x_ite, x_for, x_ret, x_brk, x_cnt, t_var, t_tup, t_tupL, t_nil, t_cons, t_sub, n_var, n_tup, n_nil, n_cons, c_cons', c_lst, c_neg, c_tup, e_nil, e_cons, e_var, e_lit, e_tup, e_lst, e_neg, e_not, e_bin, e_cmp, e_and, e_or, e_ite, e_sub, e_slc, e_call, e_bi, e_isi, e_app, e_pop, e_comp, e_dcomp, i_sat, g_zero, g_succ, z_zero, z_succ, wipe_nil, wipe_cons, p_add, p_sub, p_mul, p_fdiv, p_mod, p_pow, p_addL, p_addT, p_auga, p_augs, q_lt, q_le, q_gt, q_ge, q_isN, q_isnotN, q_in, q_notin, q_in_ints, p_len, p_lenT, p_lenS, p_list, p_listT, p_int, p_intB, p_abs, p_range, p_range2, p_all, p_any, p_sum, p_gcd, p_append, p_items, p_itemsT, p_itemsS, p_subL, p_subT, at0, at1, at2, truth_b, lt_zero, lt_succ, ln_cons, ln_nil, p_slc, p_putL, true_and, and_true, decide_eq_true_eq, m_on, q_eqI, q_neI, Option.some.injEq, exists_eq_left', exists_eq_left, if_true, if_false, eq_self, Bool.false_eq_true, Bool.not_eq_true, List.length_map, reduceCtorEq, not_false_eq_true, sat_ite, s_ok, q_eqS, q_neS, q_eqB, q_neB, i_bb, i_tt, i_ll, p_end, p_endN, ne_eq, rng0, Int.toNat_natCast, List.length_range, p_sumN, line]
  refine fold_map (as := ps) (ea := nI) (fun i kvs => kvs.length ≤ i ∧ ∀ x ∈ ps.take i, ∃ f : List Nat, look (nI x) kvs = some (.list (f.map nI)) ∧ ∀ b, b ∈ f ↔ Rch (tgOf g) ps x b) ⟨Nat.le_refl _, fun x hx => by simp at hx⟩ ?_ ?_
  · rintro i a kvs hi ⟨h1, h2⟩
    have hi2 : i < ps.length := (List.getElem?_eq_some_iff.mp hi).1
    simp only [k_sat, x_skip, x_seq, x_asg, x_aug, x_ex, x_ite, x_for, x_ret, x_brk, x_cnt, t_var, t_tup, t_tupL, t_nil, t_cons, t_sub, n_var, n_tup, n_nil, n_cons, c_cons', c_lst, c_neg, c_tup, e_nil, e_cons, e_var, e_lit, e_tup, e_lst, e_neg, e_not, e_bin, e_cmp, e_and, e_or, e_ite, e_sub, e_slc, e_call, e_bi, e_isi, e_app, e_pop, e_comp, e_dcomp, i_sat, g_zero, g_succ, z_zero, z_succ, wipe_nil, wipe_cons, p_add, p_sub, p_mul, p_fdiv, p_mod, p_pow, p_addL, p_addT, p_auga, p_augs, q_lt, q_le, q_gt, q_ge, q_isN, q_isnotN, q_in, q_notin, q_in_ints, p_len, p_lenT, p_lenS, p_list, p_listT, p_int, p_intB, p_abs, p_range, p_range2, p_all, p_any, p_sum, p_gcd, p_append, p_items, p_itemsT, p_itemsS, p_subL, p_subT, at0, at1, at2, truth_b, lt_zero, lt_succ, ln_cons, ln_nil, p_slc, p_putL, true_and, and_true, decide_eq_true_eq, m_on, q_eqI, q_neI, Option.some.injEq, exists_eq_left', exists_eq_left, if_true, if_false, eq_self, Bool.false_eq_true, Bool.not_eq_true, List.length_map, reduceCtorEq, not_false_eq_true, sat_ite, s_ok, q_eqS, q_neS, q_eqB, q_neB, i_bb, i_tt, i_ll, p_end, p_endN, ne_eq, rng0, Int.toNat_natCast, List.length_range, p_sumN, line]
    refine (hb g a ps hz (hps a (List.mem_of_getElem? hi)) hps hl).imp fun d ⟨f, e, nf, hf⟩ => ?_
    subst e
    refine ⟨⟨rfl, by omega⟩, Nat.le_trans put_len (by omega), fun x hx => ?_⟩
    rw [List.take_add_one, hi] at hx
    show ∃ f' : List Nat, look (D.int x) (put (D.int a) _ kvs) = _ ∧ _
    rw [look_put]
    by_cases e : x = a
    · subst e
      rw [if_pos rfl]
      exact ⟨f, rfl, hf⟩
    · rw [if_neg (by omega)]
      rcases List.mem_append.mp hx with h | h
      · exact h2 x h
      · exact absurd (by simpa using h) e
  rintro kvs ⟨h1, h2⟩
  rw [List.take_length] at h2
  refine loop_map (as := ps) (e := nI) (fun i ρ => ∃ x4 x5 x6 : Option D, ρ = [some (.list (g.map encP)), some (.list (ps.map nI)), some (.dict kvs), some (.list (((ps.take i).filterMap (kfn g ps)).map fun l => .list (l.map nI))), x4, x5, x6])
    (fun ρ => ∃ x4 x5 x6 : Option D, ρ = [some (.list (g.map encP)), some (.list (ps.map nI)), some (.dict kvs), some (.list ((knotsL (tgOf g) ps).map fun l => .list (l.map nI))), x4, x5, x6]) ⟨_, _, _, rfl⟩ ?_ ?_ ?_
  · rintro i p ρ hi ⟨x4, x5, x6, rfl⟩
    have hi2 : i < ps.length := (List.getElem?_eq_some_iff.mp hi).1
    have hp := List.mem_of_getElem? hi
    obtain ⟨fp, lp, mp⟩ := h2 p hp
    simp only [x_skip, x_seq, x_asg, x_aug, x_ex, x_ite, x_for, x_ret, x_brk, x_cnt, t_var, t_tup, t_tupL, t_nil, t_cons, t_sub, n_var, n_tup, n_nil, n_cons, c_cons', c_lst, c_neg, c_tup, e_nil, e_cons, e_var, e_lit, e_tup, e_lst, e_neg, e_not, e_bin, e_cmp, e_and, e_or, e_ite, e_sub, e_slc, e_call, e_bi, e_isi, e_app, e_pop, e_comp, e_dcomp, i_sat, g_zero, g_succ, z_zero, z_succ, wipe_nil, wipe_cons, p_add, p_sub, p_mul, p_fdiv, p_mod, p_pow, p_addL, p_addT, p_auga, p_augs, q_lt, q_le, q_gt, q_ge, q_isN, q_isnotN, q_in, q_notin, q_in_ints, p_len, p_lenT, p_lenS, p_list, p_listT, p_int, p_intB, p_abs, p_range, p_range2, p_all, p_any, p_sum, p_gcd, p_append, p_items, p_itemsT, p_itemsS, p_subL, p_subT, at0, at1, at2, truth_b, lt_zero, lt_succ, ln_cons, ln_nil, p_slc, p_putL, true_and, and_true, decide_eq_true_eq, m_on, q_eqI, q_neI, Option.some.injEq, exists_eq_left', exists_eq_left, if_true, if_false, eq_self, Bool.false_eq_true, Bool.not_eq_true, List.length_map, reduceCtorEq, not_false_eq_true, sat_ite, s_ok, q_eqS, q_neS, q_eqB, q_neB, i_bb, i_tt, i_ll, p_end, p_endN, ne_eq, rng0, Int.toNat_natCast, List.length_range, p_sumN, line]
    refine ⟨by omega, fm_filter (as := ps) (ea := nI) (eb := nI) (fun o => if Rch (tgOf g) ps p o ∧ Rch (tgOf g) ps o p then some o else none) (fun o ho => ?_) ?_⟩
    · obtain ⟨fo, lo, mo⟩ := h2 o ho
      simp only [x_skip, x_seq, x_asg, x_aug, x_ex, x_ite, x_for, x_ret, x_brk, x_cnt, t_var, t_tup, t_tupL, t_nil, t_cons, t_sub, n_var, n_tup, n_nil, n_cons, c_cons', c_lst, c_neg, c_tup, e_nil, e_cons, e_var, e_lit, e_tup, e_lst, e_neg, e_not, e_bin, e_cmp, e_and, e_or, e_ite, e_sub, e_slc, e_call, e_bi, e_isi, e_app, e_pop, e_comp, e_dcomp, i_sat, g_zero, g_succ, z_zero, z_succ, wipe_nil, wipe_cons, p_add, p_sub, p_mul, p_fdiv, p_mod, p_pow, p_addL, p_addT, p_auga, p_augs, q_lt, q_le, q_gt, q_ge, q_isN, q_isnotN, q_in, q_notin, q_in_ints, p_len, p_lenT, p_lenS, p_list, p_listT, p_int, p_intB, p_abs, p_range, p_range2, p_all, p_any, p_sum, p_gcd, p_append, p_items, p_itemsT, p_itemsS, p_subL, p_subT, at0, at1, at2, truth_b, lt_zero, lt_succ, ln_cons, ln_nil, p_slc, p_putL, true_and, and_true, decide_eq_true_eq, m_on, q_eqI, q_neI, Option.some.injEq, exists_eq_left', exists_eq_left, if_true, if_false, eq_self, Bool.false_eq_true, Bool.not_eq_true, List.length_map, reduceCtorEq, not_false_eq_true, sat_ite, s_ok, q_eqS, q_neS, q_eqB, q_neB, i_bb, i_tt, i_ll, p_end, p_endN, ne_eq, rng0, Int.toNat_natCast, List.length_range, p_sumN, line, p_subK lp, p_subK lo, q_in_nat, mp, mo]
      by_cases r1 : Rch (tgOf g) ps p o
      · by_cases r2 : Rch (tgOf g) ps o p
        · simp [r1, r2]
        · simp [r1, r2]
      · simp [r1]
    have ek : (ps.filterMap fun o => if Rch (tgOf g) ps p o ∧ Rch (tgOf g) ps o p then some o else none) = knot (tgOf g) ps p := by
      exact fm_guard ps
    rw [ek]
    have et : (ps.take (i + 1)).filterMap (kfn g ps) = (ps.take i).filterMap (kfn g ps) ++ (kfn g ps p).toList := by
      rw [List.take_add_one, hi, List.filterMap_append]
      cases h : kfn g ps p <;> simp [h]
    rw [et]
    have fl : ((ps.take i).filterMap (kfn g ps)).length ≤ 1000 := Nat.le_trans (List.length_filterMap_le _ _) (by rw [List.length_take]; omega)
    cases ekn : knot (tgOf g) ps p with
    | nil =>
      have e0 : kfn g ps p = none := by unfold kfn; rw [ekn]; rfl
      rw [e0]
      simp only [x_skip, x_seq, x_asg, x_aug, x_ex, x_ite, x_for, x_ret, x_brk, x_cnt, t_var, t_tup, t_tupL, t_nil, t_cons, t_sub, n_var, n_tup, n_nil, n_cons, c_cons', c_lst, c_neg, c_tup, e_nil, e_cons, e_var, e_lit, e_tup, e_lst, e_neg, e_not, e_bin, e_cmp, e_and, e_or, e_ite, e_sub, e_slc, e_call, e_bi, e_isi, e_app, e_pop, e_comp, e_dcomp, i_sat, g_zero, g_succ, z_zero, z_succ, wipe_nil, wipe_cons, p_add, p_sub, p_mul, p_fdiv, p_mod, p_pow, p_addL, p_addT, p_auga, p_augs, q_lt, q_le, q_gt, q_ge, q_isN, q_isnotN, q_in, q_notin, q_in_ints, p_len, p_lenT, p_lenS, p_list, p_listT, p_int, p_intB, p_abs, p_range, p_range2, p_all, p_any, p_sum, p_gcd, p_append, p_items, p_itemsT, p_itemsS, p_subL, p_subT, at0, at1, at2, truth_b, lt_zero, lt_succ, ln_cons, ln_nil, p_slc, p_putL, true_and, and_true, decide_eq_true_eq, m_on, q_eqI, q_neI, Option.some.injEq, exists_eq_left', exists_eq_left, if_true, if_false, eq_self, Bool.false_eq_true, Bool.not_eq_true, List.length_map, reduceCtorEq, not_false_eq_true, sat_ite, s_ok, q_eqS, q_neS, q_eqB, q_neB, i_bb, i_tt, i_ll, p_end, p_endN, ne_eq, rng0, Int.toNat_natCast, List.length_range, p_sumN, line, truth_nl]
      simp
    | cons q r =>
      have a0 := atN (vs := q :: r) (i := 0) 0 rfl (by simp)
      simp only [x_skip, x_seq, x_asg, x_aug, x_ex, x_ite, x_for, x_ret, x_brk, x_cnt, t_var, t_tup, t_tupL, t_nil, t_cons, t_sub, n_var, n_tup, n_nil, n_cons, c_cons', c_lst, c_neg, c_tup, e_nil, e_cons, e_var, e_lit, e_tup, e_lst, e_neg, e_not, e_bin, e_cmp, e_and, e_or, e_ite, e_sub, e_slc, e_call, e_bi, e_isi, e_app, e_pop, e_comp, e_dcomp, i_sat, g_zero, g_succ, z_zero, z_succ, wipe_nil, wipe_cons, p_add, p_sub, p_mul, p_fdiv, p_mod, p_pow, p_addL, p_addT, p_auga, p_augs, q_lt, q_le, q_gt, q_ge, q_isN, q_isnotN, q_in, q_notin, q_in_ints, p_len, p_lenT, p_lenS, p_list, p_listT, p_int, p_intB, p_abs, p_range, p_range2, p_all, p_any, p_sum, p_gcd, p_append, p_items, p_itemsT, p_itemsS, p_subL, p_subT, at0, at1, at2, truth_b, lt_zero, lt_succ, ln_cons, ln_nil, p_slc, p_putL, true_and, and_true, decide_eq_true_eq, m_on, q_eqI, q_neI, Option.some.injEq, exists_eq_left', exists_eq_left, if_true, if_false, eq_self, Bool.false_eq_true, Bool.not_eq_true, List.length_map, reduceCtorEq, not_false_eq_true, sat_ite, s_ok, q_eqS, q_neS, q_eqB, q_neB, i_bb, i_tt, i_ll, p_end, p_endN, ne_eq, rng0, Int.toNat_natCast, List.length_range, p_sumN, line, truth_nl, a0]
      by_cases hq : q = p
      · subst hq
        have e0 : kfn g ps q = some (q :: r) := by unfold kfn; rw [ekn]; simp
        rw [e0]
        simp
        omega
      · have e0 : kfn g ps p = none := by unfold kfn; rw [ekn]; simp [hq]
        rw [e0]
        simp [hq]
        omega
  · rintro ρ ⟨x4, x5, x6, rfl⟩
    rw [List.take_length]
    exact ⟨_, _, _, rfl⟩
  · rintro ρ ⟨x4, x5, x6, rfl⟩
    simp only [x_skip, x_seq, x_asg, x_aug, x_ex, x_ite, x_for, x_ret, x_brk, x_cnt, t_var, t_tup, t_tupL, t_nil, t_cons, t_sub, n_var, n_tup, n_nil, n_cons, c_cons', c_lst, c_neg, c_tup, e_nil, e_cons, e_var, e_lit, e_tup, e_lst, e_neg, e_not, e_bin, e_cmp, e_and, e_or, e_ite, e_sub, e_slc, e_call, e_bi, e_isi, e_app, e_pop, e_comp, e_dcomp, i_sat, g_zero, g_succ, z_zero, z_succ, wipe_nil, wipe_cons, p_add, p_sub, p_mul, p_fdiv, p_mod, p_pow, p_addL, p_addT, p_auga, p_augs, q_lt, q_le, q_gt, q_ge, q_isN, q_isnotN, q_in, q_notin, q_in_ints, p_len, p_lenT, p_lenS, p_list, p_listT, p_int, p_intB, p_abs, p_range, p_range2, p_all, p_any, p_sum, p_gcd, p_append, p_items, p_itemsT, p_itemsS, p_subL, p_subT, at0, at1, at2, truth_b, lt_zero, lt_succ, ln_cons, ln_nil, p_slc, p_putL, true_and, and_true, decide_eq_true_eq, m_on, q_eqI, q_neI, Option.some.injEq, exists_eq_left', exists_eq_left, if_true, if_false, eq_self, Bool.false_eq_true, Bool.not_eq_true, List.length_map, reduceCtorEq, not_false_eq_true, sat_ite, s_ok, q_eqS, q_neS, q_eqB, q_neB, i_bb, i_tt, i_ll, p_end, p_endN, ne_eq, rng0, Int.toNat_natCast, List.length_range, p_sumN, line]
def KnotsOk (Φ : Calls) (f : Nat) : Prop := ∀ (g : List Pl) (ps : List Nat), (∀ q ∈ g, q.tg.length ≤ 1000) → (∀ k ∈ ps, k < g.length) → ps.length ≤ 1000 → (Φ f [.list (g.map encP), .list (ps.map nI)]).sat fun d => d = .list ((knotsL (tgOf g) ps).map fun l => .list (l.map nI))
def StayOk (Φ : Calls) (f : Nat) : Prop := ∀ (g : List Pl) (ps : List Nat), (∀ p ∈ g, p.tg.length ≤ 1000) → (∀ k ∈ ps, k < g.length) → ps.length ≤ g.length → g.length ≤ 1000 → (Φ f [.list (g.map encP), .list (ps.map nI)]).sat fun d => d = .list ((stays g ps).map nI)
/-! lists of lists in order -/
noncomputable def sortL (L : List (List Nat)) : List (List Nat) := L.mergeSort fun a b => PySem.W.dataLe false cast (.list (a.map nI)) (.list (b.map nI))
theorem mem_sortL {L : List (List Nat)} {l : List Nat} : l ∈ sortL L ↔ l ∈ L := (List.mergeSort_perm L _).mem_iff
theorem castA_nI : ∀ l : List Nat, cast.castA (l.map nI) = (l.map fun n : Nat => (n : Int)).map PyData.int
  | [] => rfl
  | a :: r => by
    show PyData.int a :: cast.castA (r.map nI) = _
    rw [castA_nI r]; rfl
theorem cast_nI (l : List Nat) : cast (.list (l.map nI)) = .list ((l.map fun n : Nat => (n : Int)).map PyData.int) := by
  show PyData.list (cast.castA (l.map nI)) = _
  rw [castA_nI]
theorem p_sortL {L : List (List Nat)} {P : D → Prop} : (biD .sorted [.list (L.map fun l => .list (l.map nI))]).sat P = P (.list ((sortL L).map fun l => .list (l.map nI))) := by
  cases L with
  | nil =>
    show (Res.ok (D.list ((srt []).map D.int))).sat P = _
    rw [s_ok]
    have : sortL [] = [] := by simp [sortL]
    rw [this]
    rfl
  | cons a r =>
    have e : biD .sorted [.list ((a :: r).map fun l => .list (l.map nI))] = if sdOk ((a :: r).map fun l => .list (l.map nI)) then Res.ok (.list (sortD ((a :: r).map fun l => .list (l.map nI)))) else .stk := rfl
    rw [e]
    have ok : sdOk ((a :: r).map fun l => .list (l.map nI)) = true := by
      unfold sdOk
      simp only [Bool.and_eq_true, Bool.or_eq_true, List.all_map, List.all_eq_true, Function.comp]
      refine ⟨⟨fun l _ => ?_, fun l _ m _ => ?_⟩, .inr fun l _ => trivial⟩
      · simp only [shpB, List.all_map, List.all_eq_true, Function.comp]
        exact fun _ _ => trivial
      · rw [cast_nI, cast_nI]
        show PySem.W.alikeAll _ _ = true
        exact PySem.W.alike_ints _ _
    rw [if_pos ok, s_ok]
    unfold sortD sortL
    rw [List.map_mergeSort (s := PySem.W.dataLe false cast) fun a _ b _ => rfl]
theorem truth_map {α : Type} {f : α → D} {L : List α} : truth (.list (L.map f)) = decide (L ≠ []) := by cases L <;> simp [truth]
theorem p_popL {α : Type} {f : α → D} {ws : List α} {w : α} {P : D × D → Prop} : (mtM .pop (.list ((ws ++ [w]).map f)) []).sat P = P (f w, .list (ws.map f)) := by
  rw [List.map_append]
  simp [mtM, s_ok]
theorem ne_len {L : List (List Nat)} (h : ∀ l ∈ L, l ≠ []) : L.length ≤ L.flatten.length := by
  induction L with
  | nil => simp
  | cons l r ih =>
    have h1 := ih fun m hm => h m (List.mem_cons_of_mem _ hm)
    have h3 := List.length_pos_iff.mpr (h l List.mem_cons_self)
    rw [List.flatten_cons, List.length_append, List.length_cons]; omega
theorem gms_ge {L : List (List Nat)} : L.length ≤ gms L := by
  induction L with
  | nil => simp
  | cons l r ih =>
    have e : gms (l :: r) = gf l + gms r := rfl
    have : 1 ≤ gf l := by
      unfold gf; split
      · exact Nat.le_refl _
      · rename_i h; have := List.length_pos_iff.mpr h; omega
    rw [e, List.length_cons]; omega
def GreatOk (Φ : Calls) (f : Nat) : Prop := ∀ (g : List Pl) (ps : List Nat), (∀ q ∈ g, q.tg.length ≤ 1000) → (∀ k ∈ ps, k < g.length) → ps.Nodup → g.length ≤ 1000 → (Φ f [.list (g.map encP), .list (ps.map nI)]).sat fun d => ∃ fnd : List (List Nat), d = .list ((sortL fnd).map fun l => .list (l.map nI)) ∧ GInv g ps fnd []
/-- greatest_companies(game, places) -/
theorem sp_great {Φ : Calls} {c0 c1 c2 : Nat} (hk : KnotsOk Φ c0) (hs : StayOk Φ c1) (hc : KeptOk Φ c2) {g : List Pl} {ps : List Nat} (hz : ∀ q ∈ g, q.tg.length ≤ 1000) (hps : ∀ k ∈ ps, k < g.length) (nd : ps.Nodup) (hg : g.length ≤ 1000) : (runFn Φ ⟨2, 5, aGreat c0 c1 c2⟩ [.list (g.map encP), .list (ps.map nI)]).sat fun d => ∃ fnd : List (List Nat), d = .list ((sortL fnd).map fun l => .list (l.map nI)) ∧ GInv g ps fnd [] := by
  have hl : ps.length ≤ g.length := by
    have := nodup_len (m := List.range g.length) nd fun a ha => List.mem_range.mpr (hps a ha)
    rwa [List.length_range] at this
  rw [run_eq]
  refine ⟨⟨rfl, by decide⟩, ?_⟩
  show (exec Φ (aGreat c0 c1 c2) [some (.list (g.map encP)), some (.list (ps.map nI)), none, none, none]).sat _ _ _ _
  unfold aGreat
  simp only [x_skip, x_seq, x_asg, x_aug, x_ex, x_ite, x_for, x_ret, x_brk, x_cnt, t_var, t_tup, t_tupL, t_nil, t_cons, t_sub, n_var, n_tup, n_nil, n_cons, c_cons', c_lst, c_neg, c_tup, e_nil, e_cons, e_var, e_lit, e_tup, e_lst, e_neg, e_not, e_bin, e_cmp, e_and, e_or, e_ite, e_sub, e_slc, e_call, e_bi, e_isi, e_app, e_pop, e_comp, e_dcomp, i_sat, g_zero, g_succ, z_zero, z_succ, wipe_nil, wipe_cons, p_add, p_sub, p_mul, p_fdiv, p_mod, p_pow, p_addL, p_addT, p_auga, p_augs, q_lt, q_le, q_gt, q_ge, q_isN, q_isnotN, q_in, q_notin, q_in_ints, p_len, p_lenT, p_lenS, p_list, p_listT, p_int, p_intB, p_abs, p_range, p_range2, p_all, p_any, p_sum, p_gcd, p_append, p_items, p_itemsT, p_itemsS, p_subL, p_subT, at0, at1, at2, truth_b, lt_zero, lt_succ, ln_cons, ln_nil, p_slc, p_putL, true_and, and_true, decide_eq_true_eq, m_on, q_eqI, q_neI, Option.some.injEq, exists_eq_left', exists_eq_left, if_true, if_false, eq_self, Bool.false_eq_true, Bool.not_eq_true, List.length_map, reduceCtorEq, not_false_eq_true, sat_ite, s_ok, q_eqS, q_neS, q_eqB, q_neB, i_bb, i_tt, i_ll, p_end, p_endN, ne_eq, rng0, Int.toNat_natCast, List.length_range, p_sumN, line, x_wh]
  refine loopW_sat (fun k ρ => ∃ (fnd wt : List (List Nat)) (x4 : Option D), ρ = [some (.list (g.map encP)), some (.list (ps.map nI)), some (.list (fnd.map fun l => .list (l.map nI))), some (.list (wt.map fun l => .list (l.map nI))), x4] ∧ GInv g ps fnd wt ∧ k = gms wt ∧ k ≤ 2 * ps.length + 1) ?_ wturns (gms [ps]) _ ?_ ⟨[], [ps], none, rfl, .start, rfl, ?_⟩
  · rintro k ρ ⟨fnd, wt, x4, rfl, I, hk1, hk2⟩
    simp only [x_skip, x_seq, x_asg, x_aug, x_ex, x_ite, x_for, x_ret, x_brk, x_cnt, t_var, t_tup, t_tupL, t_nil, t_cons, t_sub, n_var, n_tup, n_nil, n_cons, c_cons', c_lst, c_neg, c_tup, e_nil, e_cons, e_var, e_lit, e_tup, e_lst, e_neg, e_not, e_bin, e_cmp, e_and, e_or, e_ite, e_sub, e_slc, e_call, e_bi, e_isi, e_app, e_pop, e_comp, e_dcomp, i_sat, g_zero, g_succ, z_zero, z_succ, wipe_nil, wipe_cons, p_add, p_sub, p_mul, p_fdiv, p_mod, p_pow, p_addL, p_addT, p_auga, p_augs, q_lt, q_le, q_gt, q_ge, q_isN, q_isnotN, q_in, q_notin, q_in_ints, p_len, p_lenT, p_lenS, p_list, p_listT, p_int, p_intB, p_abs, p_range, p_range2, p_all, p_any, p_sum, p_gcd, p_append, p_items, p_itemsT, p_itemsS, p_subL, p_subT, at0, at1, at2, truth_b, lt_zero, lt_succ, ln_cons, ln_nil, p_slc, p_putL, true_and, and_true, decide_eq_true_eq, m_on, q_eqI, q_neI, Option.some.injEq, exists_eq_left', exists_eq_left, if_true, if_false, eq_self, Bool.false_eq_true, Bool.not_eq_true, List.length_map, reduceCtorEq, not_false_eq_true, sat_ite, s_ok, q_eqS, q_neS, q_eqB, q_neB, i_bb, i_tt, i_ll, p_end, p_endN, ne_eq, rng0, Int.toNat_natCast, List.length_range, p_sumN, line, truth_map]
    rcases List.eq_nil_or_concat wt with rfl | ⟨r, P, rfl⟩
    · rw [if_neg (by simp)]
      simp only [x_skip, x_seq, x_asg, x_aug, x_ex, x_ite, x_for, x_ret, x_brk, x_cnt, t_var, t_tup, t_tupL, t_nil, t_cons, t_sub, n_var, n_tup, n_nil, n_cons, c_cons', c_lst, c_neg, c_tup, e_nil, e_cons, e_var, e_lit, e_tup, e_lst, e_neg, e_not, e_bin, e_cmp, e_and, e_or, e_ite, e_sub, e_slc, e_call, e_bi, e_isi, e_app, e_pop, e_comp, e_dcomp, i_sat, g_zero, g_succ, z_zero, z_succ, wipe_nil, wipe_cons, p_add, p_sub, p_mul, p_fdiv, p_mod, p_pow, p_addL, p_addT, p_auga, p_augs, q_lt, q_le, q_gt, q_ge, q_isN, q_isnotN, q_in, q_notin, q_in_ints, p_len, p_lenT, p_lenS, p_list, p_listT, p_int, p_intB, p_abs, p_range, p_range2, p_all, p_any, p_sum, p_gcd, p_append, p_items, p_itemsT, p_itemsS, p_subL, p_subT, at0, at1, at2, truth_b, lt_zero, lt_succ, ln_cons, ln_nil, p_slc, p_putL, true_and, and_true, decide_eq_true_eq, m_on, q_eqI, q_neI, Option.some.injEq, exists_eq_left', exists_eq_left, if_true, if_false, eq_self, Bool.false_eq_true, Bool.not_eq_true, List.length_map, reduceCtorEq, not_false_eq_true, sat_ite, s_ok, q_eqS, q_neS, q_eqB, q_neB, i_bb, i_tt, i_ll, p_end, p_endN, ne_eq, rng0, Int.toNat_natCast, List.length_range, p_sumN, line, p_sortL]
      exact ⟨fnd, rfl, I⟩
    · rw [List.concat_eq_append] at *
      have hPs : P.Sublist ps := I.sub P (by simp)
      have hP : ∀ x ∈ P, x < g.length := fun x hx => hps x (hPs.subset hx)
      have ndP := nd.sublist hPs
      have lP := hPs.length_le
      have lS := (stays_sub (g := g) (P := P)).length_le
      have I2 := I.step nd hps
      have hm := badK_gms (g := g) ndP hP (by omega)
      have gr := gms_ge (L := r)
      have ga := gms_app (A := r) (B := [P])
      have ga2 := gms_app (A := r) (B := badK g P)
      have gP : gms [P] = gf P := by simp [gms]
      have fl : fnd.length ≤ ps.length := by
        have h1 := ne_len (L := fnd) fun l hl => (I.cmp l hl).1
        have h2 := dj_len (L := fnd) (P := ps) (fun l hl => I.sub l (by simp [hl])) nd (List.pairwise_append.mp I.dj).1
        omega
      rw [if_pos (by simp)]
      simp only [x_skip, x_seq, x_asg, x_aug, x_ex, x_ite, x_for, x_ret, x_brk, x_cnt, t_var, t_tup, t_tupL, t_nil, t_cons, t_sub, n_var, n_tup, n_nil, n_cons, c_cons', c_lst, c_neg, c_tup, e_nil, e_cons, e_var, e_lit, e_tup, e_lst, e_neg, e_not, e_bin, e_cmp, e_and, e_or, e_ite, e_sub, e_slc, e_call, e_bi, e_isi, e_app, e_pop, e_comp, e_dcomp, i_sat, g_zero, g_succ, z_zero, z_succ, wipe_nil, wipe_cons, p_add, p_sub, p_mul, p_fdiv, p_mod, p_pow, p_addL, p_addT, p_auga, p_augs, q_lt, q_le, q_gt, q_ge, q_isN, q_isnotN, q_in, q_notin, q_in_ints, p_len, p_lenT, p_lenS, p_list, p_listT, p_int, p_intB, p_abs, p_range, p_range2, p_all, p_any, p_sum, p_gcd, p_append, p_items, p_itemsT, p_itemsS, p_subL, p_subT, at0, at1, at2, truth_b, lt_zero, lt_succ, ln_cons, ln_nil, p_slc, p_putL, true_and, and_true, decide_eq_true_eq, m_on, q_eqI, q_neI, Option.some.injEq, exists_eq_left', exists_eq_left, if_true, if_false, eq_self, Bool.false_eq_true, Bool.not_eq_true, List.length_map, reduceCtorEq, not_false_eq_true, sat_ite, s_ok, q_eqS, q_neS, q_eqB, q_neB, i_bb, i_tt, i_ll, p_end, p_endN, ne_eq, rng0, Int.toNat_natCast, List.length_range, p_sumN, line, m_onp, p_popL]
      refine (hs g P hz hP (by omega) hg).imp fun d e => ?_
      subst e
      refine (hk g _ hz (fun k h => hP k (stays_sub.subset h)) (by omega)).imp fun d e => ?_
      subst e
      have kl : (knotsL (tgOf g) (stays g P)).length ≤ ps.length := by
        have := List.length_filterMap_le (fun p => if (knot (tgOf g) (stays g P) p).head? = some p then some (knot (tgOf g) (stays g P) p) else none) (stays g P)
        unfold knotsL
        omega
      simp only [x_skip, x_seq, x_asg, x_aug, x_ex, x_ite, x_for, x_ret, x_brk, x_cnt, t_var, t_tup, t_tupL, t_nil, t_cons, t_sub, n_var, n_tup, n_nil, n_cons, c_cons', c_lst, c_neg, c_tup, e_nil, e_cons, e_var, e_lit, e_tup, e_lst, e_neg, e_not, e_bin, e_cmp, e_and, e_or, e_ite, e_sub, e_slc, e_call, e_bi, e_isi, e_app, e_pop, e_comp, e_dcomp, i_sat, g_zero, g_succ, z_zero, z_succ, wipe_nil, wipe_cons, p_add, p_sub, p_mul, p_fdiv, p_mod, p_pow, p_addL, p_addT, p_auga, p_augs, q_lt, q_le, q_gt, q_ge, q_isN, q_isnotN, q_in, q_notin, q_in_ints, p_len, p_lenT, p_lenS, p_list, p_listT, p_int, p_intB, p_abs, p_range, p_range2, p_all, p_any, p_sum, p_gcd, p_append, p_items, p_itemsT, p_itemsS, p_subL, p_subT, at0, at1, at2, truth_b, lt_zero, lt_succ, ln_cons, ln_nil, p_slc, p_putL, true_and, and_true, decide_eq_true_eq, m_on, q_eqI, q_neI, Option.some.injEq, exists_eq_left', exists_eq_left, if_true, if_false, eq_self, Bool.false_eq_true, Bool.not_eq_true, List.length_map, reduceCtorEq, not_false_eq_true, sat_ite, s_ok, q_eqS, q_neS, q_eqB, q_neB, i_bb, i_tt, i_ll, p_end, p_endN, ne_eq, rng0, Int.toNat_natCast, List.length_range, p_sumN, line]
      refine loop_map (fun i ρ => ∃ x4 : Option D, ρ = [some (.list (g.map encP)), some (.list (ps.map nI)), some (.list ((fnd ++ ((knotsL (tgOf g) (stays g P)).take i).filter fun K => keptB g K).map fun l => .list (l.map nI))), some (.list ((r ++ ((knotsL (tgOf g) (stays g P)).take i).filter fun K => !keptB g K).map fun l => .list (l.map nI))), x4])
        (fun ρ => ∃ x4 : Option D, ρ = [some (.list (g.map encP)), some (.list (ps.map nI)), some (.list ((fnd ++ goodK g P).map fun l => .list (l.map nI))), some (.list ((r ++ badK g P).map fun l => .list (l.map nI))), x4]) ⟨x4, by simp⟩ ?_ ?_ ?_
      · rintro i K ρ hi ⟨y4, rfl⟩
        have hi2 : i < (knotsL (tgOf g) (stays g P)).length := (List.getElem?_eq_some_iff.mp hi).1
        have hK := knotsL_sub (List.mem_of_getElem? hi)
        simp only [x_skip, x_seq, x_asg, x_aug, x_ex, x_ite, x_for, x_ret, x_brk, x_cnt, t_var, t_tup, t_tupL, t_nil, t_cons, t_sub, n_var, n_tup, n_nil, n_cons, c_cons', c_lst, c_neg, c_tup, e_nil, e_cons, e_var, e_lit, e_tup, e_lst, e_neg, e_not, e_bin, e_cmp, e_and, e_or, e_ite, e_sub, e_slc, e_call, e_bi, e_isi, e_app, e_pop, e_comp, e_dcomp, i_sat, g_zero, g_succ, z_zero, z_succ, wipe_nil, wipe_cons, p_add, p_sub, p_mul, p_fdiv, p_mod, p_pow, p_addL, p_addT, p_auga, p_augs, q_lt, q_le, q_gt, q_ge, q_isN, q_isnotN, q_in, q_notin, q_in_ints, p_len, p_lenT, p_lenS, p_list, p_listT, p_int, p_intB, p_abs, p_range, p_range2, p_all, p_any, p_sum, p_gcd, p_append, p_items, p_itemsT, p_itemsS, p_subL, p_subT, at0, at1, at2, truth_b, lt_zero, lt_succ, ln_cons, ln_nil, p_slc, p_putL, true_and, and_true, decide_eq_true_eq, m_on, q_eqI, q_neI, Option.some.injEq, exists_eq_left', exists_eq_left, if_true, if_false, eq_self, Bool.false_eq_true, Bool.not_eq_true, List.length_map, reduceCtorEq, not_false_eq_true, sat_ite, s_ok, q_eqS, q_neS, q_eqB, q_neB, i_bb, i_tt, i_ll, p_end, p_endN, ne_eq, rng0, Int.toNat_natCast, List.length_range, p_sumN, line]
        refine (hc g K hz (fun k h => hP k (stays_sub.subset (hK.subset h))) (by have := hK.length_le; omega)).imp fun d e => ?_
        subst e
        have ft : ∀ p : List Nat → Bool, ((knotsL (tgOf g) (stays g P)).take (i + 1)).filter p = ((knotsL (tgOf g) (stays g P)).take i).filter p ++ (if p K = true then [K] else []) := fun p => by
          rw [List.take_add_one, hi, List.filter_append]
          congr 1
          cases h : p K <;> simp [h]
        have fle : ∀ p : List Nat → Bool, (((knotsL (tgOf g) (stays g P)).take i).filter p).length ≤ i := fun p => by
          have := List.length_filter_le p ((knotsL (tgOf g) (stays g P)).take i)
          rw [List.length_take] at this; omega
        have f1 := fle fun K => keptB g K
        have f2 := fle fun K => !keptB g K
        rw [ft, ft]
        simp only [x_skip, x_seq, x_asg, x_aug, x_ex, x_ite, x_for, x_ret, x_brk, x_cnt, t_var, t_tup, t_tupL, t_nil, t_cons, t_sub, n_var, n_tup, n_nil, n_cons, c_cons', c_lst, c_neg, c_tup, e_nil, e_cons, e_var, e_lit, e_tup, e_lst, e_neg, e_not, e_bin, e_cmp, e_and, e_or, e_ite, e_sub, e_slc, e_call, e_bi, e_isi, e_app, e_pop, e_comp, e_dcomp, i_sat, g_zero, g_succ, z_zero, z_succ, wipe_nil, wipe_cons, p_add, p_sub, p_mul, p_fdiv, p_mod, p_pow, p_addL, p_addT, p_auga, p_augs, q_lt, q_le, q_gt, q_ge, q_isN, q_isnotN, q_in, q_notin, q_in_ints, p_len, p_lenT, p_lenS, p_list, p_listT, p_int, p_intB, p_abs, p_range, p_range2, p_all, p_any, p_sum, p_gcd, p_append, p_items, p_itemsT, p_itemsS, p_subL, p_subT, at0, at1, at2, truth_b, lt_zero, lt_succ, ln_cons, ln_nil, p_slc, p_putL, true_and, and_true, decide_eq_true_eq, m_on, q_eqI, q_neI, Option.some.injEq, exists_eq_left', exists_eq_left, if_true, if_false, eq_self, Bool.false_eq_true, Bool.not_eq_true, List.length_map, reduceCtorEq, not_false_eq_true, sat_ite, s_ok, q_eqS, q_neS, q_eqB, q_neB, i_bb, i_tt, i_ll, p_end, p_endN, ne_eq, rng0, Int.toNat_natCast, List.length_range, p_sumN, line]
        cases hb : keptB g K
        · simp
          omega
        · simp
          omega
      · rintro ρ ⟨y4, rfl⟩
        rw [List.take_length]
        exact ⟨y4, rfl⟩
      · rintro ρ ⟨y4, rfl⟩
        exact ⟨gms (r ++ badK g P), by omega, fnd ++ goodK g P, r ++ badK g P, y4, rfl, I2, rfl, by omega⟩
  · have e : gms [ps] = gf ps := by simp [gms]
    rw [e]
    unfold gf wturns
    split <;> omega
  · have e : gms [ps] = gf ps := by simp [gms]
    rw [e]
    unfold gf
    split <;> omega
/-! marks -/
def mkOf (g : List Pl) (k : Nat) : Nat := (g.getD k (.side 0 true [])).mark
def topM (g : List Pl) (l : List Nat) : Nat := (l.map (mkOf g)).foldl max 0
theorem fmax {ns : List Nat} {a : Nat} : a ≤ ns.foldl max a ∧ (∀ x ∈ ns, x ≤ ns.foldl max a) ∧ (ns.foldl max a = a ∨ ns.foldl max a ∈ ns) := by
  induction ns generalizing a with
  | nil => exact ⟨Nat.le_refl _, by simp, .inl rfl⟩
  | cons b r ih =>
    obtain ⟨h1, h2, h3⟩ := ih (a := max a b)
    simp only [List.foldl_cons]
    refine ⟨by omega, fun x hx => ?_, ?_⟩
    · rcases List.mem_cons.mp hx with rfl | hx
      · omega
      · exact h2 x hx
    · rcases h3 with h | h
      · rw [h]
        rcases Nat.le_total a b with q | q
        · rw [Nat.max_eq_right q]; exact .inr List.mem_cons_self
        · rw [Nat.max_eq_left q]; exact .inl rfl
      · exact .inr (List.mem_cons_of_mem _ h)
theorem topM_spec {g : List Pl} {l : List Nat} (h : l ≠ []) : (∀ x ∈ l, mkOf g x ≤ topM g l) ∧ ∃ x ∈ l, mkOf g x = topM g l := by
  obtain ⟨_, h2, h3⟩ := fmax (ns := l.map (mkOf g)) (a := 0)
  refine ⟨fun x hx => h2 _ (List.mem_map_of_mem hx), ?_⟩
  rcases h3 with h3 | h3
  · obtain ⟨x, hx⟩ := List.exists_mem_of_ne_nil _ h
    have := h2 _ (List.mem_map_of_mem (f := mkOf g) hx)
    refine ⟨x, hx, ?_⟩
    unfold topM
    omega
  · obtain ⟨x, hx, e⟩ := List.mem_map.mp h3
    exact ⟨x, hx, e⟩
theorem mx_nat : ∀ (r : List Nat) (a : Nat), mx (a : Int) (r.map fun n : Nat => (n : Int)) = ((r.foldl max a : Nat) : Int)
  | [], a => rfl
  | b :: r, a => by
    simp only [List.map_cons, mx, List.foldl_cons]
    rw [← mx_nat r (max a b)]
    congr 1
    split
    · rw [Nat.max_eq_right (by omega)]
    · rw [Nat.max_eq_left (by omega)]
theorem p_maxN {ns : List Nat} {P : D → Prop} (h : ns ≠ []) : (biD .max [.list (ns.map nI)]).sat P = P (nI (ns.foldl max 0)) := by
  cases ns with
  | nil => exact absurd rfl h
  | cons a r =>
    have e : biD .max [.list ((a :: r).map nI)] = (match intsD ((a :: r).map nI) with | some (a :: r) => Res.ok (D.int (mx a r)) | _ => .stk) := rfl
    have ei : ∀ l : List Nat, intsD (l.map nI) = some (l.map fun n : Nat => (n : Int)) := by
      intro l
      induction l with
      | nil => rfl
      | cons a r ih =>
        show (intsD (r.map nI)).map _ = _
        rw [ih]; rfl
    rw [e, ei]
    show (Res.ok (D.int (mx (a : Int) (r.map fun n : Nat => (n : Int))))).sat P = _
    rw [s_ok, mx_nat, List.foldl_cons, Nat.zero_max]
theorem p_mark {p : Pl} {P : D → Prop} : (subD (encP p) (.int 0)).sat P = P (nI p.mark) := by
  cases p <;> simp only [encP, p_subT, at0, Option.some.injEq, exists_eq_left', Pl.mark]
/-- company_mark(game, places) -/
theorem sp_cmark {Φ : Calls} {g : List Pl} {ps : List Nat} (hps : ∀ k ∈ ps, k < g.length) (hn : ps ≠ []) (hl : ps.length ≤ 1000) : (runFn Φ ⟨2, 3, aCMark⟩ [.list (g.map encP), .list (ps.map nI)]).sat fun d => d = nI (topM g ps) := by
  rw [run_eq]
  refine ⟨⟨rfl, by decide⟩, ?_⟩
  show (exec Φ aCMark [some (.list (g.map encP)), some (.list (ps.map nI)), none]).sat _ _ _ _
  unfold aCMark
  simp only [x_skip, x_seq, x_asg, x_aug, x_ex, x_ite, x_for, x_ret, x_brk, x_cnt, t_var, t_tup, t_tupL, t_nil, t_cons, t_sub, n_var, n_tup, n_nil, n_cons, c_cons', c_lst, c_neg, c_tup, e_nil, e_cons, e_var, e_lit, e_tup, e_lst, e_neg, e_not, e_bin, e_cmp, e_and, e_or, e_ite, e_sub, e_slc, e_call, e_bi, e_isi, e_app, e_pop, e_comp, e_dcomp, i_sat, g_zero, g_succ, z_zero, z_succ, wipe_nil, wipe_cons, p_add, p_sub, p_mul, p_fdiv, p_mod, p_pow, p_addL, p_addT, p_auga, p_augs, q_lt, q_le, q_gt, q_ge, q_isN, q_isnotN, q_in, q_notin, q_in_ints, p_len, p_lenT, p_lenS, p_list, p_listT, p_int, p_intB, p_abs, p_range, p_range2, p_all, p_any, p_sum, p_gcd, p_append, p_items, p_itemsT, p_itemsS, p_subL, p_subT, at0, at1, at2, truth_b, lt_zero, lt_succ, ln_cons, ln_nil, p_slc, p_putL, true_and, and_true, decide_eq_true_eq, m_on, q_eqI, q_neI, Option.some.injEq, exists_eq_left', exists_eq_left, if_true, if_false, eq_self, Bool.false_eq_true, Bool.not_eq_true, List.length_map, reduceCtorEq, not_false_eq_true, sat_ite, s_ok, q_eqS, q_neS, q_eqB, q_neB, i_bb, i_tt, i_ll, p_end, p_endN, ne_eq, rng0, Int.toNat_natCast, List.length_range, p_sumN, line]
  refine ⟨by omega, fm_map (as := ps) (ea := nI) (eb := nI) (mkOf g) (fun k hk => ?_) ?_⟩
  · have ea := atG (g := g) (i := (k : Int)) k rfl (hps k hk)
    simp only [x_skip, x_seq, x_asg, x_aug, x_ex, x_ite, x_for, x_ret, x_brk, x_cnt, t_var, t_tup, t_tupL, t_nil, t_cons, t_sub, n_var, n_tup, n_nil, n_cons, c_cons', c_lst, c_neg, c_tup, e_nil, e_cons, e_var, e_lit, e_tup, e_lst, e_neg, e_not, e_bin, e_cmp, e_and, e_or, e_ite, e_sub, e_slc, e_call, e_bi, e_isi, e_app, e_pop, e_comp, e_dcomp, i_sat, g_zero, g_succ, z_zero, z_succ, wipe_nil, wipe_cons, p_add, p_sub, p_mul, p_fdiv, p_mod, p_pow, p_addL, p_addT, p_auga, p_augs, q_lt, q_le, q_gt, q_ge, q_isN, q_isnotN, q_in, q_notin, q_in_ints, p_len, p_lenT, p_lenS, p_list, p_listT, p_int, p_intB, p_abs, p_range, p_range2, p_all, p_any, p_sum, p_gcd, p_append, p_items, p_itemsT, p_itemsS, p_subL, p_subT, at0, at1, at2, truth_b, lt_zero, lt_succ, ln_cons, ln_nil, p_slc, p_putL, true_and, and_true, decide_eq_true_eq, m_on, q_eqI, q_neI, Option.some.injEq, exists_eq_left', exists_eq_left, if_true, if_false, eq_self, Bool.false_eq_true, Bool.not_eq_true, List.length_map, reduceCtorEq, not_false_eq_true, sat_ite, s_ok, q_eqS, q_neS, q_eqB, q_neB, i_bb, i_tt, i_ll, p_end, p_endN, ne_eq, rng0, Int.toNat_natCast, List.length_range, p_sumN, line, ea, p_mark]
    unfold mkOf
    rw [getD_at (hps k hk)]
  · rw [p_maxN (by simpa using hn)]
    rfl
def CMarkOk (Φ : Calls) (f : Nat) : Prop := ∀ (g : List Pl) (ps : List Nat), (∀ k ∈ ps, k < g.length) → ps ≠ [] → ps.length ≤ 1000 → (Φ f [.list (g.map encP), .list (ps.map nI)]).sat fun d => d = nI (topM g ps)
def lowM (g : List Pl) (ps : List Nat) (m : Nat) : List Nat := ps.filter fun k => decide (mkOf g k ≤ m)
noncomputable def topd (g : List Pl) (fnd : List (List Nat)) (m : Nat) : List (List Nat) := (sortL fnd).filter fun l => decide (topM g l = m)
def ToppedOk (Φ : Calls) (f : Nat) : Prop := ∀ (g : List Pl) (ps : List Nat) (m : Nat), (∀ q ∈ g, q.tg.length ≤ 1000) → (∀ k ∈ ps, k < g.length) → ps.Nodup → g.length ≤ 1000 → (Φ f [.list (g.map encP), .list (ps.map nI), nI m]).sat fun d => ∃ fnd : List (List Nat), d = .list ((topd g fnd m).map fun l => .list (l.map nI)) ∧ GInv g (lowM g ps m) fnd []
/-- topped(game, places, mark) -/
theorem sp_topped {Φ : Calls} {c0 c1 : Nat} (hgr : GreatOk Φ c0) (hm : CMarkOk Φ c1) {g : List Pl} {ps : List Nat} {m : Nat} (hz : ∀ q ∈ g, q.tg.length ≤ 1000) (hps : ∀ k ∈ ps, k < g.length) (nd : ps.Nodup) (hg : g.length ≤ 1000) : (runFn Φ ⟨3, 6, aTopped c0 c1⟩ [.list (g.map encP), .list (ps.map nI), nI m]).sat fun d => ∃ fnd : List (List Nat), d = .list ((topd g fnd m).map fun l => .list (l.map nI)) ∧ GInv g (lowM g ps m) fnd [] := by
  have hl : ps.length ≤ g.length := by
    have := nodup_len (m := List.range g.length) nd fun a ha => List.mem_range.mpr (hps a ha)
    rwa [List.length_range] at this
  have sl : (lowM g ps m).Sublist ps := List.filter_sublist
  have ll := sl.length_le
  rw [run_eq]
  refine ⟨⟨rfl, by decide⟩, ?_⟩
  show (exec Φ (aTopped c0 c1) [some (.list (g.map encP)), some (.list (ps.map nI)), some (nI m), none, none, none]).sat _ _ _ _
  unfold aTopped
  simp only [x_skip, x_seq, x_asg, x_aug, x_ex, x_ite, x_for, x_ret, x_brk, x_cnt, t_var, t_tup, t_tupL, t_nil, t_cons, t_sub, n_var, n_tup, n_nil, n_cons, c_cons', c_lst, c_neg, c_tup, e_nil, e_cons, e_var, e_lit, e_tup, e_lst, e_neg, e_not, e_bin, e_cmp, e_and, e_or, e_ite, e_sub, e_slc, e_call, e_bi, e_isi, e_app, e_pop, e_comp, e_dcomp, i_sat, g_zero, g_succ, z_zero, z_succ, wipe_nil, wipe_cons, p_add, p_sub, p_mul, p_fdiv, p_mod, p_pow, p_addL, p_addT, p_auga, p_augs, q_lt, q_le, q_gt, q_ge, q_isN, q_isnotN, q_in, q_notin, q_in_ints, p_len, p_lenT, p_lenS, p_list, p_listT, p_int, p_intB, p_abs, p_range, p_range2, p_all, p_any, p_sum, p_gcd, p_append, p_items, p_itemsT, p_itemsS, p_subL, p_subT, at0, at1, at2, truth_b, lt_zero, lt_succ, ln_cons, ln_nil, p_slc, p_putL, true_and, and_true, decide_eq_true_eq, m_on, q_eqI, q_neI, Option.some.injEq, exists_eq_left', exists_eq_left, if_true, if_false, eq_self, Bool.false_eq_true, Bool.not_eq_true, List.length_map, reduceCtorEq, not_false_eq_true, sat_ite, s_ok, q_eqS, q_neS, q_eqB, q_neB, i_bb, i_tt, i_ll, p_end, p_endN, ne_eq, rng0, Int.toNat_natCast, List.length_range, p_sumN, line]
  refine ⟨by omega, fm_filter (as := ps) (ea := nI) (eb := nI) (fun k => if mkOf g k ≤ m then some k else none) (fun k hk => ?_) ?_⟩
  · have ea := atG (g := g) (i := (k : Int)) k rfl (hps k hk)
    simp only [x_skip, x_seq, x_asg, x_aug, x_ex, x_ite, x_for, x_ret, x_brk, x_cnt, t_var, t_tup, t_tupL, t_nil, t_cons, t_sub, n_var, n_tup, n_nil, n_cons, c_cons', c_lst, c_neg, c_tup, e_nil, e_cons, e_var, e_lit, e_tup, e_lst, e_neg, e_not, e_bin, e_cmp, e_and, e_or, e_ite, e_sub, e_slc, e_call, e_bi, e_isi, e_app, e_pop, e_comp, e_dcomp, i_sat, g_zero, g_succ, z_zero, z_succ, wipe_nil, wipe_cons, p_add, p_sub, p_mul, p_fdiv, p_mod, p_pow, p_addL, p_addT, p_auga, p_augs, q_lt, q_le, q_gt, q_ge, q_isN, q_isnotN, q_in, q_notin, q_in_ints, p_len, p_lenT, p_lenS, p_list, p_listT, p_int, p_intB, p_abs, p_range, p_range2, p_all, p_any, p_sum, p_gcd, p_append, p_items, p_itemsT, p_itemsS, p_subL, p_subT, at0, at1, at2, truth_b, lt_zero, lt_succ, ln_cons, ln_nil, p_slc, p_putL, true_and, and_true, decide_eq_true_eq, m_on, q_eqI, q_neI, Option.some.injEq, exists_eq_left', exists_eq_left, if_true, if_false, eq_self, Bool.false_eq_true, Bool.not_eq_true, List.length_map, reduceCtorEq, not_false_eq_true, sat_ite, s_ok, q_eqS, q_neS, q_eqB, q_neB, i_bb, i_tt, i_ll, p_end, p_endN, ne_eq, rng0, Int.toNat_natCast, List.length_range, p_sumN, line, ea, p_mark]
    unfold mkOf
    rw [getD_at (hps k hk)]
    by_cases h : (g[k]'(hps k hk)).mark ≤ m
    · rw [if_pos (by omega), if_pos h]; rfl
    · rw [if_neg (by omega), if_neg h]; rfl
  have el : (ps.filterMap fun k => if mkOf g k ≤ m then some k else none) = lowM g ps m := by
    exact fm_guard ps
  rw [el]
  refine (hgr g _ hz (fun k h => hps k (sl.subset h)) (nd.sublist sl) hg).imp fun d ⟨fnd, e, I⟩ => ?_
  subst e
  obtain ⟨f1, f2, f3⟩ := I.fin
  have lf : fnd.length ≤ 1000 := by
    have h1 := ne_len (L := fnd) fun l hl => (f1 l hl).2.1
    have h2 := dj_len (L := fnd) (fun l hl => (f1 l hl).1) (nd.sublist sl) f3
    omega
  have ls : (sortL fnd).length = fnd.length := (List.mergeSort_perm fnd _).length_eq
  simp only [x_skip, x_seq, x_asg, x_aug, x_ex, x_ite, x_for, x_ret, x_brk, x_cnt, t_var, t_tup, t_tupL, t_nil, t_cons, t_sub, n_var, n_tup, n_nil, n_cons, c_cons', c_lst, c_neg, c_tup, e_nil, e_cons, e_var, e_lit, e_tup, e_lst, e_neg, e_not, e_bin, e_cmp, e_and, e_or, e_ite, e_sub, e_slc, e_call, e_bi, e_isi, e_app, e_pop, e_comp, e_dcomp, i_sat, g_zero, g_succ, z_zero, z_succ, wipe_nil, wipe_cons, p_add, p_sub, p_mul, p_fdiv, p_mod, p_pow, p_addL, p_addT, p_auga, p_augs, q_lt, q_le, q_gt, q_ge, q_isN, q_isnotN, q_in, q_notin, q_in_ints, p_len, p_lenT, p_lenS, p_list, p_listT, p_int, p_intB, p_abs, p_range, p_range2, p_all, p_any, p_sum, p_gcd, p_append, p_items, p_itemsT, p_itemsS, p_subL, p_subT, at0, at1, at2, truth_b, lt_zero, lt_succ, ln_cons, ln_nil, p_slc, p_putL, true_and, and_true, decide_eq_true_eq, m_on, q_eqI, q_neI, Option.some.injEq, exists_eq_left', exists_eq_left, if_true, if_false, eq_self, Bool.false_eq_true, Bool.not_eq_true, List.length_map, reduceCtorEq, not_false_eq_true, sat_ite, s_ok, q_eqS, q_neS, q_eqB, q_neB, i_bb, i_tt, i_ll, p_end, p_endN, ne_eq, rng0, Int.toNat_natCast, List.length_range, p_sumN, line]
  refine ⟨by omega, fm_filter (as := sortL fnd) (ea := fun l : List Nat => .list (l.map nI)) (eb := fun l : List Nat => .list (l.map nI)) (fun l => if topM g l = m then some l else none) (fun l hl => ?_) ⟨fnd, ?_, I⟩⟩
  · obtain ⟨q1, q2, _⟩ := f1 l (mem_sortL.mp hl)
    have hsub := q1.trans sl
    simp only [x_skip, x_seq, x_asg, x_aug, x_ex, x_ite, x_for, x_ret, x_brk, x_cnt, t_var, t_tup, t_tupL, t_nil, t_cons, t_sub, n_var, n_tup, n_nil, n_cons, c_cons', c_lst, c_neg, c_tup, e_nil, e_cons, e_var, e_lit, e_tup, e_lst, e_neg, e_not, e_bin, e_cmp, e_and, e_or, e_ite, e_sub, e_slc, e_call, e_bi, e_isi, e_app, e_pop, e_comp, e_dcomp, i_sat, g_zero, g_succ, z_zero, z_succ, wipe_nil, wipe_cons, p_add, p_sub, p_mul, p_fdiv, p_mod, p_pow, p_addL, p_addT, p_auga, p_augs, q_lt, q_le, q_gt, q_ge, q_isN, q_isnotN, q_in, q_notin, q_in_ints, p_len, p_lenT, p_lenS, p_list, p_listT, p_int, p_intB, p_abs, p_range, p_range2, p_all, p_any, p_sum, p_gcd, p_append, p_items, p_itemsT, p_itemsS, p_subL, p_subT, at0, at1, at2, truth_b, lt_zero, lt_succ, ln_cons, ln_nil, p_slc, p_putL, true_and, and_true, decide_eq_true_eq, m_on, q_eqI, q_neI, Option.some.injEq, exists_eq_left', exists_eq_left, if_true, if_false, eq_self, Bool.false_eq_true, Bool.not_eq_true, List.length_map, reduceCtorEq, not_false_eq_true, sat_ite, s_ok, q_eqS, q_neS, q_eqB, q_neB, i_bb, i_tt, i_ll, p_end, p_endN, ne_eq, rng0, Int.toNat_natCast, List.length_range, p_sumN, line]
    refine (hm g l (fun k h => hps k (hsub.subset h)) q2 (by have := hsub.length_le; omega)).imp fun d e => ?_
    subst e
    simp only [x_skip, x_seq, x_asg, x_aug, x_ex, x_ite, x_for, x_ret, x_brk, x_cnt, t_var, t_tup, t_tupL, t_nil, t_cons, t_sub, n_var, n_tup, n_nil, n_cons, c_cons', c_lst, c_neg, c_tup, e_nil, e_cons, e_var, e_lit, e_tup, e_lst, e_neg, e_not, e_bin, e_cmp, e_and, e_or, e_ite, e_sub, e_slc, e_call, e_bi, e_isi, e_app, e_pop, e_comp, e_dcomp, i_sat, g_zero, g_succ, z_zero, z_succ, wipe_nil, wipe_cons, p_add, p_sub, p_mul, p_fdiv, p_mod, p_pow, p_addL, p_addT, p_auga, p_augs, q_lt, q_le, q_gt, q_ge, q_isN, q_isnotN, q_in, q_notin, q_in_ints, p_len, p_lenT, p_lenS, p_list, p_listT, p_int, p_intB, p_abs, p_range, p_range2, p_all, p_any, p_sum, p_gcd, p_append, p_items, p_itemsT, p_itemsS, p_subL, p_subT, at0, at1, at2, truth_b, lt_zero, lt_succ, ln_cons, ln_nil, p_slc, p_putL, true_and, and_true, decide_eq_true_eq, m_on, q_eqI, q_neI, Option.some.injEq, exists_eq_left', exists_eq_left, if_true, if_false, eq_self, Bool.false_eq_true, Bool.not_eq_true, List.length_map, reduceCtorEq, not_false_eq_true, sat_ite, s_ok, q_eqS, q_neS, q_eqB, q_neB, i_bb, i_tt, i_ll, p_end, p_endN, ne_eq, rng0, Int.toNat_natCast, List.length_range, p_sumN, line]
    by_cases h : topM g l = m
    · rw [if_pos (by omega), if_pos h]; rfl
    · rw [if_neg (by omega), if_neg h]; rfl
  · unfold topd
    rw [fm_guard]
/-- a company of ps has this mark -/
def hasM (g : List Pl) (ps : List Nat) (m : Nat) : Prop := ∃ C, C.Sublist ps ∧ Comp g C ∧ topM g C = m
theorem topd_ne {g : List Pl} {ps : List Nat} {m : Nat} {fnd : List (List Nat)} (I : GInv g (lowM g ps m) fnd []) : topd g fnd m ≠ [] ↔ hasM g ps m := by
  obtain ⟨f1, f2, f3⟩ := I.fin
  have sl : (lowM g ps m).Sublist ps := List.filter_sublist
  have mt : ∀ l, l ∈ topd g fnd m ↔ l ∈ fnd ∧ topM g l = m := fun l => by
    unfold topd; rw [List.mem_filter, mem_sortL, decide_eq_true_eq]
  constructor
  · intro h
    obtain ⟨l, hl⟩ := List.exists_mem_of_ne_nil _ h
    obtain ⟨h1, h2⟩ := (mt l).mp hl
    exact ⟨l, (f1 l h1).1.trans sl, (f1 l h1).2, h2⟩
  · rintro ⟨C, h1, h2, h3⟩
    have low : ∀ x ∈ C, x ∈ lowM g ps m := fun x hx => by
      unfold lowM
      rw [List.mem_filter, decide_eq_true_eq]
      exact ⟨h1.subset hx, by rw [← h3]; exact (topM_spec h2.1).1 x hx⟩
    obtain ⟨l, hl, hs⟩ := f2 C h2 low
    have : l ∈ topd g fnd m := by
      rw [mt]
      refine ⟨hl, ?_⟩
      obtain ⟨t1, x, hx, t2⟩ := topM_spec (g := g) (f1 l hl).2.1
      obtain ⟨c1, y, hy, c2⟩ := topM_spec (g := g) h2.1
      have a1 := t1 y (hs y hy)
      have a2 := (f1 l hl).1.subset hx
      unfold lowM at a2
      rw [List.mem_filter, decide_eq_true_eq] at a2
      omega
    intro e; rw [e] at this; cases this
open Classical in
noncomputable def marksL (g : List Pl) (ps : List Nat) : List Nat := (List.range 10).filter fun m => decide (hasM g ps m)
/-- marks_of_companies(game, places) -/
theorem sp_marks {Φ : Calls} {c0 : Nat} (ht : ToppedOk Φ c0) {g : List Pl} {ps : List Nat} (hz : ∀ q ∈ g, q.tg.length ≤ 1000) (hps : ∀ k ∈ ps, k < g.length) (nd : ps.Nodup) (hg : g.length ≤ 1000) : (runFn Φ ⟨2, 3, aMarks c0⟩ [.list (g.map encP), .list (ps.map nI)]).sat fun d => d = .list ((marksL g ps).map nI) := by
  classical
  rw [run_eq]
  refine ⟨⟨rfl, by decide⟩, ?_⟩
  show (exec Φ (aMarks c0) [some (.list (g.map encP)), some (.list (ps.map nI)), none]).sat _ _ _ _
  unfold aMarks
  simp only [x_skip, x_seq, x_asg, x_aug, x_ex, x_ite, x_for, x_ret, x_brk, x_cnt, t_var, t_tup, t_tupL, t_nil, t_cons, t_sub, n_var, n_tup, n_nil, n_cons, c_cons', c_lst, c_neg, c_tup, e_nil, e_cons, e_var, e_lit, e_tup, e_lst, e_neg, e_not, e_bin, e_cmp, e_and, e_or, e_ite, e_sub, e_slc, e_call, e_bi, e_isi, e_app, e_pop, e_comp, e_dcomp, i_sat, g_zero, g_succ, z_zero, z_succ, wipe_nil, wipe_cons, p_add, p_sub, p_mul, p_fdiv, p_mod, p_pow, p_addL, p_addT, p_auga, p_augs, q_lt, q_le, q_gt, q_ge, q_isN, q_isnotN, q_in, q_notin, q_in_ints, p_len, p_lenT, p_lenS, p_list, p_listT, p_int, p_intB, p_abs, p_range, p_range2, p_all, p_any, p_sum, p_gcd, p_append, p_items, p_itemsT, p_itemsS, p_subL, p_subT, at0, at1, at2, truth_b, lt_zero, lt_succ, ln_cons, ln_nil, p_slc, p_putL, true_and, and_true, decide_eq_true_eq, m_on, q_eqI, q_neI, Option.some.injEq, exists_eq_left', exists_eq_left, if_true, if_false, eq_self, Bool.false_eq_true, Bool.not_eq_true, List.length_map, reduceCtorEq, not_false_eq_true, sat_ite, s_ok, q_eqS, q_neS, q_eqB, q_neB, i_bb, i_tt, i_ll, p_end, p_endN, ne_eq, rng0, Int.toNat_natCast, List.length_range, p_sumN, line]
  have e10 : Int.toNat 10 = 10 := rfl
  rw [e10]
  refine ⟨by decide, by decide, fm_filter (as := List.range 10) (ea := nI) (eb := nI) (fun m => if hasM g ps m then some m else none) (fun m hm => ?_) ?_⟩
  · simp only [x_skip, x_seq, x_asg, x_aug, x_ex, x_ite, x_for, x_ret, x_brk, x_cnt, t_var, t_tup, t_tupL, t_nil, t_cons, t_sub, n_var, n_tup, n_nil, n_cons, c_cons', c_lst, c_neg, c_tup, e_nil, e_cons, e_var, e_lit, e_tup, e_lst, e_neg, e_not, e_bin, e_cmp, e_and, e_or, e_ite, e_sub, e_slc, e_call, e_bi, e_isi, e_app, e_pop, e_comp, e_dcomp, i_sat, g_zero, g_succ, z_zero, z_succ, wipe_nil, wipe_cons, p_add, p_sub, p_mul, p_fdiv, p_mod, p_pow, p_addL, p_addT, p_auga, p_augs, q_lt, q_le, q_gt, q_ge, q_isN, q_isnotN, q_in, q_notin, q_in_ints, p_len, p_lenT, p_lenS, p_list, p_listT, p_int, p_intB, p_abs, p_range, p_range2, p_all, p_any, p_sum, p_gcd, p_append, p_items, p_itemsT, p_itemsS, p_subL, p_subT, at0, at1, at2, truth_b, lt_zero, lt_succ, ln_cons, ln_nil, p_slc, p_putL, true_and, and_true, decide_eq_true_eq, m_on, q_eqI, q_neI, Option.some.injEq, exists_eq_left', exists_eq_left, if_true, if_false, eq_self, Bool.false_eq_true, Bool.not_eq_true, List.length_map, reduceCtorEq, not_false_eq_true, sat_ite, s_ok, q_eqS, q_neS, q_eqB, q_neB, i_bb, i_tt, i_ll, p_end, p_endN, ne_eq, rng0, Int.toNat_natCast, List.length_range, p_sumN, line]
    refine (ht g ps m hz hps nd hg).imp fun d ⟨fnd, e, I⟩ => ?_
    subst e
    simp only [truth_map, topd_ne I, x_skip, x_seq, x_asg, x_aug, x_ex, x_ite, x_for, x_ret, x_brk, x_cnt, t_var, t_tup, t_tupL, t_nil, t_cons, t_sub, n_var, n_tup, n_nil, n_cons, c_cons', c_lst, c_neg, c_tup, e_nil, e_cons, e_var, e_lit, e_tup, e_lst, e_neg, e_not, e_bin, e_cmp, e_and, e_or, e_ite, e_sub, e_slc, e_call, e_bi, e_isi, e_app, e_pop, e_comp, e_dcomp, i_sat, g_zero, g_succ, z_zero, z_succ, wipe_nil, wipe_cons, p_add, p_sub, p_mul, p_fdiv, p_mod, p_pow, p_addL, p_addT, p_auga, p_augs, q_lt, q_le, q_gt, q_ge, q_isN, q_isnotN, q_in, q_notin, q_in_ints, p_len, p_lenT, p_lenS, p_list, p_listT, p_int, p_intB, p_abs, p_range, p_range2, p_all, p_any, p_sum, p_gcd, p_append, p_items, p_itemsT, p_itemsS, p_subL, p_subT, at0, at1, at2, truth_b, lt_zero, lt_succ, ln_cons, ln_nil, p_slc, p_putL, true_and, and_true, decide_eq_true_eq, m_on, q_eqI, q_neI, Option.some.injEq, exists_eq_left', exists_eq_left, if_true, if_false, eq_self, Bool.false_eq_true, Bool.not_eq_true, List.length_map, reduceCtorEq, not_false_eq_true, sat_ite, s_ok, q_eqS, q_neS, q_eqB, q_neB, i_bb, i_tt, i_ll, p_end, p_endN, ne_eq, rng0, Int.toNat_natCast, List.length_range, p_sumN, line]
    by_cases h : hasM g ps m
    · rw [if_pos h, if_pos h]; rfl
    · rw [if_neg h, if_neg h]; rfl
  · unfold marksL
    rw [fm_guard]
def MarksOk (Φ : Calls) (f : Nat) : Prop := ∀ (g : List Pl) (ps : List Nat), (∀ q ∈ g, q.tg.length ≤ 1000) → (∀ k ∈ ps, k < g.length) → ps.Nodup → g.length ≤ 1000 → (Φ f [.list (g.map encP), .list (ps.map nI)]).sat fun d => d = .list ((marksL g ps).map nI)
/-! all parts of a list -/
def partsL (ps : List Nat) : List (List Nat) := ps.foldl (fun L k => L ++ L.map (· ++ [k])) [[]]
theorem partsL_snoc (ps : List Nat) (k : Nat) : partsL (ps ++ [k]) = partsL ps ++ (partsL ps).map (· ++ [k]) := by unfold partsL; rw [List.foldl_append]; rfl
theorem partsL_len (ps : List Nat) : (partsL ps).length = 2 ^ ps.length := by
  induction ps using rev_ind with
  | h0 => rfl
  | hs r k ih => rw [partsL_snoc, List.length_append, List.length_map, ih, List.length_append, List.length_singleton, Nat.pow_succ]; omega
theorem sub_snoc {l r : List Nat} {k : Nat} : l.Sublist (r ++ [k]) ↔ l.Sublist r ∨ ∃ l', l'.Sublist r ∧ l = l' ++ [k] := by
  rw [List.sublist_append_iff]
  constructor
  · rintro ⟨a, b, rfl, h1, h2⟩
    cases h2 with
    | cons _ h =>
      cases h
      exact .inl (by rw [List.append_nil]; exact h1)
    | cons_cons _ h =>
      cases h
      exact .inr ⟨a, h1, rfl⟩
  · rintro (h | ⟨l', h, rfl⟩)
    · exact ⟨l, [], by simp, h, List.nil_sublist _⟩
    · exact ⟨l', [k], rfl, h, .refl _⟩
theorem mem_partsL {ps l : List Nat} : l ∈ partsL ps ↔ l.Sublist ps := by
  induction ps using rev_ind generalizing l with
  | h0 => simp [partsL]
  | hs r k ih =>
    rw [partsL_snoc, List.mem_append, ih, sub_snoc]
    refine or_congr Iff.rfl ⟨fun h => ?_, fun ⟨l', h, e⟩ => ?_⟩
    · obtain ⟨a, ha, rfl⟩ := List.mem_map.mp h
      exact ⟨a, ih.mp ha, rfl⟩
    · subst e; exact List.mem_map.mpr ⟨l', ih.mpr h, rfl⟩
theorem sp_parts {Φ : Calls} {ps : List Nat} (hl : ps.length ≤ 20) : (runFn Φ ⟨1, 4, aLLists⟩ [.list (ps.map nI)]).sat fun d => d = .list ((partsL ps).map fun l => .list (l.map nI)) := by
  rw [run_eq]
  refine ⟨⟨rfl, by decide⟩, ?_⟩
  show (exec Φ aLLists [some (.list (ps.map nI)), none, none, none]).sat _ _ _ _
  unfold aLLists
  simp only [x_skip, x_seq, x_asg, x_aug, x_ex, x_ite, x_for, x_ret, x_brk, x_cnt, t_var, t_tup, t_tupL, t_nil, t_cons, t_sub, n_var, n_tup, n_nil, n_cons, c_cons', c_lst, c_neg, c_tup, e_nil, e_cons, e_var, e_lit, e_tup, e_lst, e_neg, e_not, e_bin, e_cmp, e_and, e_or, e_ite, e_sub, e_slc, e_call, e_bi, e_isi, e_app, e_pop, e_comp, e_dcomp, i_sat, g_zero, g_succ, z_zero, z_succ, wipe_nil, wipe_cons, p_add, p_sub, p_mul, p_fdiv, p_mod, p_pow, p_addL, p_addT, p_auga, p_augs, q_lt, q_le, q_gt, q_ge, q_isN, q_isnotN, q_in, q_notin, q_in_ints, p_len, p_lenT, p_lenS, p_list, p_listT, p_int, p_intB, p_abs, p_range, p_range2, p_all, p_any, p_sum, p_gcd, p_append, p_items, p_itemsT, p_itemsS, p_subL, p_subT, at0, at1, at2, truth_b, lt_zero, lt_succ, ln_cons, ln_nil, p_slc, p_putL, true_and, and_true, decide_eq_true_eq, m_on, q_eqI, q_neI, Option.some.injEq, exists_eq_left', exists_eq_left, if_true, if_false, eq_self, Bool.false_eq_true, Bool.not_eq_true, List.length_map, reduceCtorEq, not_false_eq_true, sat_ite, s_ok, q_eqS, q_neS, q_eqB, q_neB, i_bb, i_tt, i_ll, p_end, p_endN, ne_eq, rng0, Int.toNat_natCast, List.length_range, p_sumN, line]
  refine loop_map (fun i ρ => ∃ x2 x3 : Option D, ρ = [some (.list (ps.map nI)), some (.list ((partsL (ps.take i)).map fun l => .list (l.map nI))), x2, x3])
    (fun ρ => ∃ x2 x3 : Option D, ρ = [some (.list (ps.map nI)), some (.list ((partsL ps).map fun l => .list (l.map nI))), x2, x3]) ⟨_, _, rfl⟩ ?_ (fun ρ h => by rwa [List.take_length] at h) ?_
  · rintro i k ρ hi ⟨x2, x3, rfl⟩
    have hi2 : i < ps.length := (List.getElem?_eq_some_iff.mp hi).1
    have pl := partsL_len (ps.take i)
    rw [List.length_take, Nat.min_eq_left (by omega)] at pl
    have hp : 2 ^ (i + 1) ≤ 2 ^ 20 := Nat.pow_le_pow_right (by decide) (by omega)
    have hp2 : (2 : Nat) ^ 20 = 1048576 := by decide
    have hp3 : 2 ^ (i + 1) = 2 ^ i * 2 := Nat.pow_succ ..
    simp only [x_skip, x_seq, x_asg, x_aug, x_ex, x_ite, x_for, x_ret, x_brk, x_cnt, t_var, t_tup, t_tupL, t_nil, t_cons, t_sub, n_var, n_tup, n_nil, n_cons, c_cons', c_lst, c_neg, c_tup, e_nil, e_cons, e_var, e_lit, e_tup, e_lst, e_neg, e_not, e_bin, e_cmp, e_and, e_or, e_ite, e_sub, e_slc, e_call, e_bi, e_isi, e_app, e_pop, e_comp, e_dcomp, i_sat, g_zero, g_succ, z_zero, z_succ, wipe_nil, wipe_cons, p_add, p_sub, p_mul, p_fdiv, p_mod, p_pow, p_addL, p_addT, p_auga, p_augs, q_lt, q_le, q_gt, q_ge, q_isN, q_isnotN, q_in, q_notin, q_in_ints, p_len, p_lenT, p_lenS, p_list, p_listT, p_int, p_intB, p_abs, p_range, p_range2, p_all, p_any, p_sum, p_gcd, p_append, p_items, p_itemsT, p_itemsS, p_subL, p_subT, at0, at1, at2, truth_b, lt_zero, lt_succ, ln_cons, ln_nil, p_slc, p_putL, true_and, and_true, decide_eq_true_eq, m_on, q_eqI, q_neI, Option.some.injEq, exists_eq_left', exists_eq_left, if_true, if_false, eq_self, Bool.false_eq_true, Bool.not_eq_true, List.length_map, reduceCtorEq, not_false_eq_true, sat_ite, s_ok, q_eqS, q_neS, q_eqB, q_neB, i_bb, i_tt, i_ll, p_end, p_endN, ne_eq, rng0, Int.toNat_natCast, List.length_range, p_sumN, line]
    refine ⟨by omega, fm_map (as := partsL (ps.take i)) (ea := fun l : List Nat => .list (l.map nI)) (eb := fun l : List Nat => .list (l.map nI)) (fun l => l ++ [k]) (fun l hl2 => ?_) ?_⟩
    · have := (mem_partsL.mp hl2).length_le
      rw [List.length_take] at this
      simp only [x_skip, x_seq, x_asg, x_aug, x_ex, x_ite, x_for, x_ret, x_brk, x_cnt, t_var, t_tup, t_tupL, t_nil, t_cons, t_sub, n_var, n_tup, n_nil, n_cons, c_cons', c_lst, c_neg, c_tup, e_nil, e_cons, e_var, e_lit, e_tup, e_lst, e_neg, e_not, e_bin, e_cmp, e_and, e_or, e_ite, e_sub, e_slc, e_call, e_bi, e_isi, e_app, e_pop, e_comp, e_dcomp, i_sat, g_zero, g_succ, z_zero, z_succ, wipe_nil, wipe_cons, p_add, p_sub, p_mul, p_fdiv, p_mod, p_pow, p_addL, p_addT, p_auga, p_augs, q_lt, q_le, q_gt, q_ge, q_isN, q_isnotN, q_in, q_notin, q_in_ints, p_len, p_lenT, p_lenS, p_list, p_listT, p_int, p_intB, p_abs, p_range, p_range2, p_all, p_any, p_sum, p_gcd, p_append, p_items, p_itemsT, p_itemsS, p_subL, p_subT, at0, at1, at2, truth_b, lt_zero, lt_succ, ln_cons, ln_nil, p_slc, p_putL, true_and, and_true, decide_eq_true_eq, m_on, q_eqI, q_neI, Option.some.injEq, exists_eq_left', exists_eq_left, if_true, if_false, eq_self, Bool.false_eq_true, Bool.not_eq_true, List.length_map, reduceCtorEq, not_false_eq_true, sat_ite, s_ok, q_eqS, q_neS, q_eqB, q_neB, i_bb, i_tt, i_ll, p_end, p_endN, ne_eq, rng0, Int.toNat_natCast, List.length_range, p_sumN, line]
      exact ⟨by simp only [List.length_cons, List.length_nil]; omega, by rw [app_nI]⟩
    · simp only [List.length_map]
      refine ⟨by omega, some (nI k), x3, ?_⟩
      have et : ps.take (i + 1) = ps.take i ++ [k] := by rw [List.take_add_one, hi]; rfl
      rw [et, partsL_snoc, List.map_append]
  · rintro ρ ⟨x2, x3, rfl⟩
    simp only [x_skip, x_seq, x_asg, x_aug, x_ex, x_ite, x_for, x_ret, x_brk, x_cnt, t_var, t_tup, t_tupL, t_nil, t_cons, t_sub, n_var, n_tup, n_nil, n_cons, c_cons', c_lst, c_neg, c_tup, e_nil, e_cons, e_var, e_lit, e_tup, e_lst, e_neg, e_not, e_bin, e_cmp, e_and, e_or, e_ite, e_sub, e_slc, e_call, e_bi, e_isi, e_app, e_pop, e_comp, e_dcomp, i_sat, g_zero, g_succ, z_zero, z_succ, wipe_nil, wipe_cons, p_add, p_sub, p_mul, p_fdiv, p_mod, p_pow, p_addL, p_addT, p_auga, p_augs, q_lt, q_le, q_gt, q_ge, q_isN, q_isnotN, q_in, q_notin, q_in_ints, p_len, p_lenT, p_lenS, p_list, p_listT, p_int, p_intB, p_abs, p_range, p_range2, p_all, p_any, p_sum, p_gcd, p_append, p_items, p_itemsT, p_itemsS, p_subL, p_subT, at0, at1, at2, truth_b, lt_zero, lt_succ, ln_cons, ln_nil, p_slc, p_putL, true_and, and_true, decide_eq_true_eq, m_on, q_eqI, q_neI, Option.some.injEq, exists_eq_left', exists_eq_left, if_true, if_false, eq_self, Bool.false_eq_true, Bool.not_eq_true, List.length_map, reduceCtorEq, not_false_eq_true, sat_ite, s_ok, q_eqS, q_neS, q_eqB, q_neB, i_bb, i_tt, i_ll, p_end, p_endN, ne_eq, rng0, Int.toNat_natCast, List.length_range, p_sumN, line]
def LCompOk (Φ : Calls) (f : Nat) : Prop := ∀ (g : List Pl) (ps : List Nat), (∀ p ∈ g, 1 ≤ p.tg.length ∧ p.tg.length ≤ 1000) → (∀ k ∈ ps, k < g.length) → ps.Pairwise (· < ·) → ps.length ≤ g.length → g.length ≤ 1000 → (Φ f [.list (g.map encP), .list (ps.map nI)]).sat fun d => d = .bool (compB g ps)
def PartsOk (Φ : Calls) (f : Nat) : Prop := ∀ ps : List Nat, ps.length ≤ 20 → (Φ f [.list (ps.map nI)]).sat fun d => d = .list ((partsL ps).map fun l => .list (l.map nI))
/-- _law_companies(game, places) -/
theorem sp_lcomps {Φ : Calls} {c0 c1 : Nat} (hp : PartsOk Φ c0) (hc : LCompOk Φ c1) {g : List Pl} {ps : List Nat} (hz : ∀ p ∈ g, 1 ≤ p.tg.length ∧ p.tg.length ≤ 1000) (hps : ∀ k ∈ ps, k < g.length) (ha : ps.Pairwise (· < ·)) (hl : ps.length ≤ g.length) (hg : g.length ≤ 20) : (runFn Φ ⟨2, 3, aLComps c0 c1⟩ [.list (g.map encP), .list (ps.map nI)]).sat fun d => d = .list (((partsL ps).filter (compB g)).map fun l => .list (l.map nI)) := by
  rw [run_eq]
  refine ⟨⟨rfl, by decide⟩, ?_⟩
  show (exec Φ (aLComps c0 c1) [some (.list (g.map encP)), some (.list (ps.map nI)), none]).sat _ _ _ _
  unfold aLComps
  simp only [x_skip, x_seq, x_asg, x_aug, x_ex, x_ite, x_for, x_ret, x_brk, x_cnt, t_var, t_tup, t_tupL, t_nil, t_cons, t_sub, n_var, n_tup, n_nil, n_cons, c_cons', c_lst, c_neg, c_tup, e_nil, e_cons, e_var, e_lit, e_tup, e_lst, e_neg, e_not, e_bin, e_cmp, e_and, e_or, e_ite, e_sub, e_slc, e_call, e_bi, e_isi, e_app, e_pop, e_comp, e_dcomp, i_sat, g_zero, g_succ, z_zero, z_succ, wipe_nil, wipe_cons, p_add, p_sub, p_mul, p_fdiv, p_mod, p_pow, p_addL, p_addT, p_auga, p_augs, q_lt, q_le, q_gt, q_ge, q_isN, q_isnotN, q_in, q_notin, q_in_ints, p_len, p_lenT, p_lenS, p_list, p_listT, p_int, p_intB, p_abs, p_range, p_range2, p_all, p_any, p_sum, p_gcd, p_append, p_items, p_itemsT, p_itemsS, p_subL, p_subT, at0, at1, at2, truth_b, lt_zero, lt_succ, ln_cons, ln_nil, p_slc, p_putL, true_and, and_true, decide_eq_true_eq, m_on, q_eqI, q_neI, Option.some.injEq, exists_eq_left', exists_eq_left, if_true, if_false, eq_self, Bool.false_eq_true, Bool.not_eq_true, List.length_map, reduceCtorEq, not_false_eq_true, sat_ite, s_ok, q_eqS, q_neS, q_eqB, q_neB, i_bb, i_tt, i_ll, p_end, p_endN, ne_eq, rng0, Int.toNat_natCast, List.length_range, p_sumN, line]
  refine (hp ps (by omega)).imp fun d e => ?_
  subst e
  have pl := partsL_len ps
  have hp1 : 2 ^ ps.length ≤ 2 ^ 20 := Nat.pow_le_pow_right (by decide) (by omega)
  have hp2 : (2 : Nat) ^ 20 = 1048576 := by decide
  simp only [x_skip, x_seq, x_asg, x_aug, x_ex, x_ite, x_for, x_ret, x_brk, x_cnt, t_var, t_tup, t_tupL, t_nil, t_cons, t_sub, n_var, n_tup, n_nil, n_cons, c_cons', c_lst, c_neg, c_tup, e_nil, e_cons, e_var, e_lit, e_tup, e_lst, e_neg, e_not, e_bin, e_cmp, e_and, e_or, e_ite, e_sub, e_slc, e_call, e_bi, e_isi, e_app, e_pop, e_comp, e_dcomp, i_sat, g_zero, g_succ, z_zero, z_succ, wipe_nil, wipe_cons, p_add, p_sub, p_mul, p_fdiv, p_mod, p_pow, p_addL, p_addT, p_auga, p_augs, q_lt, q_le, q_gt, q_ge, q_isN, q_isnotN, q_in, q_notin, q_in_ints, p_len, p_lenT, p_lenS, p_list, p_listT, p_int, p_intB, p_abs, p_range, p_range2, p_all, p_any, p_sum, p_gcd, p_append, p_items, p_itemsT, p_itemsS, p_subL, p_subT, at0, at1, at2, truth_b, lt_zero, lt_succ, ln_cons, ln_nil, p_slc, p_putL, true_and, and_true, decide_eq_true_eq, m_on, q_eqI, q_neI, Option.some.injEq, exists_eq_left', exists_eq_left, if_true, if_false, eq_self, Bool.false_eq_true, Bool.not_eq_true, List.length_map, reduceCtorEq, not_false_eq_true, sat_ite, s_ok, q_eqS, q_neS, q_eqB, q_neB, i_bb, i_tt, i_ll, p_end, p_endN, ne_eq, rng0, Int.toNat_natCast, List.length_range, p_sumN, line]
  refine ⟨by omega, fm_filter (as := partsL ps) (ea := fun l : List Nat => .list (l.map nI)) (eb := fun l : List Nat => .list (l.map nI)) (fun l => if compB g l = true then some l else none) (fun l hl2 => ?_) ?_⟩
  · have sb := mem_partsL.mp hl2
    simp only [x_skip, x_seq, x_asg, x_aug, x_ex, x_ite, x_for, x_ret, x_brk, x_cnt, t_var, t_tup, t_tupL, t_nil, t_cons, t_sub, n_var, n_tup, n_nil, n_cons, c_cons', c_lst, c_neg, c_tup, e_nil, e_cons, e_var, e_lit, e_tup, e_lst, e_neg, e_not, e_bin, e_cmp, e_and, e_or, e_ite, e_sub, e_slc, e_call, e_bi, e_isi, e_app, e_pop, e_comp, e_dcomp, i_sat, g_zero, g_succ, z_zero, z_succ, wipe_nil, wipe_cons, p_add, p_sub, p_mul, p_fdiv, p_mod, p_pow, p_addL, p_addT, p_auga, p_augs, q_lt, q_le, q_gt, q_ge, q_isN, q_isnotN, q_in, q_notin, q_in_ints, p_len, p_lenT, p_lenS, p_list, p_listT, p_int, p_intB, p_abs, p_range, p_range2, p_all, p_any, p_sum, p_gcd, p_append, p_items, p_itemsT, p_itemsS, p_subL, p_subT, at0, at1, at2, truth_b, lt_zero, lt_succ, ln_cons, ln_nil, p_slc, p_putL, true_and, and_true, decide_eq_true_eq, m_on, q_eqI, q_neI, Option.some.injEq, exists_eq_left', exists_eq_left, if_true, if_false, eq_self, Bool.false_eq_true, Bool.not_eq_true, List.length_map, reduceCtorEq, not_false_eq_true, sat_ite, s_ok, q_eqS, q_neS, q_eqB, q_neB, i_bb, i_tt, i_ll, p_end, p_endN, ne_eq, rng0, Int.toNat_natCast, List.length_range, p_sumN, line]
    refine (hc g l hz (fun k h => hps k (sb.subset h)) (ha.sublist sb) (by have := sb.length_le; omega) (by omega)).imp fun d e => ?_
    subst e
    simp only [x_skip, x_seq, x_asg, x_aug, x_ex, x_ite, x_for, x_ret, x_brk, x_cnt, t_var, t_tup, t_tupL, t_nil, t_cons, t_sub, n_var, n_tup, n_nil, n_cons, c_cons', c_lst, c_neg, c_tup, e_nil, e_cons, e_var, e_lit, e_tup, e_lst, e_neg, e_not, e_bin, e_cmp, e_and, e_or, e_ite, e_sub, e_slc, e_call, e_bi, e_isi, e_app, e_pop, e_comp, e_dcomp, i_sat, g_zero, g_succ, z_zero, z_succ, wipe_nil, wipe_cons, p_add, p_sub, p_mul, p_fdiv, p_mod, p_pow, p_addL, p_addT, p_auga, p_augs, q_lt, q_le, q_gt, q_ge, q_isN, q_isnotN, q_in, q_notin, q_in_ints, p_len, p_lenT, p_lenS, p_list, p_listT, p_int, p_intB, p_abs, p_range, p_range2, p_all, p_any, p_sum, p_gcd, p_append, p_items, p_itemsT, p_itemsS, p_subL, p_subT, at0, at1, at2, truth_b, lt_zero, lt_succ, ln_cons, ln_nil, p_slc, p_putL, true_and, and_true, decide_eq_true_eq, m_on, q_eqI, q_neI, Option.some.injEq, exists_eq_left', exists_eq_left, if_true, if_false, eq_self, Bool.false_eq_true, Bool.not_eq_true, List.length_map, reduceCtorEq, not_false_eq_true, sat_ite, s_ok, q_eqS, q_neS, q_eqB, q_neB, i_bb, i_tt, i_ll, p_end, p_endN, ne_eq, rng0, Int.toNat_natCast, List.length_range, p_sumN, line]
    by_cases h : compB g l = true
    · rw [if_pos h, if_pos h]; rfl
    · rw [if_neg h, if_neg h]; rfl
  · rw [fm_guard]
    simp
end Rf
end

section
/-! templates of the laws' helpers: the numbers of the defs they call are arguments. -/
namespace Rf
open PySem
/-- reached calls targets -/
def aReached (c0 : Nat) : S := (.seq (.asg (.var 2) (.lst (.cons (.var 1) .nil))) (.seq (.asg (.var 3) (.lst (.cons (.var 1) .nil))) (.seq (.wh (.var 3) (.seq (.for_ (.var 4) (.call c0 (.cons (.var 0) (.cons (.mt .pop (.var 3) .nil) .nil))) (.seq (.ite (.cmp .notin (.var 4) (.var 2)) (.seq (.ex (.mt .append (.var 2) (.cons (.var 4) .nil))) (.seq (.ex (.mt .append (.var 3) (.cons (.var 4) .nil))) .skip)) .skip) .skip)) .skip)) (.seq (.ret (.bi .sorted (.cons (.var 2) .nil))) .skip))))
/-- places_of -/
def aPlaces : S := (.seq (.ret (.comp [2, 3] (.tup (.cons (.var 2) (.cons (.var 3) .nil))) (.bi .enumerate (.cons (.var 0) .nil)) (.cmp .eq (.sub (.var 3) (.lit (.int (1)))) (.var 1)) (.var 2))) .skip)
/-- marks_of -/
def aMarksOf : S := (.seq (.asg (.var 1) (.lst .nil)) (.seq (.for_ (.var 2) (.bi .sorted (.cons (.comp [3] (.var 3) (.var 0) (.lit (.bool true)) (.sub (.var 3) (.lit (.int (0))))) .nil)) (.seq (.ite (.or (.not (.var 1)) (.cmp .ne (.sub (.var 1) (.neg (.lit (.int (1))))) (.var 2))) (.seq (.ex (.mt .append (.var 1) (.cons (.var 2) .nil))) .skip) .skip) .skip)) (.seq (.ret (.var 1)) .skip)))
/-- is_chain calls places_of -/
def aIsChain (c0 : Nat) : S := (.seq (.ret (.and (.not (.call c0 (.cons (.var 0) (.cons (.lit (.str (Str.ofString "ours"))) .nil)))) (.not (.call c0 (.cons (.var 0) (.cons (.lit (.str (Str.ofString "theirs"))) .nil)))))) .skip)
/-- _law_reached calls _law_targets -/
def aLReached (c0 : Nat) : S := (.seq (.asg (.var 2) (.lst (.cons (.var 1) .nil))) (.seq (.for_ (.var 3) (.bi .range (.cons (.bi .len (.cons (.var 0) .nil)) .nil)) (.seq (.for_ (.var 4) (.bi .list (.cons (.var 2) .nil)) (.seq (.for_ (.var 5) (.call c0 (.cons (.sub (.var 0) (.var 4)) .nil)) (.seq (.ite (.cmp .notin (.var 5) (.var 2)) (.seq (.ex (.mt .append (.var 2) (.cons (.var 5) .nil))) .skip) .skip) .skip)) .skip)) .skip)) (.seq (.ret (.bi .sorted (.cons (.var 2) .nil))) .skip)))
/-- _law_is_list -/
def aIsList : S := (.seq (.ite (.not (.isi (.var 0) [.list])) (.seq (.ret (.lit (.bool false))) .skip) .skip) (.seq (.ret (.bi .all (.cons (.comp [1] (.var 1) (.var 0) (.lit (.bool true)) (.and (.isi (.var 1) [.int]) (.not (.isi (.var 1) [.bool])))) .nil))) .skip))
end Rf
end

section
/-! Pm11: places that are reached, places of a kind, marks that occur. -/
namespace Rf
open PySem
theorem truth_bb (b : Bool) : truth (.bool b) = b := by cases b <;> rfl
theorem i_bn {n : Nat} {B : Bool → Prop} : (isiD [.bool] (nI n)).sat B = B false := by with_unfolding_all rfl
theorem q_neI' {a b : Nat} {B : Bool → Prop} : (cmpD .ne (nI a) (nI b)).sat B = B (decide (a ≠ b)) := by
  show (cmpD .ne (.int a) (.int b)).sat B = _
  rw [q_neI]
  congr 1
  by_cases h : a = b
  · subst h; simp
  · have : (a : Int) ≠ b := by omega
    simp [h, this]
/-- what a search knows that begins with its place -/
structure Rs (tg : Nat → List Nat) (ps : List Nat) (a : Nat) (s w : List Nat) : Prop where
  nd : s.Nodup
  st : a ∈ s
  ok : ∀ b ∈ s, b = a ∨ Rch tg ps a b
  wt : ∀ b ∈ w, b ∈ s
  cs : ∀ x ∈ s, x ∉ w → ∀ b ∈ tg x, b ∈ ps → b ∈ s
theorem Rs.start {tg : Nat → List Nat} {ps : List Nat} {a : Nat} : Rs tg ps a [a] [a] where
  nd := by simp
  st := by simp
  ok := fun b h => .inl (by simpa using h)
  wt := fun b h => h
  cs := fun x h hn => absurd h hn
theorem Rs.step {tg : Nat → List Nat} {ps : List Nat} {a : Nat} {s r new : List Nat} {w : Nat} (h : Rs tg ps a s (r ++ [w])) (n : NewOk ps s new (tg w) (tg w).length) : Rs tg ps a (s ++ new) (r ++ new) where
  nd := n.nd
  st := List.mem_append_left _ h.st
  ok := fun b hb => by
    rcases List.mem_append.mp hb with h1 | h1
    · exact h.ok b h1
    · rcases h.ok w (h.wt w (by simp)) with rfl | hw
      · exact .inr (.one (n.tg b h1) (n.sb b h1))
      · exact .inr (.more hw (n.tg b h1) (n.sb b h1))
  wt := fun b hb => by
    rcases List.mem_append.mp hb with h1 | h1
    · exact List.mem_append_left _ (h.wt b (by simp [h1]))
    · exact List.mem_append_right _ h1
  cs := fun x hx hn b hb hp => by
    by_cases e : x = w
    · subst e
      obtain ⟨j, hj, e⟩ := List.getElem_of_mem hb
      exact n.all j b hj (by rw [List.getElem?_eq_getElem hj, e]) hp
    · have h1 : x ∈ s := by
        rcases List.mem_append.mp hx with h | h
        · exact h
        · exact absurd (List.mem_append_right _ h) hn
      refine List.mem_append_left _ (h.cs x h1 (fun h2 => ?_) b hb hp)
      rcases List.mem_append.mp h2 with h2 | h2
      · exact hn (List.mem_append_left _ h2)
      · exact e (by simpa using h2)
theorem Rs.fin {tg : Nat → List Nat} {ps : List Nat} {a : Nat} {s : List Nat} (h : Rs tg ps a s []) (b : Nat) : b ∈ s ↔ b = a ∨ Rch tg ps a b := by
  refine ⟨h.ok b, fun r => ?_⟩
  rcases r with rfl | r
  · exact h.st
  · exact r.sub fun x hx y hy hp => h.cs x ((List.mem_cons.mp hx).elim (fun e => by rw [e]; exact h.st) id) (by simp) y hy hp
theorem Rs.len {tg : Nat → List Nat} {n a : Nat} {s w : List Nat} (h : Rs tg (List.range n) a s w) (ha : a < n) : s.length ≤ n := by
  have := nodup_len (m := List.range n) h.nd fun b hb => by
    rcases h.ok b hb with rfl | h
    · exact List.mem_range.mpr ha
    · exact h.mem
  rwa [List.length_range] at this
open Classical in
/-- the places that are reached from one, itself among them -/
noncomputable def rchd (g : List Pl) (a : Nat) : List Nat := (List.range g.length).filter fun b => decide (b = a ∨ Rch (tgOf g) (List.range g.length) a b)
theorem rchd_asc {g : List Pl} {a : Nat} : (rchd g a).Pairwise (· < ·) := List.pairwise_lt_range.filter _
theorem rchd_perm {g : List Pl} {a : Nat} {s : List Nat} (ha : a < g.length) (nd : s.Nodup) (h : ∀ b, b ∈ s ↔ b = a ∨ Rch (tgOf g) (List.range g.length) a b) : s.Perm (rchd g a) := by
  classical
  refine nodup_perm nd (nd_of rchd_asc) fun b => ?_
  unfold rchd
  rw [h, List.mem_filter, decide_eq_true_eq]
  refine ⟨fun r => ⟨?_, r⟩, fun r => r.2⟩
  rcases r with rfl | r
  · exact List.mem_range.mpr ha
  · exact r.mem
/-- reached(game, place) -/
theorem sp_reached {Φ : Calls} {c0 : Nat} (ht : TgOk Φ c0) {g : List Pl} {a : Nat} (hz : ∀ q ∈ g, q.tg.length ≤ 1000) (hq : ∀ q ∈ g, ∀ t ∈ q.tg, t < g.length) (ha : a < g.length) (hg : g.length ≤ 1000) : (runFn Φ ⟨2, 5, aReached c0⟩ [.list (g.map encP), nI a]).sat fun d => d = .list ((rchd g a).map nI) := by
  rw [run_eq]
  refine ⟨⟨rfl, by decide⟩, ?_⟩
  show (exec Φ (aReached c0) [some (.list (g.map encP)), some (nI a), none, none, none]).sat _ _ _ _
  unfold aReached
  simp only [x_skip, x_seq, x_asg, x_aug, x_ex, x_ite, x_for, x_ret, x_brk, x_cnt, t_var, t_tup, t_tupL, t_nil, t_cons, t_sub, n_var, n_tup, n_nil, n_cons, c_cons', c_lst, c_neg, c_tup, e_nil, e_cons, e_var, e_lit, e_tup, e_lst, e_neg, e_not, e_bin, e_cmp, e_and, e_or, e_ite, e_sub, e_slc, e_call, e_bi, e_isi, e_app, e_pop, e_comp, e_dcomp, i_sat, g_zero, g_succ, z_zero, z_succ, wipe_nil, wipe_cons, p_add, p_sub, p_mul, p_fdiv, p_mod, p_pow, p_addL, p_addT, p_auga, p_augs, q_lt, q_le, q_gt, q_ge, q_isN, q_isnotN, q_in, q_notin, q_in_ints, p_len, p_lenT, p_lenS, p_list, p_listT, p_int, p_intB, p_abs, p_range, p_range2, p_all, p_any, p_sum, p_gcd, p_append, p_items, p_itemsT, p_itemsS, p_subL, p_subT, at0, at1, at2, truth_b, lt_zero, lt_succ, ln_cons, ln_nil, p_slc, p_putL, true_and, and_true, decide_eq_true_eq, m_on, q_eqI, q_neI, Option.some.injEq, exists_eq_left', exists_eq_left, if_true, if_false, eq_self, Bool.false_eq_true, Bool.not_eq_true, List.length_map, reduceCtorEq, not_false_eq_true, sat_ite, s_ok, q_eqS, q_neS, q_eqB, q_neB, i_bb, i_tt, i_ll, p_end, p_endN, ne_eq, rng0, Int.toNat_natCast, List.length_range, p_sumN, line, x_wh]
  refine loopW_sat (fun k ρ => ∃ (f w : List Nat) (x4 : Option D), ρ = [some (.list (g.map encP)), some (nI a), some (.list (f.map nI)), some (.list (w.map nI)), x4] ∧ Rs (tgOf g) (List.range g.length) a f w ∧ w.length ≤ f.length ∧ k = 2 * (g.length - f.length) + w.length) ?_ wturns (2 * (g.length - 1) + 1) _ (by unfold wturns; omega) ⟨[a], [a], none, rfl, .start, by simp, by simp⟩
  rintro k ρ ⟨f, w, x4, rfl, S, hw, hk⟩
  have sl := S.len ha
  simp only [x_skip, x_seq, x_asg, x_aug, x_ex, x_ite, x_for, x_ret, x_brk, x_cnt, t_var, t_tup, t_tupL, t_nil, t_cons, t_sub, n_var, n_tup, n_nil, n_cons, c_cons', c_lst, c_neg, c_tup, e_nil, e_cons, e_var, e_lit, e_tup, e_lst, e_neg, e_not, e_bin, e_cmp, e_and, e_or, e_ite, e_sub, e_slc, e_call, e_bi, e_isi, e_app, e_pop, e_comp, e_dcomp, i_sat, g_zero, g_succ, z_zero, z_succ, wipe_nil, wipe_cons, p_add, p_sub, p_mul, p_fdiv, p_mod, p_pow, p_addL, p_addT, p_auga, p_augs, q_lt, q_le, q_gt, q_ge, q_isN, q_isnotN, q_in, q_notin, q_in_ints, p_len, p_lenT, p_lenS, p_list, p_listT, p_int, p_intB, p_abs, p_range, p_range2, p_all, p_any, p_sum, p_gcd, p_append, p_items, p_itemsT, p_itemsS, p_subL, p_subT, at0, at1, at2, truth_b, lt_zero, lt_succ, ln_cons, ln_nil, p_slc, p_putL, true_and, and_true, decide_eq_true_eq, m_on, q_eqI, q_neI, Option.some.injEq, exists_eq_left', exists_eq_left, if_true, if_false, eq_self, Bool.false_eq_true, Bool.not_eq_true, List.length_map, reduceCtorEq, not_false_eq_true, sat_ite, s_ok, q_eqS, q_neS, q_eqB, q_neB, i_bb, i_tt, i_ll, p_end, p_endN, ne_eq, rng0, Int.toNat_natCast, List.length_range, p_sumN, line, truth_l]
  rcases List.eq_nil_or_concat w with rfl | ⟨r, t, rfl⟩
  · rw [if_neg (by simp)]
    simp only [x_skip, x_seq, x_asg, x_aug, x_ex, x_ite, x_for, x_ret, x_brk, x_cnt, t_var, t_tup, t_tupL, t_nil, t_cons, t_sub, n_var, n_tup, n_nil, n_cons, c_cons', c_lst, c_neg, c_tup, e_nil, e_cons, e_var, e_lit, e_tup, e_lst, e_neg, e_not, e_bin, e_cmp, e_and, e_or, e_ite, e_sub, e_slc, e_call, e_bi, e_isi, e_app, e_pop, e_comp, e_dcomp, i_sat, g_zero, g_succ, z_zero, z_succ, wipe_nil, wipe_cons, p_add, p_sub, p_mul, p_fdiv, p_mod, p_pow, p_addL, p_addT, p_auga, p_augs, q_lt, q_le, q_gt, q_ge, q_isN, q_isnotN, q_in, q_notin, q_in_ints, p_len, p_lenT, p_lenS, p_list, p_listT, p_int, p_intB, p_abs, p_range, p_range2, p_all, p_any, p_sum, p_gcd, p_append, p_items, p_itemsT, p_itemsS, p_subL, p_subT, at0, at1, at2, truth_b, lt_zero, lt_succ, ln_cons, ln_nil, p_slc, p_putL, true_and, and_true, decide_eq_true_eq, m_on, q_eqI, q_neI, Option.some.injEq, exists_eq_left', exists_eq_left, if_true, if_false, eq_self, Bool.false_eq_true, Bool.not_eq_true, List.length_map, reduceCtorEq, not_false_eq_true, sat_ite, s_ok, q_eqS, q_neS, q_eqB, q_neB, i_bb, i_tt, i_ll, p_end, p_endN, ne_eq, rng0, Int.toNat_natCast, List.length_range, p_sumN, line, srt_nI (rchd_perm ha S.nd S.fin) rchd_asc]
  · rw [List.concat_eq_append] at *
    have tl : t < g.length := by
      rcases S.ok t (S.wt t (by simp)) with rfl | h
      · exact ha
      · exact List.mem_range.mp h.mem
    rw [if_pos (by simp)]
    simp only [x_skip, x_seq, x_asg, x_aug, x_ex, x_ite, x_for, x_ret, x_brk, x_cnt, t_var, t_tup, t_tupL, t_nil, t_cons, t_sub, n_var, n_tup, n_nil, n_cons, c_cons', c_lst, c_neg, c_tup, e_nil, e_cons, e_var, e_lit, e_tup, e_lst, e_neg, e_not, e_bin, e_cmp, e_and, e_or, e_ite, e_sub, e_slc, e_call, e_bi, e_isi, e_app, e_pop, e_comp, e_dcomp, i_sat, g_zero, g_succ, z_zero, z_succ, wipe_nil, wipe_cons, p_add, p_sub, p_mul, p_fdiv, p_mod, p_pow, p_addL, p_addT, p_auga, p_augs, q_lt, q_le, q_gt, q_ge, q_isN, q_isnotN, q_in, q_notin, q_in_ints, p_len, p_lenT, p_lenS, p_list, p_listT, p_int, p_intB, p_abs, p_range, p_range2, p_all, p_any, p_sum, p_gcd, p_append, p_items, p_itemsT, p_itemsS, p_subL, p_subT, at0, at1, at2, truth_b, lt_zero, lt_succ, ln_cons, ln_nil, p_slc, p_putL, true_and, and_true, decide_eq_true_eq, m_on, q_eqI, q_neI, Option.some.injEq, exists_eq_left', exists_eq_left, if_true, if_false, eq_self, Bool.false_eq_true, Bool.not_eq_true, List.length_map, reduceCtorEq, not_false_eq_true, sat_ite, s_ok, q_eqS, q_neS, q_eqB, q_neB, i_bb, i_tt, i_ll, p_end, p_endN, ne_eq, rng0, Int.toNat_natCast, List.length_range, p_sumN, line, m_onp, p_popN]
    refine (ht g t tl (hz _ (List.getElem_mem tl))).imp fun d e => ?_
    subst e
    have et : g[t].tg = tgOf g t := (tgOf_at tl).symm
    have tin : ∀ b ∈ tgOf g t, b ∈ List.range g.length := fun b hb => by
      rw [← et] at hb
      exact List.mem_range.mpr (hq _ (List.getElem_mem tl) b hb)
    rw [et]
    simp only [x_skip, x_seq, x_asg, x_aug, x_ex, x_ite, x_for, x_ret, x_brk, x_cnt, t_var, t_tup, t_tupL, t_nil, t_cons, t_sub, n_var, n_tup, n_nil, n_cons, c_cons', c_lst, c_neg, c_tup, e_nil, e_cons, e_var, e_lit, e_tup, e_lst, e_neg, e_not, e_bin, e_cmp, e_and, e_or, e_ite, e_sub, e_slc, e_call, e_bi, e_isi, e_app, e_pop, e_comp, e_dcomp, i_sat, g_zero, g_succ, z_zero, z_succ, wipe_nil, wipe_cons, p_add, p_sub, p_mul, p_fdiv, p_mod, p_pow, p_addL, p_addT, p_auga, p_augs, q_lt, q_le, q_gt, q_ge, q_isN, q_isnotN, q_in, q_notin, q_in_ints, p_len, p_lenT, p_lenS, p_list, p_listT, p_int, p_intB, p_abs, p_range, p_range2, p_all, p_any, p_sum, p_gcd, p_append, p_items, p_itemsT, p_itemsS, p_subL, p_subT, at0, at1, at2, truth_b, lt_zero, lt_succ, ln_cons, ln_nil, p_slc, p_putL, true_and, and_true, decide_eq_true_eq, m_on, q_eqI, q_neI, Option.some.injEq, exists_eq_left', exists_eq_left, if_true, if_false, eq_self, Bool.false_eq_true, Bool.not_eq_true, List.length_map, reduceCtorEq, not_false_eq_true, sat_ite, s_ok, q_eqS, q_neS, q_eqB, q_neB, i_bb, i_tt, i_ll, p_end, p_endN, ne_eq, rng0, Int.toNat_natCast, List.length_range, p_sumN, line]
    refine loop_map (as := tgOf g t) (e := nI) (fun i ρ => ∃ (new : List Nat) (x4 : Option D), ρ = [some (.list (g.map encP)), some (nI a), some (.list ((f ++ new).map nI)), some (.list ((r ++ new).map nI)), x4] ∧ NewOk (List.range g.length) f new (tgOf g t) i)
      (fun ρ => ∃ (new : List Nat) (x4 : Option D), ρ = [some (.list (g.map encP)), some (nI a), some (.list ((f ++ new).map nI)), some (.list ((r ++ new).map nI)), x4] ∧ NewOk (List.range g.length) f new (tgOf g t) (tgOf g t).length) ?_ ?_ ?_ ?_
    · exact ⟨[], x4, by rw [List.append_nil, List.append_nil], by rw [List.append_nil]; exact S.nd, fun b h => (by cases h), fun b h => (by cases h), fun j b hj => absurd hj (Nat.not_lt_zero _)⟩
    · rintro i b ρ hi ⟨new, y5, rfl, n⟩
      simp only [x_skip, x_seq, x_asg, x_aug, x_ex, x_ite, x_for, x_ret, x_brk, x_cnt, t_var, t_tup, t_tupL, t_nil, t_cons, t_sub, n_var, n_tup, n_nil, n_cons, c_cons', c_lst, c_neg, c_tup, e_nil, e_cons, e_var, e_lit, e_tup, e_lst, e_neg, e_not, e_bin, e_cmp, e_and, e_or, e_ite, e_sub, e_slc, e_call, e_bi, e_isi, e_app, e_pop, e_comp, e_dcomp, i_sat, g_zero, g_succ, z_zero, z_succ, wipe_nil, wipe_cons, p_add, p_sub, p_mul, p_fdiv, p_mod, p_pow, p_addL, p_addT, p_auga, p_augs, q_lt, q_le, q_gt, q_ge, q_isN, q_isnotN, q_in, q_notin, q_in_ints, p_len, p_lenT, p_lenS, p_list, p_listT, p_int, p_intB, p_abs, p_range, p_range2, p_all, p_any, p_sum, p_gcd, p_append, p_items, p_itemsT, p_itemsS, p_subL, p_subT, at0, at1, at2, truth_b, lt_zero, lt_succ, ln_cons, ln_nil, p_slc, p_putL, true_and, and_true, decide_eq_true_eq, m_on, q_eqI, q_neI, Option.some.injEq, exists_eq_left', exists_eq_left, if_true, if_false, eq_self, Bool.false_eq_true, Bool.not_eq_true, List.length_map, reduceCtorEq, not_false_eq_true, sat_ite, s_ok, q_eqS, q_neS, q_eqB, q_neB, i_bb, i_tt, i_ll, p_end, p_endN, ne_eq, rng0, Int.toNat_natCast, List.length_range, p_sumN, line, q_in_nat]
      by_cases h2 : b ∈ f ++ new
      · rw [if_neg (by rw [decide_eq_true h2]; simp)]
        exact ⟨new, _, rfl, n.skip hi fun _ => h2⟩
      · rw [if_pos (by rw [decide_eq_false h2]; rfl)]
        have S2 := n.nd
        have l1 := nodup_len (m := List.range g.length) n.nd fun c hc => by
          rcases List.mem_append.mp hc with h | h
          · rcases S.ok c h with rfl | h
            · exact List.mem_range.mpr ha
            · exact h.mem
          · exact n.sb c h
        rw [List.length_range] at l1
        have lr : (r ++ new).length ≤ 5000 := by
          rw [List.length_append, List.length_singleton] at hw
          rw [List.length_append] at l1 ⊢; omega
        refine ⟨by rw [List.length_append] at *; omega, by rw [List.length_append] at *; omega, new ++ [b], some (nI b), ?_, n.add hi (tin b (List.mem_of_getElem? hi)) h2⟩
        rw [app_nI, app_nI, List.append_assoc, List.append_assoc]
    · exact fun ρ h => h
    · rintro ρ ⟨new, y5, rfl, n⟩
      have S2 := S.step n
      refine ⟨_, ?_, f ++ new, r ++ new, y5, rfl, S2, ?_, rfl⟩
      all_goals have := S2.len ha
      all_goals simp only [List.length_append, List.length_cons, List.length_nil] at *
      all_goals omega
/-- a round of the law's search: what is new from the first i of w -/
theorem sp_lreached {Φ : Calls} {c0 : Nat} (ht : LTgOk Φ c0) {g : List Pl} {a : Nat} (hz : ∀ q ∈ g, q.tg.length ≤ 1000) (hq : ∀ q ∈ g, ∀ t ∈ q.tg, t < g.length) (ha : a < g.length) (hg : g.length ≤ 1000) : (runFn Φ ⟨2, 6, aLReached c0⟩ [.list (g.map encP), nI a]).sat fun d => d = .list ((rchd g a).map nI) := by
  rw [run_eq]
  refine ⟨⟨rfl, by decide⟩, ?_⟩
  show (exec Φ (aLReached c0) [some (.list (g.map encP)), some (nI a), none, none, none, none]).sat _ _ _ _
  unfold aLReached
  simp only [x_skip, x_seq, x_asg, x_aug, x_ex, x_ite, x_for, x_ret, x_brk, x_cnt, t_var, t_tup, t_tupL, t_nil, t_cons, t_sub, n_var, n_tup, n_nil, n_cons, c_cons', c_lst, c_neg, c_tup, e_nil, e_cons, e_var, e_lit, e_tup, e_lst, e_neg, e_not, e_bin, e_cmp, e_and, e_or, e_ite, e_sub, e_slc, e_call, e_bi, e_isi, e_app, e_pop, e_comp, e_dcomp, i_sat, g_zero, g_succ, z_zero, z_succ, wipe_nil, wipe_cons, p_add, p_sub, p_mul, p_fdiv, p_mod, p_pow, p_addL, p_addT, p_auga, p_augs, q_lt, q_le, q_gt, q_ge, q_isN, q_isnotN, q_in, q_notin, q_in_ints, p_len, p_lenT, p_lenS, p_list, p_listT, p_int, p_intB, p_abs, p_range, p_range2, p_all, p_any, p_sum, p_gcd, p_append, p_items, p_itemsT, p_itemsS, p_subL, p_subT, at0, at1, at2, truth_b, lt_zero, lt_succ, ln_cons, ln_nil, p_slc, p_putL, true_and, and_true, decide_eq_true_eq, m_on, q_eqI, q_neI, Option.some.injEq, exists_eq_left', exists_eq_left, if_true, if_false, eq_self, Bool.false_eq_true, Bool.not_eq_true, List.length_map, reduceCtorEq, not_false_eq_true, sat_ite, s_ok, q_eqS, q_neS, q_eqB, q_neB, i_bb, i_tt, i_ll, p_end, p_endN, ne_eq, rng0, Int.toNat_natCast, List.length_range, p_sumN, line]
  refine ⟨rOk_nat (by omega), ?_⟩
  -- w: those whose targets are not all found yet
  refine loop_map (as := List.range g.length) (e := nI) (fun i ρ => ∃ (f w : List Nat) (x3 x4 x5 : Option D), ρ = [some (.list (g.map encP)), some (nI a), some (.list (f.map nI)), x3, x4, x5] ∧ Rs (tgOf g) (List.range g.length) a f w ∧ (w = [] ∨ i + 1 ≤ f.length))
    (fun ρ => ∃ (f : List Nat) (x3 x4 x5 : Option D), ρ = [some (.list (g.map encP)), some (nI a), some (.list (f.map nI)), x3, x4, x5] ∧ Rs (tgOf g) (List.range g.length) a f []) ⟨[a], [a], none, none, none, rfl, .start, .inr (by simp)⟩ ?_ ?_ ?_
  · rintro i tn ρ _ ⟨f, w, x3, x4, x5, rfl, S, hi⟩
    have sl := S.len ha
    have fin : ∀ c ∈ f, c < g.length := fun c hc => by
      rcases S.ok c hc with rfl | h
      · exact ha
      · exact List.mem_range.mp h.mem
    simp only [x_skip, x_seq, x_asg, x_aug, x_ex, x_ite, x_for, x_ret, x_brk, x_cnt, t_var, t_tup, t_tupL, t_nil, t_cons, t_sub, n_var, n_tup, n_nil, n_cons, c_cons', c_lst, c_neg, c_tup, e_nil, e_cons, e_var, e_lit, e_tup, e_lst, e_neg, e_not, e_bin, e_cmp, e_and, e_or, e_ite, e_sub, e_slc, e_call, e_bi, e_isi, e_app, e_pop, e_comp, e_dcomp, i_sat, g_zero, g_succ, z_zero, z_succ, wipe_nil, wipe_cons, p_add, p_sub, p_mul, p_fdiv, p_mod, p_pow, p_addL, p_addT, p_auga, p_augs, q_lt, q_le, q_gt, q_ge, q_isN, q_isnotN, q_in, q_notin, q_in_ints, p_len, p_lenT, p_lenS, p_list, p_listT, p_int, p_intB, p_abs, p_range, p_range2, p_all, p_any, p_sum, p_gcd, p_append, p_items, p_itemsT, p_itemsS, p_subL, p_subT, at0, at1, at2, truth_b, lt_zero, lt_succ, ln_cons, ln_nil, p_slc, p_putL, true_and, and_true, decide_eq_true_eq, m_on, q_eqI, q_neI, Option.some.injEq, exists_eq_left', exists_eq_left, if_true, if_false, eq_self, Bool.false_eq_true, Bool.not_eq_true, List.length_map, reduceCtorEq, not_false_eq_true, sat_ite, s_ok, q_eqS, q_neS, q_eqB, q_neB, i_bb, i_tt, i_ll, p_end, p_endN, ne_eq, rng0, Int.toNat_natCast, List.length_range, p_sumN, line]
    refine loop_map (as := f) (e := nI) (fun j ρ => ∃ (new : List Nat) (x4 x5 : Option D), ρ = [some (.list (g.map encP)), some (nI a), some (.list ((f ++ new).map nI)), some (nI tn), x4, x5] ∧ Lvl (tgOf g) (List.range g.length) f f new j)
      (fun ρ => ∃ (new : List Nat) (x4 x5 : Option D), ρ = [some (.list (g.map encP)), some (nI a), some (.list ((f ++ new).map nI)), some (nI tn), x4, x5] ∧ Lvl (tgOf g) (List.range g.length) f f new f.length) ?_ ?_ (fun ρ h => h) ?_
    · exact ⟨[], x4, x5, by rw [List.append_nil], by rw [List.append_nil]; exact S.nd, fun b h => (by cases h), fun b h => (by cases h), fun j a hj => absurd hj (Nat.not_lt_zero _)⟩
    · rintro j t ρ hj ⟨new, y4, y5, rfl, L⟩
      have tw : t ∈ f := List.mem_of_getElem? hj
      have tl := fin t tw
      have ea := atG (g := g) (i := (t : Int)) t rfl tl
      have et : g[t].tg = tgOf g t := (tgOf_at tl).symm
      simp only [x_skip, x_seq, x_asg, x_aug, x_ex, x_ite, x_for, x_ret, x_brk, x_cnt, t_var, t_tup, t_tupL, t_nil, t_cons, t_sub, n_var, n_tup, n_nil, n_cons, c_cons', c_lst, c_neg, c_tup, e_nil, e_cons, e_var, e_lit, e_tup, e_lst, e_neg, e_not, e_bin, e_cmp, e_and, e_or, e_ite, e_sub, e_slc, e_call, e_bi, e_isi, e_app, e_pop, e_comp, e_dcomp, i_sat, g_zero, g_succ, z_zero, z_succ, wipe_nil, wipe_cons, p_add, p_sub, p_mul, p_fdiv, p_mod, p_pow, p_addL, p_addT, p_auga, p_augs, q_lt, q_le, q_gt, q_ge, q_isN, q_isnotN, q_in, q_notin, q_in_ints, p_len, p_lenT, p_lenS, p_list, p_listT, p_int, p_intB, p_abs, p_range, p_range2, p_all, p_any, p_sum, p_gcd, p_append, p_items, p_itemsT, p_itemsS, p_subL, p_subT, at0, at1, at2, truth_b, lt_zero, lt_succ, ln_cons, ln_nil, p_slc, p_putL, true_and, and_true, decide_eq_true_eq, m_on, q_eqI, q_neI, Option.some.injEq, exists_eq_left', exists_eq_left, if_true, if_false, eq_self, Bool.false_eq_true, Bool.not_eq_true, List.length_map, reduceCtorEq, not_false_eq_true, sat_ite, s_ok, q_eqS, q_neS, q_eqB, q_neB, i_bb, i_tt, i_ll, p_end, p_endN, ne_eq, rng0, Int.toNat_natCast, List.length_range, p_sumN, line, ea]
      refine (ht g[t] (hz _ (List.getElem_mem tl))).imp fun d e => ?_
      subst e
      have tin : ∀ b ∈ tgOf g t, b ∈ List.range g.length := fun b hb => by
        rw [← et] at hb
        exact List.mem_range.mpr (hq _ (List.getElem_mem tl) b hb)
      rw [et]
      simp only [x_skip, x_seq, x_asg, x_aug, x_ex, x_ite, x_for, x_ret, x_brk, x_cnt, t_var, t_tup, t_tupL, t_nil, t_cons, t_sub, n_var, n_tup, n_nil, n_cons, c_cons', c_lst, c_neg, c_tup, e_nil, e_cons, e_var, e_lit, e_tup, e_lst, e_neg, e_not, e_bin, e_cmp, e_and, e_or, e_ite, e_sub, e_slc, e_call, e_bi, e_isi, e_app, e_pop, e_comp, e_dcomp, i_sat, g_zero, g_succ, z_zero, z_succ, wipe_nil, wipe_cons, p_add, p_sub, p_mul, p_fdiv, p_mod, p_pow, p_addL, p_addT, p_auga, p_augs, q_lt, q_le, q_gt, q_ge, q_isN, q_isnotN, q_in, q_notin, q_in_ints, p_len, p_lenT, p_lenS, p_list, p_listT, p_int, p_intB, p_abs, p_range, p_range2, p_all, p_any, p_sum, p_gcd, p_append, p_items, p_itemsT, p_itemsS, p_subL, p_subT, at0, at1, at2, truth_b, lt_zero, lt_succ, ln_cons, ln_nil, p_slc, p_putL, true_and, and_true, decide_eq_true_eq, m_on, q_eqI, q_neI, Option.some.injEq, exists_eq_left', exists_eq_left, if_true, if_false, eq_self, Bool.false_eq_true, Bool.not_eq_true, List.length_map, reduceCtorEq, not_false_eq_true, sat_ite, s_ok, q_eqS, q_neS, q_eqB, q_neB, i_bb, i_tt, i_ll, p_end, p_endN, ne_eq, rng0, Int.toNat_natCast, List.length_range, p_sumN, line]
      refine loop_map (as := tgOf g t) (e := nI) (fun m ρ => ∃ (new : List Nat) (x5 : Option D), ρ = [some (.list (g.map encP)), some (nI a), some (.list ((f ++ new).map nI)), some (nI tn), some (nI t), x5] ∧ LvlT (tgOf g) (List.range g.length) f f new j t m)
        (fun ρ => ∃ (new : List Nat) (x5 : Option D), ρ = [some (.list (g.map encP)), some (nI a), some (.list ((f ++ new).map nI)), some (nI tn), some (nI t), x5] ∧ LvlT (tgOf g) (List.range g.length) f f new j t (tgOf g t).length) ?_ ?_ (fun ρ h => h) ?_
      · exact ⟨new, y5, rfl, L, fun j b hj => absurd hj (Nat.not_lt_zero _)⟩
      · rintro m b ρ hm ⟨new, z5, rfl, T⟩
        simp only [x_skip, x_seq, x_asg, x_aug, x_ex, x_ite, x_for, x_ret, x_brk, x_cnt, t_var, t_tup, t_tupL, t_nil, t_cons, t_sub, n_var, n_tup, n_nil, n_cons, c_cons', c_lst, c_neg, c_tup, e_nil, e_cons, e_var, e_lit, e_tup, e_lst, e_neg, e_not, e_bin, e_cmp, e_and, e_or, e_ite, e_sub, e_slc, e_call, e_bi, e_isi, e_app, e_pop, e_comp, e_dcomp, i_sat, g_zero, g_succ, z_zero, z_succ, wipe_nil, wipe_cons, p_add, p_sub, p_mul, p_fdiv, p_mod, p_pow, p_addL, p_addT, p_auga, p_augs, q_lt, q_le, q_gt, q_ge, q_isN, q_isnotN, q_in, q_notin, q_in_ints, p_len, p_lenT, p_lenS, p_list, p_listT, p_int, p_intB, p_abs, p_range, p_range2, p_all, p_any, p_sum, p_gcd, p_append, p_items, p_itemsT, p_itemsS, p_subL, p_subT, at0, at1, at2, truth_b, lt_zero, lt_succ, ln_cons, ln_nil, p_slc, p_putL, true_and, and_true, decide_eq_true_eq, m_on, q_eqI, q_neI, Option.some.injEq, exists_eq_left', exists_eq_left, if_true, if_false, eq_self, Bool.false_eq_true, Bool.not_eq_true, List.length_map, reduceCtorEq, not_false_eq_true, sat_ite, s_ok, q_eqS, q_neS, q_eqB, q_neB, i_bb, i_tt, i_ll, p_end, p_endN, ne_eq, rng0, Int.toNat_natCast, List.length_range, p_sumN, line, q_in_nat]
        by_cases h2 : b ∈ f ++ new
        · rw [if_neg (by rw [decide_eq_true h2]; simp)]
          exact ⟨new, _, rfl, T.skip hm fun _ => h2⟩
        · rw [if_pos (by rw [decide_eq_false h2]; rfl)]
          have l1 := nodup_len (m := List.range g.length) T.lv.nd fun c hc => by
            rcases List.mem_append.mp hc with h | h
            · exact List.mem_range.mpr (fin c h)
            · exact T.lv.sb c h
          rw [List.length_range] at l1
          exact ⟨by omega, new ++ [b], some (nI b), by rw [app_nI, List.append_assoc], T.add tw hm (tin b (List.mem_of_getElem? hm)) h2⟩
      · rintro ρ ⟨new, z5, rfl, T⟩
        exact ⟨new, _, _, rfl, T.done hj⟩
    · rintro ρ ⟨new, y4, y5, rfl, L⟩
      have S2 : Rs (tgOf g) (List.range g.length) a (f ++ new) new := by
        refine ⟨L.nd, List.mem_append_left _ S.st, fun b hb => ?_, fun b hb => List.mem_append_right _ hb, fun x hx hn b hb hp => ?_⟩
        · rcases List.mem_append.mp hb with h1 | h1
          · exact S.ok b h1
          · obtain ⟨c, hc, hb2⟩ := L.fr b h1
            rcases S.ok c hc with rfl | hw
            · exact .inr (.one hb2 (L.sb b h1))
            · exact .inr (.more hw hb2 (L.sb b h1))
        · rcases List.mem_append.mp hx with h1 | h1
          · obtain ⟨j, hj, e⟩ := List.getElem_of_mem h1
            exact L.all j x hj (by rw [List.getElem?_eq_getElem hj, e]) b hb hp
          · exact absurd h1 hn
      refine ⟨f ++ new, new, some (nI tn), y4, y5, rfl, S2, ?_⟩
      rcases hi with rfl | hi
      · left
        cases new with
        | nil => rfl
        | cons b r =>
          obtain ⟨c, hc, hb2⟩ := L.fr b List.mem_cons_self
          have := S.cs c hc (by simp) b hb2 (L.sb b List.mem_cons_self)
          have nn := L.nd
          rw [List.nodup_append] at nn
          exact absurd rfl (nn.2.2 b this b List.mem_cons_self)
      · cases new with
        | nil => exact .inl rfl
        | cons b r => right; rw [List.length_append, List.length_cons]; omega
  · rintro ρ ⟨f, w, x3, x4, x5, rfl, S, hi⟩
    have sl := S.len ha
    rw [List.length_range] at hi
    have : w = [] := by
      rcases hi with h | h
      · exact h
      · omega
    subst this
    exact ⟨f, _, _, _, rfl, S⟩
  · rintro ρ ⟨f, x3, x4, x5, rfl, S⟩
    simp only [x_skip, x_seq, x_asg, x_aug, x_ex, x_ite, x_for, x_ret, x_brk, x_cnt, t_var, t_tup, t_tupL, t_nil, t_cons, t_sub, n_var, n_tup, n_nil, n_cons, c_cons', c_lst, c_neg, c_tup, e_nil, e_cons, e_var, e_lit, e_tup, e_lst, e_neg, e_not, e_bin, e_cmp, e_and, e_or, e_ite, e_sub, e_slc, e_call, e_bi, e_isi, e_app, e_pop, e_comp, e_dcomp, i_sat, g_zero, g_succ, z_zero, z_succ, wipe_nil, wipe_cons, p_add, p_sub, p_mul, p_fdiv, p_mod, p_pow, p_addL, p_addT, p_auga, p_augs, q_lt, q_le, q_gt, q_ge, q_isN, q_isnotN, q_in, q_notin, q_in_ints, p_len, p_lenT, p_lenS, p_list, p_listT, p_int, p_intB, p_abs, p_range, p_range2, p_all, p_any, p_sum, p_gcd, p_append, p_items, p_itemsT, p_itemsS, p_subL, p_subT, at0, at1, at2, truth_b, lt_zero, lt_succ, ln_cons, ln_nil, p_slc, p_putL, true_and, and_true, decide_eq_true_eq, m_on, q_eqI, q_neI, Option.some.injEq, exists_eq_left', exists_eq_left, if_true, if_false, eq_self, Bool.false_eq_true, Bool.not_eq_true, List.length_map, reduceCtorEq, not_false_eq_true, sat_ite, s_ok, q_eqS, q_neS, q_eqB, q_neB, i_bb, i_tt, i_ll, p_end, p_endN, ne_eq, rng0, Int.toNat_natCast, List.length_range, p_sumN, line, srt_nI (rchd_perm ha S.nd S.fin) rchd_asc]
/-! kinds -/
def kdS : Pl → Str
  | .draw _ _ => "draw"
  | .side _ o _ => sideS o
def brD : Pl → D
  | .draw _ bs => .list (bs.map encB)
  | .side _ _ ts => .list (ts.map nI)
theorem encP_eq (p : Pl) : encP p = .tuple [nI p.mark, .str (kdS p), brD p] := by cases p <;> rfl
theorem p_kind {p : Pl} {P : D → Prop} : (subD (encP p) (.int 1)).sat P = P (.str (kdS p)) := by
  rw [encP_eq]; simp only [p_subT, at1, Option.some.injEq, exists_eq_left']
theorem enum_map {α : Type} {e : α → D} : ∀ (l : List α) (k : Nat), enum k (l.map e) = (l.zipIdx k).map fun p => .tuple [nI p.2, e p.1]
  | [], _ => rfl
  | a :: r, k => by
    rw [List.map_cons, enum, enum_map r (k + 1), List.zipIdx_cons, List.map_cons]
theorem p_enum {α : Type} {e : α → D} {l : List α} {P : D → Prop} : (biD .enumerate [.list (l.map e)]).sat P = P (.list (l.zipIdx.map fun p => .tuple [nI p.2, e p.1])) := by
  show (Res.ok (D.list (enum 0 (l.map e)))).sat P = _
  rw [s_ok, enum_map]
theorem zip_range {α : Type} (d : α) (l : List α) : l.zipIdx = (List.range l.length).map fun k => (l.getD k d, k) := by
  apply List.ext_getElem?
  intro i
  rw [List.getElem?_zipIdx, List.getElem?_map]
  by_cases h : i < l.length
  · rw [List.getElem?_range h, List.getElem?_eq_getElem h]
    simp [List.getD_eq_getElem?_getD, List.getElem?_eq_getElem h]
  · rw [List.getElem?_eq_none (by omega), List.getElem?_eq_none (by simp; omega)]; rfl
def plOf (g : List Pl) (k : Nat) : Pl := g.getD k (.side 0 true [])
/-- the places of a kind -/
def placesK (g : List Pl) (kd : Str) : List Nat := (List.range g.length).filter fun k => kdS (plOf g k) == kd
/-- places_of(game, kind) -/
theorem sp_places {Φ : Calls} {g : List Pl} {kd : Str} (hg : g.length ≤ 1000) : (runFn Φ ⟨2, 4, aPlaces⟩ [.list (g.map encP), .str kd]).sat fun d => d = .list ((placesK g kd).map nI) := by
  rw [run_eq]
  refine ⟨⟨rfl, by decide⟩, ?_⟩
  show (exec Φ aPlaces [some (.list (g.map encP)), some (.str kd), none, none]).sat _ _ _ _
  unfold aPlaces
  simp only [x_skip, x_seq, x_asg, x_aug, x_ex, x_ite, x_for, x_ret, x_brk, x_cnt, t_var, t_tup, t_tupL, t_nil, t_cons, t_sub, n_var, n_tup, n_nil, n_cons, c_cons', c_lst, c_neg, c_tup, e_nil, e_cons, e_var, e_lit, e_tup, e_lst, e_neg, e_not, e_bin, e_cmp, e_and, e_or, e_ite, e_sub, e_slc, e_call, e_bi, e_isi, e_app, e_pop, e_comp, e_dcomp, i_sat, g_zero, g_succ, z_zero, z_succ, wipe_nil, wipe_cons, p_add, p_sub, p_mul, p_fdiv, p_mod, p_pow, p_addL, p_addT, p_auga, p_augs, q_lt, q_le, q_gt, q_ge, q_isN, q_isnotN, q_in, q_notin, q_in_ints, p_len, p_lenT, p_lenS, p_list, p_listT, p_int, p_intB, p_abs, p_range, p_range2, p_all, p_any, p_sum, p_gcd, p_append, p_items, p_itemsT, p_itemsS, p_subL, p_subT, at0, at1, at2, truth_b, lt_zero, lt_succ, ln_cons, ln_nil, p_slc, p_putL, true_and, and_true, decide_eq_true_eq, m_on, q_eqI, q_neI, Option.some.injEq, exists_eq_left', exists_eq_left, if_true, if_false, eq_self, Bool.false_eq_true, Bool.not_eq_true, List.length_map, reduceCtorEq, not_false_eq_true, sat_ite, s_ok, q_eqS, q_neS, q_eqB, q_neB, i_bb, i_tt, i_ll, p_end, p_endN, ne_eq, rng0, Int.toNat_natCast, List.length_range, p_sumN, line, p_enum]
  refine ⟨by rw [List.length_zipIdx]; omega, fm_filter (as := g.zipIdx) (ea := fun p : Pl × Nat => .tuple [nI p.2, encP p.1]) (eb := nI) (fun p => if (kdS p.1 == kd) = true then some p.2 else none) (fun p hp => ?_) ?_⟩
  · simp only [x_skip, x_seq, x_asg, x_aug, x_ex, x_ite, x_for, x_ret, x_brk, x_cnt, t_var, t_tup, t_tupL, t_nil, t_cons, t_sub, n_var, n_tup, n_nil, n_cons, c_cons', c_lst, c_neg, c_tup, e_nil, e_cons, e_var, e_lit, e_tup, e_lst, e_neg, e_not, e_bin, e_cmp, e_and, e_or, e_ite, e_sub, e_slc, e_call, e_bi, e_isi, e_app, e_pop, e_comp, e_dcomp, i_sat, g_zero, g_succ, z_zero, z_succ, wipe_nil, wipe_cons, p_add, p_sub, p_mul, p_fdiv, p_mod, p_pow, p_addL, p_addT, p_auga, p_augs, q_lt, q_le, q_gt, q_ge, q_isN, q_isnotN, q_in, q_notin, q_in_ints, p_len, p_lenT, p_lenS, p_list, p_listT, p_int, p_intB, p_abs, p_range, p_range2, p_all, p_any, p_sum, p_gcd, p_append, p_items, p_itemsT, p_itemsS, p_subL, p_subT, at0, at1, at2, truth_b, lt_zero, lt_succ, ln_cons, ln_nil, p_slc, p_putL, true_and, and_true, decide_eq_true_eq, m_on, q_eqI, q_neI, Option.some.injEq, exists_eq_left', exists_eq_left, if_true, if_false, eq_self, Bool.false_eq_true, Bool.not_eq_true, List.length_map, reduceCtorEq, not_false_eq_true, sat_ite, s_ok, q_eqS, q_neS, q_eqB, q_neB, i_bb, i_tt, i_ll, p_end, p_endN, ne_eq, rng0, Int.toNat_natCast, List.length_range, p_sumN, line, p_kind]
    by_cases h : (kdS p.1 == kd) = true
    · rw [if_pos h, if_pos h]; rfl
    · rw [if_neg h, if_neg h]; rfl
  · rw [zip_range (.side 0 true []) g, List.filterMap_map]
    unfold placesK
    congr 2
    rw [show (fun k => kdS (plOf g k) == kd) = fun k => decide ((kdS (plOf g k) == kd) = true) from funext fun k => by cases (kdS (plOf g k) == kd) <;> rfl]
    rw [← fm_guard]
    rfl
def PlacesOk (Φ : Calls) (f : Nat) : Prop := ∀ (g : List Pl) (kd : Str), g.length ≤ 1000 → (Φ f [.list (g.map encP), .str kd]).sat fun d => d = .list ((placesK g kd).map nI)
theorem mem_placesK {g : List Pl} {kd : Str} {k : Nat} : k ∈ placesK g kd ↔ k < g.length ∧ (kdS (plOf g k) == kd) = true := by
  unfold placesK; rw [List.mem_filter, List.mem_range]
theorem kdS_side (p : Pl) : p.isDraw = false ↔ (kdS p == "ours") = true ∨ (kdS p == "theirs") = true := by
  cases p with
  | draw m bs =>
    have h1 : (kdS (.draw m bs) == "ours") = false := by show (("draw" : Str) == "ours") = false; decide +kernel
    have h2 : (kdS (.draw m bs) == "theirs") = false := by show (("draw" : Str) == "theirs") = false; decide +kernel
    rw [h1, h2]; simp [Pl.isDraw]
  | side m o ts =>
    have h : (kdS (.side m o ts) == "ours") = true ∨ (kdS (.side m o ts) == "theirs") = true := by
      show ((sideS o == "ours") = true) ∨ ((sideS o == "theirs") = true)
      cases o <;> decide +kernel
    exact ⟨fun _ => h, fun _ => rfl⟩
/-- all places are draws -/
def allDraws (g : List Pl) : Bool := g.all Pl.isDraw
theorem allDraws_iff {g : List Pl} : allDraws g = true ↔ placesK g "ours" = [] ∧ placesK g "theirs" = [] := by
  unfold allDraws
  rw [List.all_eq_true, List.eq_nil_iff_forall_not_mem, List.eq_nil_iff_forall_not_mem]
  constructor
  · intro h
    have key : ∀ k, k < g.length → ¬ ((kdS (plOf g k) == "ours") = true ∨ (kdS (plOf g k) == "theirs") = true) := fun k hk q => by
      have := h (plOf g k) (by unfold plOf; rw [getD_at hk]; exact List.getElem_mem hk)
      rw [(kdS_side _).mpr q] at this; cases this
    exact ⟨fun k hk => key k (mem_placesK.mp hk).1 (.inl (mem_placesK.mp hk).2), fun k hk => key k (mem_placesK.mp hk).1 (.inr (mem_placesK.mp hk).2)⟩
  · rintro ⟨h1, h2⟩ p hp
    obtain ⟨k, hk, rfl⟩ := List.getElem_of_mem hp
    cases e : g[k].isDraw with
    | true => rfl
    | false =>
      have ek : plOf g k = g[k] := by unfold plOf; rw [getD_at hk]
      rcases (kdS_side _).mp e with q | q
      · exact absurd (mem_placesK.mpr ⟨hk, by rw [ek]; exact q⟩) (h1 k)
      · exact absurd (mem_placesK.mpr ⟨hk, by rw [ek]; exact q⟩) (h2 k)
/-- is_chain(game) -/
theorem sp_isChain {Φ : Calls} {c0 : Nat} (hp : PlacesOk Φ c0) {g : List Pl} (hg : g.length ≤ 1000) : (runFn Φ ⟨1, 1, aIsChain c0⟩ [.list (g.map encP)]).sat fun d => d = .bool (allDraws g) := by
  rw [run_eq]
  refine ⟨⟨rfl, by decide⟩, ?_⟩
  show (exec Φ (aIsChain c0) [some (.list (g.map encP))]).sat _ _ _ _
  unfold aIsChain
  simp only [x_skip, x_seq, x_asg, x_aug, x_ex, x_ite, x_for, x_ret, x_brk, x_cnt, t_var, t_tup, t_tupL, t_nil, t_cons, t_sub, n_var, n_tup, n_nil, n_cons, c_cons', c_lst, c_neg, c_tup, e_nil, e_cons, e_var, e_lit, e_tup, e_lst, e_neg, e_not, e_bin, e_cmp, e_and, e_or, e_ite, e_sub, e_slc, e_call, e_bi, e_isi, e_app, e_pop, e_comp, e_dcomp, i_sat, g_zero, g_succ, z_zero, z_succ, wipe_nil, wipe_cons, p_add, p_sub, p_mul, p_fdiv, p_mod, p_pow, p_addL, p_addT, p_auga, p_augs, q_lt, q_le, q_gt, q_ge, q_isN, q_isnotN, q_in, q_notin, q_in_ints, p_len, p_lenT, p_lenS, p_list, p_listT, p_int, p_intB, p_abs, p_range, p_range2, p_all, p_any, p_sum, p_gcd, p_append, p_items, p_itemsT, p_itemsS, p_subL, p_subT, at0, at1, at2, truth_b, lt_zero, lt_succ, ln_cons, ln_nil, p_slc, p_putL, true_and, and_true, decide_eq_true_eq, m_on, q_eqI, q_neI, Option.some.injEq, exists_eq_left', exists_eq_left, if_true, if_false, eq_self, Bool.false_eq_true, Bool.not_eq_true, List.length_map, reduceCtorEq, not_false_eq_true, sat_ite, s_ok, q_eqS, q_neS, q_eqB, q_neB, i_bb, i_tt, i_ll, p_end, p_endN, ne_eq, rng0, Int.toNat_natCast, List.length_range, p_sumN, line]
  refine (hp g _ hg).imp fun d e => ?_
  subst e
  simp only [not_l, x_skip, x_seq, x_asg, x_aug, x_ex, x_ite, x_for, x_ret, x_brk, x_cnt, t_var, t_tup, t_tupL, t_nil, t_cons, t_sub, n_var, n_tup, n_nil, n_cons, c_cons', c_lst, c_neg, c_tup, e_nil, e_cons, e_var, e_lit, e_tup, e_lst, e_neg, e_not, e_bin, e_cmp, e_and, e_or, e_ite, e_sub, e_slc, e_call, e_bi, e_isi, e_app, e_pop, e_comp, e_dcomp, i_sat, g_zero, g_succ, z_zero, z_succ, wipe_nil, wipe_cons, p_add, p_sub, p_mul, p_fdiv, p_mod, p_pow, p_addL, p_addT, p_auga, p_augs, q_lt, q_le, q_gt, q_ge, q_isN, q_isnotN, q_in, q_notin, q_in_ints, p_len, p_lenT, p_lenS, p_list, p_listT, p_int, p_intB, p_abs, p_range, p_range2, p_all, p_any, p_sum, p_gcd, p_append, p_items, p_itemsT, p_itemsS, p_subL, p_subT, at0, at1, at2, truth_b, lt_zero, lt_succ, ln_cons, ln_nil, p_slc, p_putL, true_and, and_true, decide_eq_true_eq, m_on, q_eqI, q_neI, Option.some.injEq, exists_eq_left', exists_eq_left, if_true, if_false, eq_self, Bool.false_eq_true, Bool.not_eq_true, List.length_map, reduceCtorEq, not_false_eq_true, sat_ite, s_ok, q_eqS, q_neS, q_eqB, q_neB, i_bb, i_tt, i_ll, p_end, p_endN, ne_eq, rng0, Int.toNat_natCast, List.length_range, p_sumN, line]
  have ai := allDraws_iff (g := g)
  by_cases h1 : placesK g "ours" = []
  · rw [if_pos h1]
    refine (hp g _ hg).imp fun d e => ?_
    subst e
    by_cases h2 : placesK g "theirs" = []
    · rw [ai.mpr ⟨h1, h2⟩, truth_nl]; simp [h2]
    · have : allDraws g = false := by
        cases e : allDraws g with
        | false => rfl
        | true => exact absurd (ai.mp e).2 h2
      rw [this, truth_nl]; simp [h2]
  · rw [if_neg h1]
    have : allDraws g = false := by
      cases e : allDraws g with
      | false => rfl
      | true => exact absurd (ai.mp e).1 h1
    rw [this]; simp [h1]
/-! marks that occur -/
theorem asc_uniq {a b : List Nat} (ha : a.Pairwise (· < ·)) (hb : b.Pairwise (· < ·)) (h : ∀ x, x ∈ a ↔ x ∈ b) : a = b := by
  have p := nodup_perm (nd_of ha) (nd_of hb) h
  have e := (srt_of p hb).symm.trans (srt_of (.refl a) ha)
  exact (List.map_inj_right fun x y h => by omega).mp e.symm
def marksOf (g : List Pl) : List Nat := (List.range 10).filter fun m => decide (m ∈ g.map Pl.mark)
theorem srt_nat (l : List Nat) : ∃ s : List Nat, s.Perm l ∧ s.Pairwise (· ≤ ·) ∧ srt (l.map fun n : Nat => (n : Int)) = s.map fun n : Nat => (n : Int) := by
  have hp := srt_perm (l.map fun n : Nat => (n : Int))
  have hs := srt_sorted (l.map fun n : Nat => (n : Int))
  generalize srt (l.map fun n : Nat => (n : Int)) = t at hp hs
  have e : t = (t.map Int.toNat).map fun n : Nat => (n : Int) := by
    rw [List.map_map]
    conv => lhs; rw [← List.map_id t]
    refine List.map_congr_left fun x hx => ?_
    obtain ⟨n, _, rfl⟩ := List.mem_map.mp (hp.mem_iff.mp hx)
    simp
  refine ⟨t.map Int.toNat, ?_, ?_, e⟩
  · have := hp.map Int.toNat
    rw [List.map_map] at this
    have e2 : l.map (Int.toNat ∘ fun n : Nat => (n : Int)) = l := by
      conv => rhs; rw [← List.map_id l]
      exact List.map_congr_left fun x _ => by simp
    rwa [e2] at this
  · rw [e, List.pairwise_map] at hs
    exact hs.imp fun h => by omega
theorem sp_marksOf {Φ : Calls} {g : List Pl} (hm : ∀ p ∈ g, p.mark ≤ 9) (hg : g.length ≤ 1000) : (runFn Φ ⟨1, 4, aMarksOf⟩ [.list (g.map encP)]).sat fun d => d = .list ((marksOf g).map nI) := by
  rw [run_eq]
  refine ⟨⟨rfl, by decide⟩, ?_⟩
  show (exec Φ aMarksOf [some (.list (g.map encP)), none, none, none]).sat _ _ _ _
  unfold aMarksOf
  simp only [x_skip, x_seq, x_asg, x_aug, x_ex, x_ite, x_for, x_ret, x_brk, x_cnt, t_var, t_tup, t_tupL, t_nil, t_cons, t_sub, n_var, n_tup, n_nil, n_cons, c_cons', c_lst, c_neg, c_tup, e_nil, e_cons, e_var, e_lit, e_tup, e_lst, e_neg, e_not, e_bin, e_cmp, e_and, e_or, e_ite, e_sub, e_slc, e_call, e_bi, e_isi, e_app, e_pop, e_comp, e_dcomp, i_sat, g_zero, g_succ, z_zero, z_succ, wipe_nil, wipe_cons, p_add, p_sub, p_mul, p_fdiv, p_mod, p_pow, p_addL, p_addT, p_auga, p_augs, q_lt, q_le, q_gt, q_ge, q_isN, q_isnotN, q_in, q_notin, q_in_ints, p_len, p_lenT, p_lenS, p_list, p_listT, p_int, p_intB, p_abs, p_range, p_range2, p_all, p_any, p_sum, p_gcd, p_append, p_items, p_itemsT, p_itemsS, p_subL, p_subT, at0, at1, at2, truth_b, lt_zero, lt_succ, ln_cons, ln_nil, p_slc, p_putL, true_and, and_true, decide_eq_true_eq, m_on, q_eqI, q_neI, Option.some.injEq, exists_eq_left', exists_eq_left, if_true, if_false, eq_self, Bool.false_eq_true, Bool.not_eq_true, List.length_map, reduceCtorEq, not_false_eq_true, sat_ite, s_ok, q_eqS, q_neS, q_eqB, q_neB, i_bb, i_tt, i_ll, p_end, p_endN, ne_eq, rng0, Int.toNat_natCast, List.length_range, p_sumN, line]
  refine ⟨by omega, fm_map (as := g) (ea := encP) (eb := nI) Pl.mark (fun p _ => ?_) ?_⟩
  · simp only [x_skip, x_seq, x_asg, x_aug, x_ex, x_ite, x_for, x_ret, x_brk, x_cnt, t_var, t_tup, t_tupL, t_nil, t_cons, t_sub, n_var, n_tup, n_nil, n_cons, c_cons', c_lst, c_neg, c_tup, e_nil, e_cons, e_var, e_lit, e_tup, e_lst, e_neg, e_not, e_bin, e_cmp, e_and, e_or, e_ite, e_sub, e_slc, e_call, e_bi, e_isi, e_app, e_pop, e_comp, e_dcomp, i_sat, g_zero, g_succ, z_zero, z_succ, wipe_nil, wipe_cons, p_add, p_sub, p_mul, p_fdiv, p_mod, p_pow, p_addL, p_addT, p_auga, p_augs, q_lt, q_le, q_gt, q_ge, q_isN, q_isnotN, q_in, q_notin, q_in_ints, p_len, p_lenT, p_lenS, p_list, p_listT, p_int, p_intB, p_abs, p_range, p_range2, p_all, p_any, p_sum, p_gcd, p_append, p_items, p_itemsT, p_itemsS, p_subL, p_subT, at0, at1, at2, truth_b, lt_zero, lt_succ, ln_cons, ln_nil, p_slc, p_putL, true_and, and_true, decide_eq_true_eq, m_on, q_eqI, q_neI, Option.some.injEq, exists_eq_left', exists_eq_left, if_true, if_false, eq_self, Bool.false_eq_true, Bool.not_eq_true, List.length_map, reduceCtorEq, not_false_eq_true, sat_ite, s_ok, q_eqS, q_neS, q_eqB, q_neB, i_bb, i_tt, i_ll, p_end, p_endN, ne_eq, rng0, Int.toNat_natCast, List.length_range, p_sumN, line, p_mark]
  obtain ⟨s, hsp, hss, hse⟩ := srt_nat (g.map Pl.mark)
  rw [map_nI, p_sorted, hse, ← map_nI]
  have hls := hsp.length_eq
  rw [List.length_map] at hls
  simp only [x_skip, x_seq, x_asg, x_aug, x_ex, x_ite, x_for, x_ret, x_brk, x_cnt, t_var, t_tup, t_tupL, t_nil, t_cons, t_sub, n_var, n_tup, n_nil, n_cons, c_cons', c_lst, c_neg, c_tup, e_nil, e_cons, e_var, e_lit, e_tup, e_lst, e_neg, e_not, e_bin, e_cmp, e_and, e_or, e_ite, e_sub, e_slc, e_call, e_bi, e_isi, e_app, e_pop, e_comp, e_dcomp, i_sat, g_zero, g_succ, z_zero, z_succ, wipe_nil, wipe_cons, p_add, p_sub, p_mul, p_fdiv, p_mod, p_pow, p_addL, p_addT, p_auga, p_augs, q_lt, q_le, q_gt, q_ge, q_isN, q_isnotN, q_in, q_notin, q_in_ints, p_len, p_lenT, p_lenS, p_list, p_listT, p_int, p_intB, p_abs, p_range, p_range2, p_all, p_any, p_sum, p_gcd, p_append, p_items, p_itemsT, p_itemsS, p_subL, p_subT, at0, at1, at2, truth_b, lt_zero, lt_succ, ln_cons, ln_nil, p_slc, p_putL, true_and, and_true, decide_eq_true_eq, m_on, q_eqI, q_neI, Option.some.injEq, exists_eq_left', exists_eq_left, if_true, if_false, eq_self, Bool.false_eq_true, Bool.not_eq_true, List.length_map, reduceCtorEq, not_false_eq_true, sat_ite, s_ok, q_eqS, q_neS, q_eqB, q_neB, i_bb, i_tt, i_ll, p_end, p_endN, ne_eq, rng0, Int.toNat_natCast, List.length_range, p_sumN, line]
  refine loop_map (as := s) (e := nI) (fun i ρ => ∃ (f : List Nat) (x2 : Option D), ρ = [some (.list (g.map encP)), some (.list (f.map nI)), x2, none] ∧ f.Pairwise (· < ·) ∧ (∀ x, x ∈ f ↔ x ∈ s.take i) ∧ f.length ≤ i)
    (fun ρ => ∃ (f : List Nat) (x2 : Option D), ρ = [some (.list (g.map encP)), some (.list (f.map nI)), x2, none] ∧ f = marksOf g) ⟨[], none, rfl, .nil, by simp, Nat.le_refl _⟩ ?_ ?_ ?_
  · rintro i m ρ hi ⟨f, x2, rfl, h1, h2, h3⟩
    have hi2 : i < s.length := (List.getElem?_eq_some_iff.mp hi).1
    have et : s.take (i + 1) = s.take i ++ [m] := by rw [List.take_add_one, hi]; rfl
    have ge : ∀ x ∈ s.take i, x ≤ m := fun x hx => by
      obtain ⟨j, hj, e⟩ := List.getElem_of_mem hx
      rw [List.length_take] at hj
      rw [List.getElem_take] at e
      obtain ⟨q1, q2⟩ := List.getElem?_eq_some_iff.mp hi
      rw [← e, ← q2]
      exact List.pairwise_iff_getElem.mp hss j i (by omega) hi2 (by omega)
    simp only [not_l, x_skip, x_seq, x_asg, x_aug, x_ex, x_ite, x_for, x_ret, x_brk, x_cnt, t_var, t_tup, t_tupL, t_nil, t_cons, t_sub, n_var, n_tup, n_nil, n_cons, c_cons', c_lst, c_neg, c_tup, e_nil, e_cons, e_var, e_lit, e_tup, e_lst, e_neg, e_not, e_bin, e_cmp, e_and, e_or, e_ite, e_sub, e_slc, e_call, e_bi, e_isi, e_app, e_pop, e_comp, e_dcomp, i_sat, g_zero, g_succ, z_zero, z_succ, wipe_nil, wipe_cons, p_add, p_sub, p_mul, p_fdiv, p_mod, p_pow, p_addL, p_addT, p_auga, p_augs, q_lt, q_le, q_gt, q_ge, q_isN, q_isnotN, q_in, q_notin, q_in_ints, p_len, p_lenT, p_lenS, p_list, p_listT, p_int, p_intB, p_abs, p_range, p_range2, p_all, p_any, p_sum, p_gcd, p_append, p_items, p_itemsT, p_itemsS, p_subL, p_subT, at0, at1, at2, truth_b, lt_zero, lt_succ, ln_cons, ln_nil, p_slc, p_putL, true_and, and_true, decide_eq_true_eq, m_on, q_eqI, q_neI, Option.some.injEq, exists_eq_left', exists_eq_left, if_true, if_false, eq_self, Bool.false_eq_true, Bool.not_eq_true, List.length_map, reduceCtorEq, not_false_eq_true, sat_ite, s_ok, q_eqS, q_neS, q_eqB, q_neB, i_bb, i_tt, i_ll, p_end, p_endN, ne_eq, rng0, Int.toNat_natCast, List.length_range, p_sumN, line]
    rcases List.eq_nil_or_concat f with rfl | ⟨r, l, rfl⟩
    · simp
      refine ⟨[m], rfl, by simp, fun x => ?_, by simp⟩
      rw [et, List.mem_append, ← h2]; simp
    · rw [List.concat_eq_append] at *
      have al : atL ((r ++ [l]).map nI) (-1) = some (nI l) := by
        rw [List.map_append]
        have : L2.atI (r.map nI ++ [nI l]) (-1) = some (nI l) := by
          unfold L2.atI L2.ixN
          simp
          rw [if_pos (by omega)]
          have e : (-1 + ((r.length : Int) + 1)).toNat = r.length := by omega
          simp [e]
        exact this
      have lm : l ≤ m := ge l ((h2 l).mp (by simp))
      rw [if_neg (by simp)]
      simp only [al, x_skip, x_seq, x_asg, x_aug, x_ex, x_ite, x_for, x_ret, x_brk, x_cnt, t_var, t_tup, t_tupL, t_nil, t_cons, t_sub, n_var, n_tup, n_nil, n_cons, c_cons', c_lst, c_neg, c_tup, e_nil, e_cons, e_var, e_lit, e_tup, e_lst, e_neg, e_not, e_bin, e_cmp, e_and, e_or, e_ite, e_sub, e_slc, e_call, e_bi, e_isi, e_app, e_pop, e_comp, e_dcomp, i_sat, g_zero, g_succ, z_zero, z_succ, wipe_nil, wipe_cons, p_add, p_sub, p_mul, p_fdiv, p_mod, p_pow, p_addL, p_addT, p_auga, p_augs, q_lt, q_le, q_gt, q_ge, q_isN, q_isnotN, q_in, q_notin, q_in_ints, p_len, p_lenT, p_lenS, p_list, p_listT, p_int, p_intB, p_abs, p_range, p_range2, p_all, p_any, p_sum, p_gcd, p_append, p_items, p_itemsT, p_itemsS, p_subL, p_subT, at0, at1, at2, truth_b, lt_zero, lt_succ, ln_cons, ln_nil, p_slc, p_putL, true_and, and_true, decide_eq_true_eq, m_on, q_eqI, q_neI, Option.some.injEq, exists_eq_left', exists_eq_left, if_true, if_false, eq_self, Bool.false_eq_true, Bool.not_eq_true, List.length_map, reduceCtorEq, not_false_eq_true, sat_ite, s_ok, q_eqS, q_neS, q_eqB, q_neB, i_bb, i_tt, i_ll, p_end, p_endN, ne_eq, rng0, Int.toNat_natCast, List.length_range, p_sumN, line, q_neI']
      by_cases e : l = m
      · subst e
        rw [if_neg (by simp)]
        refine ⟨r ++ [l], _, rfl, h1, fun x => ?_, by omega⟩
        rw [et, List.mem_append (s := s.take i), ← h2]
        simp
      · rw [if_pos (by have : (l : Int) ≠ m := by omega
                       simpa using this)]
        refine ⟨by omega, r ++ [l] ++ [m], _, by rw [app_nI], ?_, fun x => ?_, by rw [List.length_append, List.length_singleton]; omega⟩
        · rw [List.pairwise_append]
          refine ⟨h1, by simp, fun x hx y hy => ?_⟩
          have hy : y = m := by simpa using hy
          subst hy
          rw [List.pairwise_append] at h1
          rcases List.mem_append.mp hx with h | h
          · have := h1.2.2 x h l (by simp); omega
          · have : x = l := by simpa using h
            omega
        · rw [et, List.mem_append (s := s.take i), ← h2, List.mem_append (s := r ++ [l])]
  · rintro ρ ⟨f, x2, rfl, h1, h2, h3⟩
    refine ⟨f, x2, rfl, asc_uniq h1 (List.pairwise_lt_range.filter _) fun x => ?_⟩
    unfold marksOf
    rw [h2, List.take_length, hsp.mem_iff, List.mem_filter, List.mem_range, decide_eq_true_eq]
    refine ⟨fun h => ⟨?_, h⟩, fun h => h.2⟩
    obtain ⟨p, hp, rfl⟩ := List.mem_map.mp h
    have := hm p hp
    omega
  · rintro ρ ⟨f, x2, rfl, rfl⟩
    simp only [x_skip, x_seq, x_asg, x_aug, x_ex, x_ite, x_for, x_ret, x_brk, x_cnt, t_var, t_tup, t_tupL, t_nil, t_cons, t_sub, n_var, n_tup, n_nil, n_cons, c_cons', c_lst, c_neg, c_tup, e_nil, e_cons, e_var, e_lit, e_tup, e_lst, e_neg, e_not, e_bin, e_cmp, e_and, e_or, e_ite, e_sub, e_slc, e_call, e_bi, e_isi, e_app, e_pop, e_comp, e_dcomp, i_sat, g_zero, g_succ, z_zero, z_succ, wipe_nil, wipe_cons, p_add, p_sub, p_mul, p_fdiv, p_mod, p_pow, p_addL, p_addT, p_auga, p_augs, q_lt, q_le, q_gt, q_ge, q_isN, q_isnotN, q_in, q_notin, q_in_ints, p_len, p_lenT, p_lenS, p_list, p_listT, p_int, p_intB, p_abs, p_range, p_range2, p_all, p_any, p_sum, p_gcd, p_append, p_items, p_itemsT, p_itemsS, p_subL, p_subT, at0, at1, at2, truth_b, lt_zero, lt_succ, ln_cons, ln_nil, p_slc, p_putL, true_and, and_true, decide_eq_true_eq, m_on, q_eqI, q_neI, Option.some.injEq, exists_eq_left', exists_eq_left, if_true, if_false, eq_self, Bool.false_eq_true, Bool.not_eq_true, List.length_map, reduceCtorEq, not_false_eq_true, sat_ite, s_ok, q_eqS, q_neS, q_eqB, q_neB, i_bb, i_tt, i_ll, p_end, p_endN, ne_eq, rng0, Int.toNat_natCast, List.length_range, p_sumN, line]
theorem i_in {n : Nat} {B : Bool → Prop} : (isiD [.int] (nI n)).sat B = B true := by with_unfolding_all rfl
theorem sp_isList {Φ : Calls} {l : List Nat} (hl : l.length ≤ 1000) : (runFn Φ ⟨1, 2, aIsList⟩ [.list (l.map nI)]).sat fun d => d = .bool true := by
  rw [run_eq]
  refine ⟨⟨rfl, by decide⟩, ?_⟩
  show (exec Φ aIsList [some (.list (l.map nI)), none]).sat _ _ _ _
  unfold aIsList
  simp only [x_skip, x_seq, x_asg, x_aug, x_ex, x_ite, x_for, x_ret, x_brk, x_cnt, t_var, t_tup, t_tupL, t_nil, t_cons, t_sub, n_var, n_tup, n_nil, n_cons, c_cons', c_lst, c_neg, c_tup, e_nil, e_cons, e_var, e_lit, e_tup, e_lst, e_neg, e_not, e_bin, e_cmp, e_and, e_or, e_ite, e_sub, e_slc, e_call, e_bi, e_isi, e_app, e_pop, e_comp, e_dcomp, i_sat, g_zero, g_succ, z_zero, z_succ, wipe_nil, wipe_cons, p_add, p_sub, p_mul, p_fdiv, p_mod, p_pow, p_addL, p_addT, p_auga, p_augs, q_lt, q_le, q_gt, q_ge, q_isN, q_isnotN, q_in, q_notin, q_in_ints, p_len, p_lenT, p_lenS, p_list, p_listT, p_int, p_intB, p_abs, p_range, p_range2, p_all, p_any, p_sum, p_gcd, p_append, p_items, p_itemsT, p_itemsS, p_subL, p_subT, at0, at1, at2, truth_b, lt_zero, lt_succ, ln_cons, ln_nil, p_slc, p_putL, true_and, and_true, decide_eq_true_eq, m_on, q_eqI, q_neI, Option.some.injEq, exists_eq_left', exists_eq_left, if_true, if_false, eq_self, Bool.false_eq_true, Bool.not_eq_true, List.length_map, reduceCtorEq, not_false_eq_true, sat_ite, s_ok, q_eqS, q_neS, q_eqB, q_neB, i_bb, i_tt, i_ll, p_end, p_endN, ne_eq, rng0, Int.toNat_natCast, List.length_range, p_sumN, line, truth_bb, Bool.not_true]
  refine ⟨by omega, fm_map (as := l) (ea := nI) (eb := D.bool) (fun _ => true) (fun n _ => ?_) ?_⟩
  · simp only [i_in, i_bn, x_skip, x_seq, x_asg, x_aug, x_ex, x_ite, x_for, x_ret, x_brk, x_cnt, t_var, t_tup, t_tupL, t_nil, t_cons, t_sub, n_var, n_tup, n_nil, n_cons, c_cons', c_lst, c_neg, c_tup, e_nil, e_cons, e_var, e_lit, e_tup, e_lst, e_neg, e_not, e_bin, e_cmp, e_and, e_or, e_ite, e_sub, e_slc, e_call, e_bi, e_isi, e_app, e_pop, e_comp, e_dcomp, i_sat, g_zero, g_succ, z_zero, z_succ, wipe_nil, wipe_cons, p_add, p_sub, p_mul, p_fdiv, p_mod, p_pow, p_addL, p_addT, p_auga, p_augs, q_lt, q_le, q_gt, q_ge, q_isN, q_isnotN, q_in, q_notin, q_in_ints, p_len, p_lenT, p_lenS, p_list, p_listT, p_int, p_intB, p_abs, p_range, p_range2, p_all, p_any, p_sum, p_gcd, p_append, p_items, p_itemsT, p_itemsS, p_subL, p_subT, at0, at1, at2, truth_b, lt_zero, lt_succ, ln_cons, ln_nil, p_slc, p_putL, true_and, and_true, decide_eq_true_eq, m_on, q_eqI, q_neI, Option.some.injEq, exists_eq_left', exists_eq_left, if_true, if_false, eq_self, Bool.false_eq_true, Bool.not_eq_true, List.length_map, reduceCtorEq, not_false_eq_true, sat_ite, s_ok, q_eqS, q_neS, q_eqB, q_neB, i_bb, i_tt, i_ll, p_end, p_endN, ne_eq, rng0, Int.toNat_natCast, List.length_range, p_sumN, line]
    simp [truth_bb]
  · simp only [x_skip, x_seq, x_asg, x_aug, x_ex, x_ite, x_for, x_ret, x_brk, x_cnt, t_var, t_tup, t_tupL, t_nil, t_cons, t_sub, n_var, n_tup, n_nil, n_cons, c_cons', c_lst, c_neg, c_tup, e_nil, e_cons, e_var, e_lit, e_tup, e_lst, e_neg, e_not, e_bin, e_cmp, e_and, e_or, e_ite, e_sub, e_slc, e_call, e_bi, e_isi, e_app, e_pop, e_comp, e_dcomp, i_sat, g_zero, g_succ, z_zero, z_succ, wipe_nil, wipe_cons, p_add, p_sub, p_mul, p_fdiv, p_mod, p_pow, p_addL, p_addT, p_auga, p_augs, q_lt, q_le, q_gt, q_ge, q_isN, q_isnotN, q_in, q_notin, q_in_ints, p_len, p_lenT, p_lenS, p_list, p_listT, p_int, p_intB, p_abs, p_range, p_range2, p_all, p_any, p_sum, p_gcd, p_append, p_items, p_itemsT, p_itemsS, p_subL, p_subT, at0, at1, at2, truth_b, lt_zero, lt_succ, ln_cons, ln_nil, p_slc, p_putL, true_and, and_true, decide_eq_true_eq, m_on, q_eqI, q_neI, Option.some.injEq, exists_eq_left', exists_eq_left, if_true, if_false, eq_self, Bool.false_eq_true, Bool.not_eq_true, List.length_map, reduceCtorEq, not_false_eq_true, sat_ite, s_ok, q_eqS, q_neS, q_eqB, q_neB, i_bb, i_tt, i_ll, p_end, p_endN, ne_eq, rng0, Int.toNat_natCast, List.length_range, p_sumN, line]
    simp
/-- for x in xs: x.append(k) -/
theorem x_each {Φ : Calls} {i j : Nat} {k : Int} {ρ : Env} {N B C : Env → Prop} {R : D → Prop} : (exec Φ (.each i j k) ρ).sat N B C R = (getS ρ i).sat fun o => (eachO k i j ρ o).sat N B C R := by
  show ((getS ρ i).out fun o => eachO k i j ρ o).sat N B C R = _
  rw [o_out]
theorem eachD_L {k : Int} : ∀ {L : List (List Nat)}, (∀ l ∈ L, l.length < line) → eachD k (L.map fun l => .list (l.map nI)) = some (L.map fun l => .list (l.map nI ++ [.int k]))
  | [], _ => rfl
  | l :: r, h => by
    rw [List.map_cons, eachD, List.length_map, if_pos (h l List.mem_cons_self), eachD_L fun m hm => h m (List.mem_cons_of_mem _ hm)]
    rfl
theorem o_each {k : Int} {i j : Nat} {ρ : Env} {N B C : Env → Prop} {R : D → Prop} {L : List (List Nat)} (h : ∀ l ∈ L, l.length < line) : (eachO k i j ρ (.list (L.map fun l => .list (l.map nI)))).sat N B C R = N ((ρ.set j none).set i (some (.list (L.map fun l => .list (l.map nI ++ [.int k]))))) := by
  have e : eachO k i j ρ (.list (L.map fun l => .list (l.map nI))) = (match eachD k (L.map fun l => .list (l.map nI)) with | some es => Out.next ((ρ.set j none).set i (some (.list es))) | none => .stk) := rfl
  rw [e, eachD_L h, o_next]
theorem eqd_self {d : D} {B : Bool → Prop} (h : shpB 9 d = true) : (cmpD .eq d d).sat B = B true := by
  rw [q_eq]
  have hs : shq d d = true := by
    unfold shq
    split
    · rfl
    · show (shp _ && shp _) = true
      rw [show shp d = true from h]; rfl
  simp only [hs, eqD_refl 9 _ h, true_and]
theorem ned_self {d : D} {B : Bool → Prop} (h : shpB 9 d = true) : (cmpD .ne d d).sat B = B false := by
  rw [q_ne]
  have hs : shq d d = true := by
    unfold shq
    split
    · rfl
    · show (shp _ && shp _) = true
      rw [show shp d = true from h]; rfl
  simp only [hs, eqD_refl 9 _ h, true_and, Bool.not_true]
theorem shp_nI (n : Nat) (l : List Nat) : shpB (n + 1) (.list (l.map nI)) = true := by
  simp only [shpB, List.all_map, List.all_eq_true, Function.comp]
  exact fun _ _ => trivial
end Rf
end

section
namespace Gk02
open PySem PySem.Spec PyProof.Rows L2 Rf
def gl : List (Str × GV) := [(Str.ofString "targets", GV.fn 0 2), (Str.ofString "places_of", GV.fn 1 2), (Str.ofString "marks_of", GV.fn 2 1), (Str.ofString "is_chain", GV.fn 3 1), (Str.ofString "reached", GV.fn 4 2), (Str.ofString "_law_draws", GV.fn 5 2), (Str.ofString "_law_gcd", GV.fn 6 2), (Str.ofString "_law_number", GV.fn 7 2), (Str.ofString "_law_place", GV.fn 8 3), (Str.ofString "_law_game", GV.fn 9 3), (Str.ofString "_law_targets", GV.fn 10 1), (Str.ofString "_law_reached", GV.fn 11 2), (Str.ofString "_law_is_list", GV.fn 12 1)]
def bl : List Str := [Str.ofString "list", Str.ofString "enumerate", Str.ofString "sorted", Str.ofString "range", Str.ofString "len", Str.ofString "int", Str.ofString "abs", Str.ofString "sum", Str.ofString "all", Str.ofString "isinstance", Str.ofString "bool", Str.ofString "repr"]
def ret : Nat → Ow
  | 0 => .lst .fz
  | 4 => .lst .fz
  | _ => .fz
def N0 : List Str := [Str.ofString "game", Str.ofString "place", Str.ofString "mark", Str.ofString "kind", Str.ofString "branches", Str.ofString "chance", Str.ofString "target"]
def N1 : List Str := [Str.ofString "game", Str.ofString "kind", Str.ofString "place", Str.ofString "here"]
def N2 : List Str := [Str.ofString "game", Str.ofString "found", Str.ofString "mark", Str.ofString "here"]
def N3 : List Str := [Str.ofString "game"]
def N4 : List Str := [Str.ofString "game", Str.ofString "place", Str.ofString "seen", Str.ofString "waiting", Str.ofString "target"]
def N5 : List Str := [Str.ofString "_law_script", Str.ofString "_law_count", Str.ofString "_law_rests", Str.ofString "_law_draws_here", Str.ofString "_law_k", Str.ofString "_law_value", Str.ofString "_law_at", Str.ofString "_law_mixed", Str.ofString "_law_cell"]
def N6 : List Str := [Str.ofString "_law_a", Str.ofString "_law_b", Str.ofString "_law_step", Str.ofString "_law_rest"]
def N7 : List Str := [Str.ofString "_law_n", Str.ofString "_law_d", Str.ofString "_law_common"]
def N8 : List Str := [Str.ofString "_law_draws_here", Str.ofString "_law_many", Str.ofString "_law_top", Str.ofString "_law_kind", Str.ofString "_law_mark", Str.ofString "_law_size", Str.ofString "_law_places", Str.ofString "_law_weights", Str.ofString "_law_k"]
def N9 : List Str := [Str.ofString "_law_draws_here", Str.ofString "_law_most", Str.ofString "_law_top", Str.ofString "_law_many", Str.ofString "_law_k"]
def N10 : List Str := [Str.ofString "_law_place_here", Str.ofString "_law_chance", Str.ofString "_law_target"]
def N11 : List Str := [Str.ofString "_law_game_here", Str.ofString "_law_place_here", Str.ofString "_law_found", Str.ofString "_law_turn", Str.ofString "_law_other", Str.ofString "_law_target"]
def N12 : List Str := [Str.ofString "_law_actual", Str.ofString "_law_one"]
def N13 : List Str := [Str.ofString "_law_script", Str.ofString "_law_draws_here", Str.ofString "_law_game_here", Str.ofString "_law_kept", Str.ofString "_law_place_here", Str.ofString "_law_due", Str.ofString "_law_actual", Str.ofString "_law_one", Str.ofString "_law_kind", Str.ofString "_law_marks", Str.ofString "_law_chain", Str.ofString "_law_mark", Str.ofString "_law_k"]

def b0 : S := (.seq (.asg (.tup (.cons (.var 2) (.cons (.var 3) (.cons (.var 4) .nil)))) (.sub (.var 0) (.var 1))) (.seq (.ite (.cmp .eq (.var 3) (.lit (.str (Str.ofString "draw")))) (.seq (.ret (.comp [5, 6] (.tup (.cons (.var 5) (.cons (.var 6) .nil))) (.var 4) (.lit (.bool true)) (.var 6))) .skip) .skip) (.seq (.ret (.bi .list (.cons (.var 4) .nil))) .skip)))
def b1 : S := (.seq (.ret (.comp [2, 3] (.tup (.cons (.var 2) (.cons (.var 3) .nil))) (.bi .enumerate (.cons (.var 0) .nil)) (.cmp .eq (.sub (.var 3) (.lit (.int (1)))) (.var 1)) (.var 2))) .skip)
def b2 : S := (.seq (.asg (.var 1) (.lst .nil)) (.seq (.for_ (.var 2) (.bi .sorted (.cons (.comp [3] (.var 3) (.var 0) (.lit (.bool true)) (.sub (.var 3) (.lit (.int (0))))) .nil)) (.seq (.ite (.or (.not (.var 1)) (.cmp .ne (.sub (.var 1) (.neg (.lit (.int (1))))) (.var 2))) (.seq (.ex (.mt .append (.var 1) (.cons (.var 2) .nil))) .skip) .skip) .skip)) (.seq (.ret (.var 1)) .skip)))
def b3 : S := (.seq (.ret (.and (.not (.call 1 (.cons (.var 0) (.cons (.lit (.str (Str.ofString "ours"))) .nil)))) (.not (.call 1 (.cons (.var 0) (.cons (.lit (.str (Str.ofString "theirs"))) .nil)))))) .skip)
def b4 : S := (.seq (.asg (.var 2) (.lst (.cons (.var 1) .nil))) (.seq (.asg (.var 3) (.lst (.cons (.var 1) .nil))) (.seq (.wh (.var 3) (.seq (.for_ (.var 4) (.call 0 (.cons (.var 0) (.cons (.mt .pop (.var 3) .nil) .nil))) (.seq (.ite (.cmp .notin (.var 4) (.var 2)) (.seq (.ex (.mt .append (.var 2) (.cons (.var 4) .nil))) (.seq (.ex (.mt .append (.var 3) (.cons (.var 4) .nil))) .skip)) .skip) .skip)) .skip)) (.seq (.ret (.bi .sorted (.cons (.var 2) .nil))) .skip))))
def b5 : S := (.seq (.asg (.var 2) (.comp [8] (.var 8) (.var 0) (.lit (.bool true)) (.var 8))) (.seq (.asg (.var 3) (.lst .nil)) (.seq (.for_ (.var 4) (.bi .range (.cons (.var 1) .nil)) (.seq (.asg (.var 5) (.lit (.int (0)))) (.seq (.ite (.cmp .gt (.bi .len (.cons (.var 2) .nil)) (.lit (.int (0)))) (.seq (.asg (.var 6) (.bin .mod (.bi .int (.cons (.var 4) .nil)) (.bi .len (.cons (.var 2) .nil)))) (.seq (.ite (.cmp .ge (.sub (.var 2) (.var 6)) (.bin .pow (.lit (.int (10))) (.lit (.int (18))))) (.seq (.asg (.var 5) (.bin .mod (.bi .int (.cons (.sub (.var 2) (.var 6)) .nil)) (.lit (.int (1000))))) (.seq (.asg (.sub (.var 2) (.var 6)) (.bin .fdiv (.sub (.var 2) (.var 6)) (.lit (.int (1000))))) .skip)) (.seq (.asg (.var 7) (.bin .mod (.bi .int (.cons (.bin .add (.bin .add (.bin .mul (.sub (.var 2) (.var 6)) (.lit (.int (48271)))) (.bin .mul (.var 4) (.lit (.int (69621))))) (.lit (.int (11)))) .nil)) (.lit (.int (2147483647))))) (.seq (.asg (.var 7) (.bin .mod (.bi .int (.cons (.bin .add (.bin .mul (.var 7) (.lit (.int (16807)))) (.var 6)) .nil)) (.lit (.int (2147483629))))) (.seq (.asg (.var 5) (.bin .mod (.bi .int (.cons (.bin .fdiv (.var 7) (.lit (.int (7)))) .nil)) (.lit (.int (1000))))) .skip)))) .skip)) .skip) (.seq (.ex (.mt .append (.var 3) (.cons (.var 5) .nil))) .skip)))) (.seq (.ret (.var 3)) .skip))))
def b6 : S := (.seq (.asg (.var 0) (.bi .abs (.cons (.var 0) .nil))) (.seq (.asg (.var 1) (.bi .abs (.cons (.var 1) .nil))) (.seq (.for_ (.var 2) (.bi .range (.cons (.lit (.int (4000))) .nil)) (.seq (.ite (.cmp .eq (.var 1) (.lit (.int (0)))) (.seq .brk .skip) .skip) (.seq (.asg (.var 3) (.bin .mod (.bi .int (.cons (.var 0) .nil)) (.var 1))) (.seq (.asg (.var 0) (.var 1)) (.seq (.asg (.var 1) (.var 3)) .skip))))) (.seq (.ret (.var 0)) .skip))))
def b7 : S := (.seq (.ite (.cmp .lt (.var 1) (.lit (.int (0)))) (.seq (.asg (.var 0) (.neg (.var 0))) (.seq (.asg (.var 1) (.neg (.var 1))) .skip)) .skip) (.seq (.asg (.var 2) (.call 6 (.cons (.var 0) (.cons (.var 1) .nil)))) (.seq (.ret (.tup (.cons (.bin .fdiv (.var 0) (.var 2)) (.cons (.bin .fdiv (.var 1) (.var 2)) .nil)))) .skip)))
def b8 : S := (.seq (.asg (.var 3) (.bin .mod (.bi .int (.cons (.sub (.var 0) (.lit (.int (0)))) .nil)) (.lit (.int (7))))) (.seq (.asg (.var 4) (.bin .mod (.bi .int (.cons (.sub (.var 0) (.lit (.int (1)))) .nil)) (.bin .add (.var 2) (.lit (.int (1)))))) (.seq (.asg (.var 5) (.sub (.lst (.cons (.lit (.int (1))) (.cons (.lit (.int (2))) (.cons (.lit (.int (3))) (.cons (.lit (.int (1))) (.cons (.lit (.int (2))) (.cons (.lit (.int (3))) (.cons (.lit (.int (4))) (.cons (.lit (.int (5))) (.cons (.lit (.int (6))) .nil)))))))))) (.bin .mod (.bi .int (.cons (.sub (.var 0) (.lit (.int (2)))) .nil)) (.lit (.int (9)))))) (.seq (.asg (.var 6) (.comp [8] (.var 8) (.bi .range (.cons (.var 5) .nil)) (.lit (.bool true)) (.bin .mod (.bi .int (.cons (.sub (.var 0) (.bin .add (.lit (.int (3))) (.var 8))) .nil)) (.var 1)))) (.seq (.ite (.cmp .lt (.var 3) (.lit (.int (3)))) (.seq (.asg (.var 7) (.comp [8] (.var 8) (.bi .range (.cons (.var 5) .nil)) (.lit (.bool true)) (.bin .add (.lit (.int (1))) (.bin .mod (.bi .int (.cons (.sub (.var 0) (.bin .add (.lit (.int (9))) (.var 8))) .nil)) (.lit (.int (5))))))) (.seq (.ret (.tup (.cons (.var 4) (.cons (.lit (.str (Str.ofString "draw"))) (.cons (.comp [8] (.var 8) (.bi .range (.cons (.var 5) .nil)) (.lit (.bool true)) (.tup (.cons (.call 7 (.cons (.sub (.var 7) (.var 8)) (.cons (.bi .sum (.cons (.var 7) .nil)) .nil))) (.cons (.sub (.var 6) (.var 8)) .nil)))) .nil))))) .skip)) .skip) (.seq (.ret (.tup (.cons (.var 4) (.cons (.sub (.lst (.cons (.lit (.str (Str.ofString "ours"))) (.cons (.lit (.str (Str.ofString "theirs"))) .nil))) (.bin .mod (.var 3) (.lit (.int (2))))) (.cons (.var 6) .nil))))) .skip))))))
def b9 : S := (.seq (.asg (.var 3) (.bin .add (.lit (.int (1))) (.bin .mod (.bi .int (.cons (.sub (.var 0) (.lit (.int (0)))) .nil)) (.var 1)))) (.seq (.ret (.comp [4] (.var 4) (.bi .range (.cons (.var 3) .nil)) (.lit (.bool true)) (.call 8 (.cons (.slc (.var 0) (.bin .add (.lit (.int (1))) (.bin .mul (.lit (.int (15))) (.var 4))) (.bin .add (.lit (.int (16))) (.bin .mul (.lit (.int (15))) (.var 4)))) (.cons (.var 3) (.cons (.var 2) .nil)))))) .skip))
def b10 : S := (.seq (.ite (.cmp .eq (.sub (.var 0) (.lit (.int (1)))) (.lit (.str (Str.ofString "draw")))) (.seq (.ret (.comp [1, 2] (.tup (.cons (.var 1) (.cons (.var 2) .nil))) (.sub (.var 0) (.lit (.int (2)))) (.lit (.bool true)) (.var 2))) .skip) .skip) (.seq (.ret (.bi .list (.cons (.sub (.var 0) (.lit (.int (2)))) .nil))) .skip))
def b11 : S := (.seq (.asg (.var 2) (.lst (.cons (.var 1) .nil))) (.seq (.for_ (.var 3) (.bi .range (.cons (.bi .len (.cons (.var 0) .nil)) .nil)) (.seq (.for_ (.var 4) (.bi .list (.cons (.var 2) .nil)) (.seq (.for_ (.var 5) (.call 10 (.cons (.sub (.var 0) (.var 4)) .nil)) (.seq (.ite (.cmp .notin (.var 5) (.var 2)) (.seq (.ex (.mt .append (.var 2) (.cons (.var 5) .nil))) .skip) .skip) .skip)) .skip)) .skip)) (.seq (.ret (.bi .sorted (.cons (.var 2) .nil))) .skip)))
def b12 : S := (.seq (.ite (.not (.isi (.var 0) [.list])) (.seq (.ret (.lit (.bool false))) .skip) .skip) (.seq (.ret (.bi .all (.cons (.comp [1] (.var 1) (.var 0) (.lit (.bool true)) (.and (.isi (.var 1) [.int]) (.not (.isi (.var 1) [.bool])))) .nil))) .skip))
def b13 : S := (.seq (.asg (.var 1) (.call 5 (.cons (.var 0) (.cons (.lit (.int (370))) .nil)))) (.seq (.asg (.var 2) (.call 9 (.cons (.var 1) (.cons (.sub (.lst (.cons (.lit (.int (8))) (.cons (.lit (.int (8))) (.cons (.lit (.int (8))) (.cons (.lit (.int (8))) (.cons (.lit (.int (8))) (.cons (.lit (.int (8))) (.cons (.lit (.int (8))) (.cons (.lit (.int (8))) (.cons (.lit (.int (8))) (.cons (.lit (.int (8))) (.cons (.lit (.int (8))) (.cons (.lit (.int (24))) .nil))))))))))))) (.bin .mod (.bi .int (.cons (.sub (.var 1) (.lit (.int (365)))) .nil)) (.lit (.int (12))))) (.cons (.lit (.int (9))) .nil))))) (.seq (.asg (.var 3) (.bi .repr (.cons (.var 2) .nil))) (.seq (.for_ (.var 4) (.bi .range (.cons (.bi .len (.cons (.var 2) .nil)) .nil)) (.seq (.asg (.var 5) (.lst (.cons (.call 10 (.cons (.sub (.var 2) (.var 4)) .nil)) (.cons (.call 11 (.cons (.var 2) (.cons (.var 4) .nil))) .nil)))) (.seq (.asg (.var 6) (.lst (.cons (.call 0 (.cons (.var 2) (.cons (.var 4) .nil))) (.cons (.call 4 (.cons (.var 2) (.cons (.var 4) .nil))) .nil)))) (.seq (.ite (.or (.not (.bi .all (.cons (.comp [7] (.var 7) (.var 6) (.lit (.bool true)) (.call 12 (.cons (.var 7) .nil))) .nil))) (.cmp .ne (.var 6) (.var 5))) (.seq (.ret (.lit (.bool false))) .skip) .skip) (.seq (.each 6 7 (99)) (.seq (.ite (.or (.cmp .ne (.lst (.cons (.call 0 (.cons (.var 2) (.cons (.var 4) .nil))) (.cons (.call 4 (.cons (.var 2) (.cons (.var 4) .nil))) .nil))) (.var 5)) (.cmp .ne (.bi .repr (.cons (.var 2) .nil)) (.var 3))) (.seq (.ret (.lit (.bool false))) .skip) .skip) .skip)))))) (.seq (.for_ (.var 8) (.lst (.cons (.lit (.str (Str.ofString "draw"))) (.cons (.lit (.str (Str.ofString "ours"))) (.cons (.lit (.str (Str.ofString "theirs"))) .nil)))) (.seq (.asg (.var 6) (.call 1 (.cons (.var 2) (.cons (.var 8) .nil)))) (.seq (.ite (.or (.not (.call 12 (.cons (.var 6) .nil))) (.cmp .ne (.var 6) (.comp [12] (.var 12) (.bi .range (.cons (.bi .len (.cons (.var 2) .nil)) .nil)) (.cmp .eq (.sub (.sub (.var 2) (.var 12)) (.lit (.int (1)))) (.var 8)) (.var 12)))) (.seq (.ret (.lit (.bool false))) .skip) .skip) .skip))) (.seq (.asg (.var 9) (.comp [4] (.var 4) (.var 2) (.lit (.bool true)) (.sub (.var 4) (.lit (.int (0)))))) (.seq (.asg (.var 6) (.call 2 (.cons (.var 2) .nil))) (.seq (.ite (.or (.not (.call 12 (.cons (.var 6) .nil))) (.cmp .ne (.var 6) (.comp [11] (.var 11) (.bi .range (.cons (.lit (.int (10))) .nil)) (.cmp .isin (.var 11) (.var 9)) (.var 11)))) (.seq (.ret (.lit (.bool false))) .skip) .skip) (.seq (.asg (.var 10) (.call 3 (.cons (.var 2) .nil))) (.seq (.asg (.var 5) (.bi .all (.cons (.comp [4] (.var 4) (.var 2) (.lit (.bool true)) (.cmp .eq (.sub (.var 4) (.lit (.int (1)))) (.lit (.str (Str.ofString "draw"))))) .nil))) (.seq (.ret (.and (.isi (.var 10) [.bool]) (.and (.cmp .eq (.var 10) (.var 5)) (.cmp .eq (.bi .repr (.cons (.var 2) .nil)) (.var 3))))) .skip)))))))))))
def fns : List Fn := [⟨2, 7, b0⟩, ⟨2, 4, b1⟩, ⟨1, 4, b2⟩, ⟨1, 1, b3⟩, ⟨2, 5, b4⟩, ⟨2, 9, b5⟩, ⟨2, 4, b6⟩, ⟨2, 3, b7⟩, ⟨3, 9, b8⟩, ⟨3, 5, b9⟩, ⟨1, 3, b10⟩, ⟨2, 6, b11⟩, ⟨1, 2, b12⟩]
end Gk02
end

section
namespace Gk02
open PySem
def top (i : Nat) : Stmt := PySem.Challenge.pw_oddcrown_k02_targets_and_marks.main.body.getD i (.Pass ⟨0, 0, 0, 0⟩)
end Gk02
namespace Gk02
open PySem PySem.Spec PyProof.Rows L2 Rf
theorem d0 : DefOk ⟨N0, gl, none, false, bl⟩ ret 0 (top 1) N0 [Str.ofString "game", Str.ofString "place"] b0 := defOk_mk ⟨rfl, rfl, rfl, by decide +kernel, rfl, by decide +kernel, by decide +kernel⟩ rfl rfl (by kernel_rfl) (by decide +kernel) (by decide)
theorem d1 : DefOk ⟨N1, gl, none, false, bl⟩ ret 1 (top 2) N1 [Str.ofString "game", Str.ofString "kind"] b1 := defOk_mk ⟨rfl, rfl, rfl, by decide +kernel, rfl, by decide +kernel, by decide +kernel⟩ rfl rfl (by kernel_rfl) (by decide +kernel) (by decide)
theorem d2 : DefOk ⟨N2, gl, none, false, bl⟩ ret 2 (top 3) N2 [Str.ofString "game"] b2 := defOk_mk ⟨rfl, rfl, rfl, by decide +kernel, rfl, by decide +kernel, by decide +kernel⟩ rfl rfl (by kernel_rfl) (by decide +kernel) (by decide)
theorem d3 : DefOk ⟨N3, gl, none, false, bl⟩ ret 3 (top 4) N3 [Str.ofString "game"] b3 := defOk_mk ⟨rfl, rfl, rfl, by decide +kernel, rfl, by decide +kernel, by decide +kernel⟩ rfl rfl (by kernel_rfl) (by decide +kernel) (by decide)
theorem d4 : DefOk ⟨N4, gl, none, false, bl⟩ ret 4 (top 5) N4 [Str.ofString "game", Str.ofString "place"] b4 := defOk_mk ⟨rfl, rfl, rfl, by decide +kernel, rfl, by decide +kernel, by decide +kernel⟩ rfl rfl (by kernel_rfl) (by decide +kernel) (by decide)
theorem d5 : DefOk ⟨N5, gl, none, false, bl⟩ ret 5 (top 7) N5 [Str.ofString "_law_script", Str.ofString "_law_count"] b5 := defOk_mk ⟨rfl, rfl, rfl, by decide +kernel, rfl, by decide +kernel, by decide +kernel⟩ rfl rfl (by kernel_rfl) (by decide +kernel) (by decide)
theorem d6 : DefOk ⟨N6, gl, none, false, bl⟩ ret 6 (top 9) N6 [Str.ofString "_law_a", Str.ofString "_law_b"] b6 := defOk_mk ⟨rfl, rfl, rfl, by decide +kernel, rfl, by decide +kernel, by decide +kernel⟩ rfl rfl (by kernel_rfl) (by decide +kernel) (by decide)
theorem d7 : DefOk ⟨N7, gl, none, false, bl⟩ ret 7 (top 10) N7 [Str.ofString "_law_n", Str.ofString "_law_d"] b7 := defOk_mk ⟨rfl, rfl, rfl, by decide +kernel, rfl, by decide +kernel, by decide +kernel⟩ rfl rfl (by kernel_rfl) (by decide +kernel) (by decide)
theorem d8 : DefOk ⟨N8, gl, none, false, bl⟩ ret 8 (top 17) N8 [Str.ofString "_law_draws_here", Str.ofString "_law_many", Str.ofString "_law_top"] b8 := defOk_mk ⟨rfl, rfl, rfl, by decide +kernel, rfl, by decide +kernel, by decide +kernel⟩ rfl rfl (by kernel_rfl) (by decide +kernel) (by decide)
theorem d9 : DefOk ⟨N9, gl, none, false, bl⟩ ret 9 (top 18) N9 [Str.ofString "_law_draws_here", Str.ofString "_law_most", Str.ofString "_law_top"] b9 := defOk_mk ⟨rfl, rfl, rfl, by decide +kernel, rfl, by decide +kernel, by decide +kernel⟩ rfl rfl (by kernel_rfl) (by decide +kernel) (by decide)
theorem d10 : DefOk ⟨N10, gl, none, false, bl⟩ ret 10 (top 19) N10 [Str.ofString "_law_place_here"] b10 := defOk_mk ⟨rfl, rfl, rfl, by decide +kernel, rfl, by decide +kernel, by decide +kernel⟩ rfl rfl (by kernel_rfl) (by decide +kernel) (by decide)
theorem d11 : DefOk ⟨N11, gl, none, false, bl⟩ ret 11 (top 21) N11 [Str.ofString "_law_game_here", Str.ofString "_law_place_here"] b11 := defOk_mk ⟨rfl, rfl, rfl, by decide +kernel, rfl, by decide +kernel, by decide +kernel⟩ rfl rfl (by kernel_rfl) (by decide +kernel) (by decide)
theorem d12 : DefOk ⟨N12, gl, none, false, bl⟩ ret 12 (top 22) N12 [Str.ofString "_law_actual"] b12 := defOk_mk ⟨rfl, rfl, rfl, by decide +kernel, rfl, by decide +kernel, by decide +kernel⟩ rfl rfl (by kernel_rfl) (by decide +kernel) (by decide)
theorem d13 : DefOk ⟨N13, gl, none, true, bl⟩ ret 13 (top 23) N13 [Str.ofString "_law_script"] b13 := defOk_mk ⟨rfl, rfl, rfl, by decide +kernel, rfl, by decide +kernel, by decide +kernel⟩ rfl rfl (by kernel_rfl) (by decide +kernel) (by decide)
theorem all_mk {l : PySem.W.OpenLaw} {w : World} {K : PySem.W.Frag} {h : Heap} {mg : Str → Option Value} {fa f0 f1 f2 f3 f4 f5 f6 f7 f8 f9 f10 f11 f12 f13 : Addr} (X : K.In h) (G : h.Ns mainGlobals mg) (hfa : mg "law" = some (.ref fa))
    {od0 an0 od1 an1 od2 an2 od3 an3 od4 an4 od5 an5 od6 an6 od7 an7 od8 an8 od9 an9 od10 an10 od11 an11 od12 an12 od13 an13 : Option Addr} {sl0 sl1 sl2 sl3 sl4 sl5 sl6 sl7 sl8 sl9 sl10 sl11 sl12 sl13 : Array (Option Value)} {oc0 kV0 dc0 pm0 cd0 ct0 oc1 kV1 dc1 pm1 cd1 ct1 oc2 kV2 dc2 pm2 cd2 ct2 oc3 kV3 dc3 pm3 cd3 ct3 oc4 kV4 dc4 pm4 cd4 ct4 oc5 kV5 dc5 pm5 cd5 ct5 oc6 kV6 dc6 pm6 cd6 ct6 oc7 kV7 dc7 pm7 cd7 ct7 oc8 kV8 dc8 pm8 cd8 ct8 oc9 kV9 dc9 pm9 cd9 ct9 oc10 kV10 dc10 pm10 cd10 ct10 oc11 kV11 dc11 pm11 cd11 ct11 oc12 kV12 dc12 pm12 cd12 ct12 oc13 kV13 dc13 pm13 cd13 ct13 : Value}
    (a0 : PySem.W.nsIn K mainGlobals "targets" = some (some (.ref f0))) (l0 : K.lookup f0 = some ⟨oc0, od0, .func (PySem.W.fnOf "targets" "targets" (defArgs (top 1)) (defBody (top 1)) (defScope (top 1)) .none kV0 dc0 pm0 an0 cd0 ct0), sl0⟩) (c0 : PySem.W.codeIn K cd0 "targets" = true) (k0 : PySem.W.keepIn K (.ref f0) = true)
    (a1 : PySem.W.nsIn K mainGlobals "places_of" = some (some (.ref f1))) (l1 : K.lookup f1 = some ⟨oc1, od1, .func (PySem.W.fnOf "places_of" "places_of" (defArgs (top 2)) (defBody (top 2)) (defScope (top 2)) .none kV1 dc1 pm1 an1 cd1 ct1), sl1⟩) (c1 : PySem.W.codeIn K cd1 "places_of" = true) (k1 : PySem.W.keepIn K (.ref f1) = true)
    (a2 : PySem.W.nsIn K mainGlobals "marks_of" = some (some (.ref f2))) (l2 : K.lookup f2 = some ⟨oc2, od2, .func (PySem.W.fnOf "marks_of" "marks_of" (defArgs (top 3)) (defBody (top 3)) (defScope (top 3)) .none kV2 dc2 pm2 an2 cd2 ct2), sl2⟩) (c2 : PySem.W.codeIn K cd2 "marks_of" = true) (k2 : PySem.W.keepIn K (.ref f2) = true)
    (a3 : PySem.W.nsIn K mainGlobals "is_chain" = some (some (.ref f3))) (l3 : K.lookup f3 = some ⟨oc3, od3, .func (PySem.W.fnOf "is_chain" "is_chain" (defArgs (top 4)) (defBody (top 4)) (defScope (top 4)) .none kV3 dc3 pm3 an3 cd3 ct3), sl3⟩) (c3 : PySem.W.codeIn K cd3 "is_chain" = true) (k3 : PySem.W.keepIn K (.ref f3) = true)
    (a4 : PySem.W.nsIn K mainGlobals "reached" = some (some (.ref f4))) (l4 : K.lookup f4 = some ⟨oc4, od4, .func (PySem.W.fnOf "reached" "reached" (defArgs (top 5)) (defBody (top 5)) (defScope (top 5)) .none kV4 dc4 pm4 an4 cd4 ct4), sl4⟩) (c4 : PySem.W.codeIn K cd4 "reached" = true) (k4 : PySem.W.keepIn K (.ref f4) = true)
    (a5 : PySem.W.nsIn K mainGlobals "_law_draws" = some (some (.ref f5))) (l5 : K.lookup f5 = some ⟨oc5, od5, .func (PySem.W.fnOf "_law_draws" "_law_draws" (defArgs (top 7)) (defBody (top 7)) (defScope (top 7)) .none kV5 dc5 pm5 an5 cd5 ct5), sl5⟩) (c5 : PySem.W.codeIn K cd5 "_law_draws" = true) (k5 : PySem.W.keepIn K (.ref f5) = true)
    (a6 : PySem.W.nsIn K mainGlobals "_law_gcd" = some (some (.ref f6))) (l6 : K.lookup f6 = some ⟨oc6, od6, .func (PySem.W.fnOf "_law_gcd" "_law_gcd" (defArgs (top 9)) (defBody (top 9)) (defScope (top 9)) .none kV6 dc6 pm6 an6 cd6 ct6), sl6⟩) (c6 : PySem.W.codeIn K cd6 "_law_gcd" = true) (k6 : PySem.W.keepIn K (.ref f6) = true)
    (a7 : PySem.W.nsIn K mainGlobals "_law_number" = some (some (.ref f7))) (l7 : K.lookup f7 = some ⟨oc7, od7, .func (PySem.W.fnOf "_law_number" "_law_number" (defArgs (top 10)) (defBody (top 10)) (defScope (top 10)) .none kV7 dc7 pm7 an7 cd7 ct7), sl7⟩) (c7 : PySem.W.codeIn K cd7 "_law_number" = true) (k7 : PySem.W.keepIn K (.ref f7) = true)
    (a8 : PySem.W.nsIn K mainGlobals "_law_place" = some (some (.ref f8))) (l8 : K.lookup f8 = some ⟨oc8, od8, .func (PySem.W.fnOf "_law_place" "_law_place" (defArgs (top 17)) (defBody (top 17)) (defScope (top 17)) .none kV8 dc8 pm8 an8 cd8 ct8), sl8⟩) (c8 : PySem.W.codeIn K cd8 "_law_place" = true) (k8 : PySem.W.keepIn K (.ref f8) = true)
    (a9 : PySem.W.nsIn K mainGlobals "_law_game" = some (some (.ref f9))) (l9 : K.lookup f9 = some ⟨oc9, od9, .func (PySem.W.fnOf "_law_game" "_law_game" (defArgs (top 18)) (defBody (top 18)) (defScope (top 18)) .none kV9 dc9 pm9 an9 cd9 ct9), sl9⟩) (c9 : PySem.W.codeIn K cd9 "_law_game" = true) (k9 : PySem.W.keepIn K (.ref f9) = true)
    (a10 : PySem.W.nsIn K mainGlobals "_law_targets" = some (some (.ref f10))) (l10 : K.lookup f10 = some ⟨oc10, od10, .func (PySem.W.fnOf "_law_targets" "_law_targets" (defArgs (top 19)) (defBody (top 19)) (defScope (top 19)) .none kV10 dc10 pm10 an10 cd10 ct10), sl10⟩) (c10 : PySem.W.codeIn K cd10 "_law_targets" = true) (k10 : PySem.W.keepIn K (.ref f10) = true)
    (a11 : PySem.W.nsIn K mainGlobals "_law_reached" = some (some (.ref f11))) (l11 : K.lookup f11 = some ⟨oc11, od11, .func (PySem.W.fnOf "_law_reached" "_law_reached" (defArgs (top 21)) (defBody (top 21)) (defScope (top 21)) .none kV11 dc11 pm11 an11 cd11 ct11), sl11⟩) (c11 : PySem.W.codeIn K cd11 "_law_reached" = true) (k11 : PySem.W.keepIn K (.ref f11) = true)
    (a12 : PySem.W.nsIn K mainGlobals "_law_is_list" = some (some (.ref f12))) (l12 : K.lookup f12 = some ⟨oc12, od12, .func (PySem.W.fnOf "_law_is_list" "_law_is_list" (defArgs (top 22)) (defBody (top 22)) (defScope (top 22)) .none kV12 dc12 pm12 an12 cd12 ct12), sl12⟩) (c12 : PySem.W.codeIn K cd12 "_law_is_list" = true) (k12 : PySem.W.keepIn K (.ref f12) = true)
    (a13 : PySem.W.nsIn K mainGlobals "law" = some (some (.ref f13))) (l13 : K.lookup f13 = some ⟨oc13, od13, .func (PySem.W.fnOf "law" "law" (defArgs (top 23)) (defBody (top 23)) (defScope (top 23)) .none kV13 dc13 pm13 an13 cd13 ct13), sl13⟩) (c13 : PySem.W.codeIn K cd13 "law" = true) (k13 : PySem.W.keepIn K (.ref f13) = true)
    (z0 : PySem.W.nsIn K mainGlobals "list" = some none)
    (z1 : PySem.W.nsIn K mainGlobals "enumerate" = some none)
    (z2 : PySem.W.nsIn K mainGlobals "sorted" = some none)
    (z3 : PySem.W.nsIn K mainGlobals "range" = some none)
    (z4 : PySem.W.nsIn K mainGlobals "len" = some none)
    (z5 : PySem.W.nsIn K mainGlobals "int" = some none)
    (z6 : PySem.W.nsIn K mainGlobals "abs" = some none)
    (z7 : PySem.W.nsIn K mainGlobals "sum" = some none)
    (z8 : PySem.W.nsIn K mainGlobals "all" = some none)
    (z9 : PySem.W.nsIn K mainGlobals "isinstance" = some none)
    (z10 : PySem.W.nsIn K mainGlobals "bool" = some none)
    (z11 : PySem.W.nsIn K mainGlobals "repr" = some none)
    (ht : ∀ ns : List Int, ns.length ≤ 63 → runFn (calls fns 12) ⟨1, N13.length, b13⟩ [.scr ns] = .ok (.bool true)) : LawRun l.prog w K mg fa 63 := by
  have e := hfa.symm.trans (PySem.W.mg_of X G a13)
  cases e
  have F0 := fun_mk (st := top 1) l0 c0 k0
  have F1 := fun_mk (st := top 2) l1 c1 k1
  have F2 := fun_mk (st := top 3) l2 c2 k2
  have F3 := fun_mk (st := top 4) l3 c3 k3
  have F4 := fun_mk (st := top 5) l4 c4 k4
  have F5 := fun_mk (st := top 7) l5 c5 k5
  have F6 := fun_mk (st := top 9) l6 c6 k6
  have F7 := fun_mk (st := top 10) l7 c7 k7
  have F8 := fun_mk (st := top 17) l8 c8 k8
  have F9 := fun_mk (st := top 18) l9 c9 k9
  have F10 := fun_mk (st := top 19) l10 c10 k10
  have F11 := fun_mk (st := top 21) l11 c11 k11
  have F12 := fun_mk (st := top 22) l12 c12 k12
  have F13 := fun_mk (st := top 23) l13 c13 k13
  have facts : ∀ y ∈ gl, GvOk w K mg gl bl ret fns y.1 y.2 := forall_chain (
    .cons (⟨top 1, N0, [Str.ofString "game", Str.ofString "place"], b0, f0, _, _, rfl, rfl, d0, F0, PySem.W.mg_of X G a0, k0, F0.binds fun _ _ _ _ _ _ us hl => match us, hl with | [_, _], _ => rfl⟩) <|
    .cons (⟨top 2, N1, [Str.ofString "game", Str.ofString "kind"], b1, f1, _, _, rfl, rfl, d1, F1, PySem.W.mg_of X G a1, k1, F1.binds fun _ _ _ _ _ _ us hl => match us, hl with | [_, _], _ => rfl⟩) <|
    .cons (⟨top 3, N2, [Str.ofString "game"], b2, f2, _, _, rfl, rfl, d2, F2, PySem.W.mg_of X G a2, k2, F2.binds fun _ _ _ _ _ _ us hl => match us, hl with | [_], _ => rfl⟩) <|
    .cons (⟨top 4, N3, [Str.ofString "game"], b3, f3, _, _, rfl, rfl, d3, F3, PySem.W.mg_of X G a3, k3, F3.binds fun _ _ _ _ _ _ us hl => match us, hl with | [_], _ => rfl⟩) <|
    .cons (⟨top 5, N4, [Str.ofString "game", Str.ofString "place"], b4, f4, _, _, rfl, rfl, d4, F4, PySem.W.mg_of X G a4, k4, F4.binds fun _ _ _ _ _ _ us hl => match us, hl with | [_, _], _ => rfl⟩) <|
    .cons (⟨top 7, N5, [Str.ofString "_law_script", Str.ofString "_law_count"], b5, f5, _, _, rfl, rfl, d5, F5, PySem.W.mg_of X G a5, k5, F5.binds fun _ _ _ _ _ _ us hl => match us, hl with | [_, _], _ => rfl⟩) <|
    .cons (⟨top 9, N6, [Str.ofString "_law_a", Str.ofString "_law_b"], b6, f6, _, _, rfl, rfl, d6, F6, PySem.W.mg_of X G a6, k6, F6.binds fun _ _ _ _ _ _ us hl => match us, hl with | [_, _], _ => rfl⟩) <|
    .cons (⟨top 10, N7, [Str.ofString "_law_n", Str.ofString "_law_d"], b7, f7, _, _, rfl, rfl, d7, F7, PySem.W.mg_of X G a7, k7, F7.binds fun _ _ _ _ _ _ us hl => match us, hl with | [_, _], _ => rfl⟩) <|
    .cons (⟨top 17, N8, [Str.ofString "_law_draws_here", Str.ofString "_law_many", Str.ofString "_law_top"], b8, f8, _, _, rfl, rfl, d8, F8, PySem.W.mg_of X G a8, k8, F8.binds fun _ _ _ _ _ _ us hl => match us, hl with | [_, _, _], _ => rfl⟩) <|
    .cons (⟨top 18, N9, [Str.ofString "_law_draws_here", Str.ofString "_law_most", Str.ofString "_law_top"], b9, f9, _, _, rfl, rfl, d9, F9, PySem.W.mg_of X G a9, k9, F9.binds fun _ _ _ _ _ _ us hl => match us, hl with | [_, _, _], _ => rfl⟩) <|
    .cons (⟨top 19, N10, [Str.ofString "_law_place_here"], b10, f10, _, _, rfl, rfl, d10, F10, PySem.W.mg_of X G a10, k10, F10.binds fun _ _ _ _ _ _ us hl => match us, hl with | [_], _ => rfl⟩) <|
    .cons (⟨top 21, N11, [Str.ofString "_law_game_here", Str.ofString "_law_place_here"], b11, f11, _, _, rfl, rfl, d11, F11, PySem.W.mg_of X G a11, k11, F11.binds fun _ _ _ _ _ _ us hl => match us, hl with | [_, _], _ => rfl⟩) <|
    .cons (⟨top 22, N12, [Str.ofString "_law_actual"], b12, f12, _, _, rfl, rfl, d12, F12, PySem.W.mg_of X G a12, k12, F12.binds fun _ _ _ _ _ _ us hl => match us, hl with | [_], _ => rfl⟩) <|
    .nil)
  have blts : ∀ x ∈ bl, mg x = none := forall_chain (
    .cons (PySem.W.mg_none_of X G z0) <| .cons (PySem.W.mg_none_of X G z1) <| .cons (PySem.W.mg_none_of X G z2) <| .cons (PySem.W.mg_none_of X G z3) <| .cons (PySem.W.mg_none_of X G z4) <| .cons (PySem.W.mg_none_of X G z5) <| .cons (PySem.W.mg_none_of X G z6) <| .cons (PySem.W.mg_none_of X G z7) <| .cons (PySem.W.mg_none_of X G z8) <| .cons (PySem.W.mg_none_of X G z9) <| .cons (PySem.W.mg_none_of X G z10) <| .cons (PySem.W.mg_none_of X G z11) <| .nil)
  exact law_run (progOk_mk facts blts) F13 d13 (fun s v => .of_eq rfl) ⟨rfl, by decide, by decide⟩ rfl ht
end Gk02
end

section
/-! k02: targets and marks. -/
namespace Gk02
open PySem Rf
theorem kinds_all {P : Str → Prop} (h1 : P "draw") (h2 : P "ours") (h3 : P "theirs") : ∀ k ∈ ([Str.ofString "draw", Str.ofString "ours", Str.ofString "theirs"] : List Str), P k := by
  intro k hk
  simp only [List.mem_cons, List.not_mem_nil, or_false] at hk
  rcases hk with rfl | rfl | rfl
  · exact h1
  · exact h2
  · exact h3
theorem law_core {Φ : Calls} (h0 : TgOk Φ 0) (h1 : PlacesOk Φ 1) (h2 : ∀ g : List Pl, (∀ p ∈ g, p.mark ≤ 9) → g.length ≤ 1000 → (Φ 2 [.list (g.map encP)]).sat fun d => d = .list ((marksOf g).map nI))
    (h3 : ∀ g : List Pl, g.length ≤ 1000 → (Φ 3 [.list (g.map encP)]).sat fun d => d = .bool (allDraws g))
    (h4 : ∀ (g : List Pl) (a : Nat), (∀ q ∈ g, q.tg.length ≤ 1000) → (∀ q ∈ g, ∀ t ∈ q.tg, t < g.length) → a < g.length → g.length ≤ 1000 → (Φ 4 [.list (g.map encP), nI a]).sat fun d => d = .list ((rchd g a).map nI))
    (h5 : DrawsOk Φ 5) (h9 : GameOk Φ 9) (h10 : LTgOk Φ 10)
    (h11 : ∀ (g : List Pl) (a : Nat), (∀ q ∈ g, q.tg.length ≤ 1000) → (∀ q ∈ g, ∀ t ∈ q.tg, t < g.length) → a < g.length → g.length ≤ 1000 → (Φ 11 [.list (g.map encP), nI a]).sat fun d => d = .list ((rchd g a).map nI))
    (h12 : ∀ l : List Nat, l.length ≤ 1000 → (Φ 12 [.list (l.map nI)]).sat fun d => d = .bool true) {ns : List Int} (hn : ns.length ≤ 63) : (runFn Φ ⟨1, 13, b13⟩ [.scr ns]).sat fun d => d = .bool true := by
  rw [run_eq]
  refine ⟨⟨rfl, by decide⟩, ?_⟩
  show (exec Φ b13 [some (.scr ns), none, none, none, none, none, none, none, none, none, none, none, none]).sat _ _ _ _
  unfold b13
  simp only [x_skip, x_seq, x_asg, x_aug, x_ex, x_ite, x_for, x_ret, x_brk, x_cnt, t_var, t_tup, t_tupL, t_nil, t_cons, t_sub, n_var, n_tup, n_nil, n_cons, c_cons', c_lst, c_neg, c_tup, e_nil, e_cons, e_var, e_lit, e_tup, e_lst, e_neg, e_not, e_bin, e_cmp, e_and, e_or, e_ite, e_sub, e_slc, e_call, e_bi, e_isi, e_app, e_pop, e_comp, e_dcomp, i_sat, g_zero, g_succ, z_zero, z_succ, wipe_nil, wipe_cons, p_add, p_sub, p_mul, p_fdiv, p_mod, p_pow, p_addL, p_addT, p_auga, p_augs, q_lt, q_le, q_gt, q_ge, q_isN, q_isnotN, q_in, q_notin, q_in_ints, p_len, p_lenT, p_lenS, p_list, p_listT, p_int, p_intB, p_abs, p_range, p_range2, p_all, p_any, p_sum, p_gcd, p_append, p_items, p_itemsT, p_itemsS, p_subL, p_subT, at0, at1, at2, truth_b, lt_zero, lt_succ, ln_cons, ln_nil, p_slc, p_putL, true_and, and_true, decide_eq_true_eq, m_on, q_eqI, q_neI, Option.some.injEq, exists_eq_left', exists_eq_left, if_true, if_false, eq_self, Bool.false_eq_true, Bool.not_eq_true, List.length_map, reduceCtorEq, not_false_eq_true, sat_ite, s_ok, q_eqS, q_neS, q_eqB, q_neB, i_bb, i_tt, i_ll, p_end, p_endN, ne_eq, rng0, Int.toNat_natCast, List.length_range, p_sumN, line]
  refine (h5 ns 370 hn (by decide)).imp fun d ⟨vs, hd, vl, vb⟩ => ?_
  subst hd
  have a365 := atN (vs := vs) (i := 365) 365 rfl (by omega)
  obtain ⟨most, ht1, ht2, ht3⟩ : ∃ v : Nat, atL [D.int 8, D.int 8, D.int 8, D.int 8, D.int 8, D.int 8, D.int 8, D.int 8, D.int 8, D.int 8, D.int 8, D.int 24] ((vs.getD 365 0 : Nat) % 12 : Int) = some (nI v) ∧ 0 < v ∧ v ≤ 24 := at_all (e := nI) (as := [8, 8, 8, 8, 8, 8, 8, 8, 8, 8, 8, 24]) (P := fun v => 0 < v ∧ v ≤ 24) (by omega) (by simp only [List.length_cons, List.length_nil]; omega) (by decide)
  simp only [x_skip, x_seq, x_asg, x_aug, x_ex, x_ite, x_for, x_ret, x_brk, x_cnt, t_var, t_tup, t_tupL, t_nil, t_cons, t_sub, n_var, n_tup, n_nil, n_cons, c_cons', c_lst, c_neg, c_tup, e_nil, e_cons, e_var, e_lit, e_tup, e_lst, e_neg, e_not, e_bin, e_cmp, e_and, e_or, e_ite, e_sub, e_slc, e_call, e_bi, e_isi, e_app, e_pop, e_comp, e_dcomp, i_sat, g_zero, g_succ, z_zero, z_succ, wipe_nil, wipe_cons, p_add, p_sub, p_mul, p_fdiv, p_mod, p_pow, p_addL, p_addT, p_auga, p_augs, q_lt, q_le, q_gt, q_ge, q_isN, q_isnotN, q_in, q_notin, q_in_ints, p_len, p_lenT, p_lenS, p_list, p_listT, p_int, p_intB, p_abs, p_range, p_range2, p_all, p_any, p_sum, p_gcd, p_append, p_items, p_itemsT, p_itemsS, p_subL, p_subT, at0, at1, at2, truth_b, lt_zero, lt_succ, ln_cons, ln_nil, p_slc, p_putL, true_and, and_true, decide_eq_true_eq, m_on, q_eqI, q_neI, Option.some.injEq, exists_eq_left', exists_eq_left, if_true, if_false, eq_self, Bool.false_eq_true, Bool.not_eq_true, List.length_map, reduceCtorEq, not_false_eq_true, sat_ite, s_ok, q_eqS, q_neS, q_eqB, q_neB, i_bb, i_tt, i_ll, p_end, p_endN, ne_eq, rng0, Int.toNat_natCast, List.length_range, p_sumN, line, a365, ht1]
  refine ⟨by decide, (h9 vs most 9 (by omega) ht2 (by omega) (by decide)).imp fun d ⟨g, hd, G⟩ => ?_⟩
  subst hd
  have gl := G.le
  have hz : ∀ p ∈ g, p.tg.length ≤ 1000 := fun p hp => Nat.le_trans (G.all p hp).le (by decide)
  have hq : ∀ p ∈ g, ∀ t ∈ p.tg, t < g.length := fun p hp => (G.all p hp).tg
  have hmk : ∀ p ∈ g, p.mark ≤ 9 := fun p hp => (G.all p hp).mark
  have hr := game_repr G (by decide) (by omega)
  simp only [x_skip, x_seq, x_asg, x_aug, x_ex, x_ite, x_for, x_ret, x_brk, x_cnt, t_var, t_tup, t_tupL, t_nil, t_cons, t_sub, n_var, n_tup, n_nil, n_cons, c_cons', c_lst, c_neg, c_tup, e_nil, e_cons, e_var, e_lit, e_tup, e_lst, e_neg, e_not, e_bin, e_cmp, e_and, e_or, e_ite, e_sub, e_slc, e_call, e_bi, e_isi, e_app, e_pop, e_comp, e_dcomp, i_sat, g_zero, g_succ, z_zero, z_succ, wipe_nil, wipe_cons, p_add, p_sub, p_mul, p_fdiv, p_mod, p_pow, p_addL, p_addT, p_auga, p_augs, q_lt, q_le, q_gt, q_ge, q_isN, q_isnotN, q_in, q_notin, q_in_ints, p_len, p_lenT, p_lenS, p_list, p_listT, p_int, p_intB, p_abs, p_range, p_range2, p_all, p_any, p_sum, p_gcd, p_append, p_items, p_itemsT, p_itemsS, p_subL, p_subT, at0, at1, at2, truth_b, lt_zero, lt_succ, ln_cons, ln_nil, p_slc, p_putL, true_and, and_true, decide_eq_true_eq, m_on, q_eqI, q_neI, Option.some.injEq, exists_eq_left', exists_eq_left, if_true, if_false, eq_self, Bool.false_eq_true, Bool.not_eq_true, List.length_map, reduceCtorEq, not_false_eq_true, sat_ite, s_ok, q_eqS, q_neS, q_eqB, q_neB, i_bb, i_tt, i_ll, p_end, p_endN, ne_eq, rng0, Int.toNat_natCast, List.length_range, p_sumN, line, p_repr, hr]
  generalize hrep : (PyData.shown (cast (.list (g.map encP)))) = rep
  refine ⟨rOk_nat (by omega), ?_⟩
  refine loop_map (as := List.range g.length) (e := nI) (fun i ρ => ∃ x1 x4 x5 x6 x7 : Option D, ρ = [some (.scr ns), x1, some (.list (g.map encP)), some (.str rep), x4, x5, x6, x7, none, none, none, none, none])
    (fun ρ => ∃ x1 x4 x5 x6 x7 : Option D, ρ = [some (.scr ns), x1, some (.list (g.map encP)), some (.str rep), x4, x5, x6, x7, none, none, none, none, none]) ⟨_, _, _, _, _, rfl⟩ ?_ (fun ρ h => h) ?_
  · rintro i k ρ hi ⟨x1, x4, x5, x6, x7, rfl⟩
    have hk : k < g.length := List.mem_range.mp (List.mem_of_getElem? hi)
    have ea := atG (g := g) (i := (k : Int)) k rfl hk
    have hzk := hz g[k] (List.getElem_mem hk)
    have rl : (rchd g k).length ≤ 1000 := by
      unfold rchd
      exact Nat.le_trans (List.length_filter_le _ _) (by rw [List.length_range]; omega)
    simp only [x_skip, x_seq, x_asg, x_aug, x_ex, x_ite, x_for, x_ret, x_brk, x_cnt, t_var, t_tup, t_tupL, t_nil, t_cons, t_sub, n_var, n_tup, n_nil, n_cons, c_cons', c_lst, c_neg, c_tup, e_nil, e_cons, e_var, e_lit, e_tup, e_lst, e_neg, e_not, e_bin, e_cmp, e_and, e_or, e_ite, e_sub, e_slc, e_call, e_bi, e_isi, e_app, e_pop, e_comp, e_dcomp, i_sat, g_zero, g_succ, z_zero, z_succ, wipe_nil, wipe_cons, p_add, p_sub, p_mul, p_fdiv, p_mod, p_pow, p_addL, p_addT, p_auga, p_augs, q_lt, q_le, q_gt, q_ge, q_isN, q_isnotN, q_in, q_notin, q_in_ints, p_len, p_lenT, p_lenS, p_list, p_listT, p_int, p_intB, p_abs, p_range, p_range2, p_all, p_any, p_sum, p_gcd, p_append, p_items, p_itemsT, p_itemsS, p_subL, p_subT, at0, at1, at2, truth_b, lt_zero, lt_succ, ln_cons, ln_nil, p_slc, p_putL, true_and, and_true, decide_eq_true_eq, m_on, q_eqI, q_neI, Option.some.injEq, exists_eq_left', exists_eq_left, if_true, if_false, eq_self, Bool.false_eq_true, Bool.not_eq_true, List.length_map, reduceCtorEq, not_false_eq_true, sat_ite, s_ok, q_eqS, q_neS, q_eqB, q_neB, i_bb, i_tt, i_ll, p_end, p_endN, ne_eq, rng0, Int.toNat_natCast, List.length_range, p_sumN, line, ea]
    refine (h10 g[k] hzk).imp fun d e => ?_
    subst e
    refine (h11 g k hz hq hk (by omega)).imp fun d e => ?_
    subst e
    refine (h0 g k hk hzk).imp fun d e => ?_
    subst e
    refine (h4 g k hz hq hk (by omega)).imp fun d e => ?_
    subst e
    have eL : [D.list (g[k].tg.map nI), D.list ((rchd g k).map nI)] = [g[k].tg, rchd g k].map fun l : List Nat => D.list (l.map nI) := rfl
    have sh : shpB 9 (.list ([g[k].tg, rchd g k].map fun l : List Nat => D.list (l.map nI))) = true := by
      simp only [shpB, List.all_map, List.all_eq_true, Function.comp]
      exact fun _ _ _ _ => trivial
    rw [eL]
    refine ⟨by simp, fm_map (as := [g[k].tg, rchd g k]) (ea := fun l : List Nat => .list (l.map nI)) (eb := D.bool) (fun _ => true) (fun l hl => ?_) ?_⟩
    · have : l.length ≤ 1000 := by
        simp only [List.mem_cons, List.not_mem_nil, or_false] at hl
        rcases hl with rfl | rfl
        · exact hzk
        · exact rl
      simp only [x_skip, x_seq, x_asg, x_aug, x_ex, x_ite, x_for, x_ret, x_brk, x_cnt, t_var, t_tup, t_tupL, t_nil, t_cons, t_sub, n_var, n_tup, n_nil, n_cons, c_cons', c_lst, c_neg, c_tup, e_nil, e_cons, e_var, e_lit, e_tup, e_lst, e_neg, e_not, e_bin, e_cmp, e_and, e_or, e_ite, e_sub, e_slc, e_call, e_bi, e_isi, e_app, e_pop, e_comp, e_dcomp, i_sat, g_zero, g_succ, z_zero, z_succ, wipe_nil, wipe_cons, p_add, p_sub, p_mul, p_fdiv, p_mod, p_pow, p_addL, p_addT, p_auga, p_augs, q_lt, q_le, q_gt, q_ge, q_isN, q_isnotN, q_in, q_notin, q_in_ints, p_len, p_lenT, p_lenS, p_list, p_listT, p_int, p_intB, p_abs, p_range, p_range2, p_all, p_any, p_sum, p_gcd, p_append, p_items, p_itemsT, p_itemsS, p_subL, p_subT, at0, at1, at2, truth_b, lt_zero, lt_succ, ln_cons, ln_nil, p_slc, p_putL, true_and, and_true, decide_eq_true_eq, m_on, q_eqI, q_neI, Option.some.injEq, exists_eq_left', exists_eq_left, if_true, if_false, eq_self, Bool.false_eq_true, Bool.not_eq_true, List.length_map, reduceCtorEq, not_false_eq_true, sat_ite, s_ok, q_eqS, q_neS, q_eqB, q_neB, i_bb, i_tt, i_ll, p_end, p_endN, ne_eq, rng0, Int.toNat_natCast, List.length_range, p_sumN, line]
      refine (h12 l this).imp fun d e => ?_
      subst e
      rfl
    simp only [x_skip, x_seq, x_asg, x_aug, x_ex, x_ite, x_for, x_ret, x_brk, x_cnt, t_var, t_tup, t_tupL, t_nil, t_cons, t_sub, n_var, n_tup, n_nil, n_cons, c_cons', c_lst, c_neg, c_tup, e_nil, e_cons, e_var, e_lit, e_tup, e_lst, e_neg, e_not, e_bin, e_cmp, e_and, e_or, e_ite, e_sub, e_slc, e_call, e_bi, e_isi, e_app, e_pop, e_comp, e_dcomp, i_sat, g_zero, g_succ, z_zero, z_succ, wipe_nil, wipe_cons, p_add, p_sub, p_mul, p_fdiv, p_mod, p_pow, p_addL, p_addT, p_auga, p_augs, q_lt, q_le, q_gt, q_ge, q_isN, q_isnotN, q_in, q_notin, q_in_ints, p_len, p_lenT, p_lenS, p_list, p_listT, p_int, p_intB, p_abs, p_range, p_range2, p_all, p_any, p_sum, p_gcd, p_append, p_items, p_itemsT, p_itemsS, p_subL, p_subT, at0, at1, at2, truth_b, lt_zero, lt_succ, ln_cons, ln_nil, p_slc, p_putL, true_and, and_true, decide_eq_true_eq, m_on, q_eqI, q_neI, Option.some.injEq, exists_eq_left', exists_eq_left, if_true, if_false, eq_self, Bool.false_eq_true, Bool.not_eq_true, List.length_map, reduceCtorEq, not_false_eq_true, sat_ite, s_ok, q_eqS, q_neS, q_eqB, q_neB, i_bb, i_tt, i_ll, p_end, p_endN, ne_eq, rng0, Int.toNat_natCast, List.length_range, p_sumN, line, truth_bb, ned_self sh]
    simp only [List.map_cons, List.map_nil, List.all_cons, List.all_nil, id, Bool.and_true, Bool.not_true, if_false, Bool.false_eq_true]
    rw [eL]
    simp only [x_each, x_skip, x_seq, x_asg, x_aug, x_ex, x_ite, x_for, x_ret, x_brk, x_cnt, t_var, t_tup, t_tupL, t_nil, t_cons, t_sub, n_var, n_tup, n_nil, n_cons, c_cons', c_lst, c_neg, c_tup, e_nil, e_cons, e_var, e_lit, e_tup, e_lst, e_neg, e_not, e_bin, e_cmp, e_and, e_or, e_ite, e_sub, e_slc, e_call, e_bi, e_isi, e_app, e_pop, e_comp, e_dcomp, i_sat, g_zero, g_succ, z_zero, z_succ, wipe_nil, wipe_cons, p_add, p_sub, p_mul, p_fdiv, p_mod, p_pow, p_addL, p_addT, p_auga, p_augs, q_lt, q_le, q_gt, q_ge, q_isN, q_isnotN, q_in, q_notin, q_in_ints, p_len, p_lenT, p_lenS, p_list, p_listT, p_int, p_intB, p_abs, p_range, p_range2, p_all, p_any, p_sum, p_gcd, p_append, p_items, p_itemsT, p_itemsS, p_subL, p_subT, at0, at1, at2, truth_b, lt_zero, lt_succ, ln_cons, ln_nil, p_slc, p_putL, true_and, and_true, decide_eq_true_eq, m_on, q_eqI, q_neI, Option.some.injEq, exists_eq_left', exists_eq_left, if_true, if_false, eq_self, Bool.false_eq_true, Bool.not_eq_true, List.length_map, reduceCtorEq, not_false_eq_true, sat_ite, s_ok, q_eqS, q_neS, q_eqB, q_neB, i_bb, i_tt, i_ll, p_end, p_endN, ne_eq, rng0, Int.toNat_natCast, List.length_range, p_sumN, line]
    rw [o_each (by
      intro l hl
      simp only [List.mem_cons, List.not_mem_nil, or_false] at hl
      unfold line
      rcases hl with rfl | rfl <;> omega)]
    simp only [x_skip, x_seq, x_asg, x_aug, x_ex, x_ite, x_for, x_ret, x_brk, x_cnt, t_var, t_tup, t_tupL, t_nil, t_cons, t_sub, n_var, n_tup, n_nil, n_cons, c_cons', c_lst, c_neg, c_tup, e_nil, e_cons, e_var, e_lit, e_tup, e_lst, e_neg, e_not, e_bin, e_cmp, e_and, e_or, e_ite, e_sub, e_slc, e_call, e_bi, e_isi, e_app, e_pop, e_comp, e_dcomp, i_sat, g_zero, g_succ, z_zero, z_succ, wipe_nil, wipe_cons, p_add, p_sub, p_mul, p_fdiv, p_mod, p_pow, p_addL, p_addT, p_auga, p_augs, q_lt, q_le, q_gt, q_ge, q_isN, q_isnotN, q_in, q_notin, q_in_ints, p_len, p_lenT, p_lenS, p_list, p_listT, p_int, p_intB, p_abs, p_range, p_range2, p_all, p_any, p_sum, p_gcd, p_append, p_items, p_itemsT, p_itemsS, p_subL, p_subT, at0, at1, at2, truth_b, lt_zero, lt_succ, ln_cons, ln_nil, p_slc, p_putL, true_and, and_true, decide_eq_true_eq, m_on, q_eqI, q_neI, Option.some.injEq, exists_eq_left', exists_eq_left, if_true, if_false, eq_self, Bool.false_eq_true, Bool.not_eq_true, List.length_map, reduceCtorEq, not_false_eq_true, sat_ite, s_ok, q_eqS, q_neS, q_eqB, q_neB, i_bb, i_tt, i_ll, p_end, p_endN, ne_eq, rng0, Int.toNat_natCast, List.length_range, p_sumN, line]
    refine (h0 g k hk hzk).imp fun d e => ?_
    subst e
    refine (h4 g k hz hq hk (by omega)).imp fun d e => ?_
    subst e
    rw [eL, ned_self sh]
    simp only [x_skip, x_seq, x_asg, x_aug, x_ex, x_ite, x_for, x_ret, x_brk, x_cnt, t_var, t_tup, t_tupL, t_nil, t_cons, t_sub, n_var, n_tup, n_nil, n_cons, c_cons', c_lst, c_neg, c_tup, e_nil, e_cons, e_var, e_lit, e_tup, e_lst, e_neg, e_not, e_bin, e_cmp, e_and, e_or, e_ite, e_sub, e_slc, e_call, e_bi, e_isi, e_app, e_pop, e_comp, e_dcomp, i_sat, g_zero, g_succ, z_zero, z_succ, wipe_nil, wipe_cons, p_add, p_sub, p_mul, p_fdiv, p_mod, p_pow, p_addL, p_addT, p_auga, p_augs, q_lt, q_le, q_gt, q_ge, q_isN, q_isnotN, q_in, q_notin, q_in_ints, p_len, p_lenT, p_lenS, p_list, p_listT, p_int, p_intB, p_abs, p_range, p_range2, p_all, p_any, p_sum, p_gcd, p_append, p_items, p_itemsT, p_itemsS, p_subL, p_subT, at0, at1, at2, truth_b, lt_zero, lt_succ, ln_cons, ln_nil, p_slc, p_putL, true_and, and_true, decide_eq_true_eq, m_on, q_eqI, q_neI, Option.some.injEq, exists_eq_left', exists_eq_left, if_true, if_false, eq_self, Bool.false_eq_true, Bool.not_eq_true, List.length_map, reduceCtorEq, not_false_eq_true, sat_ite, s_ok, q_eqS, q_neS, q_eqB, q_neB, i_bb, i_tt, i_ll, p_end, p_endN, ne_eq, rng0, Int.toNat_natCast, List.length_range, p_sumN, line, p_repr, hr, hrep]
    simp
  rintro ρ ⟨x1, x4, x5, x6, x7, rfl⟩
  have eK : [D.str (Str.ofString "draw"), D.str (Str.ofString "ours"), D.str (Str.ofString "theirs")] = [Str.ofString "draw", Str.ofString "ours", Str.ofString "theirs"].map D.str := rfl
  rw [eK]
  refine loop_map (as := [Str.ofString "draw", Str.ofString "ours", Str.ofString "theirs"]) (e := D.str) (fun i ρ => ∃ x6 x8 : Option D, ρ = [some (.scr ns), x1, some (.list (g.map encP)), some (.str rep), x4, x5, x6, x7, x8, none, none, none, none])
    (fun ρ => ∃ x6 x8 : Option D, ρ = [some (.scr ns), x1, some (.list (g.map encP)), some (.str rep), x4, x5, x6, x7, x8, none, none, none, none]) ⟨_, _, rfl⟩ ?_ (fun ρ h => h) ?_
  · rintro i kd ρ hi ⟨x6, x8, rfl⟩
    have lp : (placesK g kd).length ≤ 1000 := by
      unfold placesK
      exact Nat.le_trans (List.length_filter_le _ _) (by rw [List.length_range]; omega)
    simp only [x_skip, x_seq, x_asg, x_aug, x_ex, x_ite, x_for, x_ret, x_brk, x_cnt, t_var, t_tup, t_tupL, t_nil, t_cons, t_sub, n_var, n_tup, n_nil, n_cons, c_cons', c_lst, c_neg, c_tup, e_nil, e_cons, e_var, e_lit, e_tup, e_lst, e_neg, e_not, e_bin, e_cmp, e_and, e_or, e_ite, e_sub, e_slc, e_call, e_bi, e_isi, e_app, e_pop, e_comp, e_dcomp, i_sat, g_zero, g_succ, z_zero, z_succ, wipe_nil, wipe_cons, p_add, p_sub, p_mul, p_fdiv, p_mod, p_pow, p_addL, p_addT, p_auga, p_augs, q_lt, q_le, q_gt, q_ge, q_isN, q_isnotN, q_in, q_notin, q_in_ints, p_len, p_lenT, p_lenS, p_list, p_listT, p_int, p_intB, p_abs, p_range, p_range2, p_all, p_any, p_sum, p_gcd, p_append, p_items, p_itemsT, p_itemsS, p_subL, p_subT, at0, at1, at2, truth_b, lt_zero, lt_succ, ln_cons, ln_nil, p_slc, p_putL, true_and, and_true, decide_eq_true_eq, m_on, q_eqI, q_neI, Option.some.injEq, exists_eq_left', exists_eq_left, if_true, if_false, eq_self, Bool.false_eq_true, Bool.not_eq_true, List.length_map, reduceCtorEq, not_false_eq_true, sat_ite, s_ok, q_eqS, q_neS, q_eqB, q_neB, i_bb, i_tt, i_ll, p_end, p_endN, ne_eq, rng0, Int.toNat_natCast, List.length_range, p_sumN, line]
    refine (h1 g kd (by omega)).imp fun d e => ?_
    subst e
    refine (h12 _ lp).imp fun d e => ?_
    subst e
    simp only [x_skip, x_seq, x_asg, x_aug, x_ex, x_ite, x_for, x_ret, x_brk, x_cnt, t_var, t_tup, t_tupL, t_nil, t_cons, t_sub, n_var, n_tup, n_nil, n_cons, c_cons', c_lst, c_neg, c_tup, e_nil, e_cons, e_var, e_lit, e_tup, e_lst, e_neg, e_not, e_bin, e_cmp, e_and, e_or, e_ite, e_sub, e_slc, e_call, e_bi, e_isi, e_app, e_pop, e_comp, e_dcomp, i_sat, g_zero, g_succ, z_zero, z_succ, wipe_nil, wipe_cons, p_add, p_sub, p_mul, p_fdiv, p_mod, p_pow, p_addL, p_addT, p_auga, p_augs, q_lt, q_le, q_gt, q_ge, q_isN, q_isnotN, q_in, q_notin, q_in_ints, p_len, p_lenT, p_lenS, p_list, p_listT, p_int, p_intB, p_abs, p_range, p_range2, p_all, p_any, p_sum, p_gcd, p_append, p_items, p_itemsT, p_itemsS, p_subL, p_subT, at0, at1, at2, truth_b, lt_zero, lt_succ, ln_cons, ln_nil, p_slc, p_putL, true_and, and_true, decide_eq_true_eq, m_on, q_eqI, q_neI, Option.some.injEq, exists_eq_left', exists_eq_left, if_true, if_false, eq_self, Bool.false_eq_true, Bool.not_eq_true, List.length_map, reduceCtorEq, not_false_eq_true, sat_ite, s_ok, q_eqS, q_neS, q_eqB, q_neB, i_bb, i_tt, i_ll, p_end, p_endN, ne_eq, rng0, Int.toNat_natCast, List.length_range, p_sumN, line, truth_bb, Bool.not_true]
    refine ⟨rOk_nat (by omega), by omega, fm_filter (as := List.range g.length) (ea := nI) (eb := nI) (fun k => if (kdS (plOf g k) == kd) = true then some k else none) (fun k hk => ?_) ?_⟩
    · have hk : k < g.length := List.mem_range.mp hk
      have ea := atG (g := g) (i := (k : Int)) k rfl hk
      have ep : plOf g k = g[k] := by unfold plOf; rw [getD_at hk]
      simp only [x_skip, x_seq, x_asg, x_aug, x_ex, x_ite, x_for, x_ret, x_brk, x_cnt, t_var, t_tup, t_tupL, t_nil, t_cons, t_sub, n_var, n_tup, n_nil, n_cons, c_cons', c_lst, c_neg, c_tup, e_nil, e_cons, e_var, e_lit, e_tup, e_lst, e_neg, e_not, e_bin, e_cmp, e_and, e_or, e_ite, e_sub, e_slc, e_call, e_bi, e_isi, e_app, e_pop, e_comp, e_dcomp, i_sat, g_zero, g_succ, z_zero, z_succ, wipe_nil, wipe_cons, p_add, p_sub, p_mul, p_fdiv, p_mod, p_pow, p_addL, p_addT, p_auga, p_augs, q_lt, q_le, q_gt, q_ge, q_isN, q_isnotN, q_in, q_notin, q_in_ints, p_len, p_lenT, p_lenS, p_list, p_listT, p_int, p_intB, p_abs, p_range, p_range2, p_all, p_any, p_sum, p_gcd, p_append, p_items, p_itemsT, p_itemsS, p_subL, p_subT, at0, at1, at2, truth_b, lt_zero, lt_succ, ln_cons, ln_nil, p_slc, p_putL, true_and, and_true, decide_eq_true_eq, m_on, q_eqI, q_neI, Option.some.injEq, exists_eq_left', exists_eq_left, if_true, if_false, eq_self, Bool.false_eq_true, Bool.not_eq_true, List.length_map, reduceCtorEq, not_false_eq_true, sat_ite, s_ok, q_eqS, q_neS, q_eqB, q_neB, i_bb, i_tt, i_ll, p_end, p_endN, ne_eq, rng0, Int.toNat_natCast, List.length_range, p_sumN, line, ea, p_kind, ep]
      by_cases h : (kdS g[k] == kd) = true
      · rw [if_pos h, if_pos h]; rfl
      · rw [if_neg h, if_neg h]; rfl
    · rw [fm_guard]
      have : (List.range g.length).filter (fun o => decide ((kdS (plOf g o) == kd) = true)) = placesK g kd := by
        unfold placesK
        exact List.filter_congr fun k _ => by cases (kdS (plOf g k) == kd) <;> rfl
      rw [this, q_neN]
      simp
  rintro ρ ⟨x6, x8, rfl⟩
  simp only [x_skip, x_seq, x_asg, x_aug, x_ex, x_ite, x_for, x_ret, x_brk, x_cnt, t_var, t_tup, t_tupL, t_nil, t_cons, t_sub, n_var, n_tup, n_nil, n_cons, c_cons', c_lst, c_neg, c_tup, e_nil, e_cons, e_var, e_lit, e_tup, e_lst, e_neg, e_not, e_bin, e_cmp, e_and, e_or, e_ite, e_sub, e_slc, e_call, e_bi, e_isi, e_app, e_pop, e_comp, e_dcomp, i_sat, g_zero, g_succ, z_zero, z_succ, wipe_nil, wipe_cons, p_add, p_sub, p_mul, p_fdiv, p_mod, p_pow, p_addL, p_addT, p_auga, p_augs, q_lt, q_le, q_gt, q_ge, q_isN, q_isnotN, q_in, q_notin, q_in_ints, p_len, p_lenT, p_lenS, p_list, p_listT, p_int, p_intB, p_abs, p_range, p_range2, p_all, p_any, p_sum, p_gcd, p_append, p_items, p_itemsT, p_itemsS, p_subL, p_subT, at0, at1, at2, truth_b, lt_zero, lt_succ, ln_cons, ln_nil, p_slc, p_putL, true_and, and_true, decide_eq_true_eq, m_on, q_eqI, q_neI, Option.some.injEq, exists_eq_left', exists_eq_left, if_true, if_false, eq_self, Bool.false_eq_true, Bool.not_eq_true, List.length_map, reduceCtorEq, not_false_eq_true, sat_ite, s_ok, q_eqS, q_neS, q_eqB, q_neB, i_bb, i_tt, i_ll, p_end, p_endN, ne_eq, rng0, Int.toNat_natCast, List.length_range, p_sumN, line]
  refine ⟨by omega, fm_map (as := g) (ea := encP) (eb := nI) Pl.mark (fun p _ => ?_) ?_⟩
  · simp only [x_skip, x_seq, x_asg, x_aug, x_ex, x_ite, x_for, x_ret, x_brk, x_cnt, t_var, t_tup, t_tupL, t_nil, t_cons, t_sub, n_var, n_tup, n_nil, n_cons, c_cons', c_lst, c_neg, c_tup, e_nil, e_cons, e_var, e_lit, e_tup, e_lst, e_neg, e_not, e_bin, e_cmp, e_and, e_or, e_ite, e_sub, e_slc, e_call, e_bi, e_isi, e_app, e_pop, e_comp, e_dcomp, i_sat, g_zero, g_succ, z_zero, z_succ, wipe_nil, wipe_cons, p_add, p_sub, p_mul, p_fdiv, p_mod, p_pow, p_addL, p_addT, p_auga, p_augs, q_lt, q_le, q_gt, q_ge, q_isN, q_isnotN, q_in, q_notin, q_in_ints, p_len, p_lenT, p_lenS, p_list, p_listT, p_int, p_intB, p_abs, p_range, p_range2, p_all, p_any, p_sum, p_gcd, p_append, p_items, p_itemsT, p_itemsS, p_subL, p_subT, at0, at1, at2, truth_b, lt_zero, lt_succ, ln_cons, ln_nil, p_slc, p_putL, true_and, and_true, decide_eq_true_eq, m_on, q_eqI, q_neI, Option.some.injEq, exists_eq_left', exists_eq_left, if_true, if_false, eq_self, Bool.false_eq_true, Bool.not_eq_true, List.length_map, reduceCtorEq, not_false_eq_true, sat_ite, s_ok, q_eqS, q_neS, q_eqB, q_neB, i_bb, i_tt, i_ll, p_end, p_endN, ne_eq, rng0, Int.toNat_natCast, List.length_range, p_sumN, line, p_mark]
  have lm : (marksOf g).length ≤ 1000 := by
    unfold marksOf
    exact Nat.le_trans (List.length_filter_le _ _) (by simp)
  refine (h2 g hmk (by omega)).imp fun d e => ?_
  subst e
  refine (h12 _ lm).imp fun d e => ?_
  subst e
  have e10 : Int.toNat 10 = 10 := rfl
  simp only [x_skip, x_seq, x_asg, x_aug, x_ex, x_ite, x_for, x_ret, x_brk, x_cnt, t_var, t_tup, t_tupL, t_nil, t_cons, t_sub, n_var, n_tup, n_nil, n_cons, c_cons', c_lst, c_neg, c_tup, e_nil, e_cons, e_var, e_lit, e_tup, e_lst, e_neg, e_not, e_bin, e_cmp, e_and, e_or, e_ite, e_sub, e_slc, e_call, e_bi, e_isi, e_app, e_pop, e_comp, e_dcomp, i_sat, g_zero, g_succ, z_zero, z_succ, wipe_nil, wipe_cons, p_add, p_sub, p_mul, p_fdiv, p_mod, p_pow, p_addL, p_addT, p_auga, p_augs, q_lt, q_le, q_gt, q_ge, q_isN, q_isnotN, q_in, q_notin, q_in_ints, p_len, p_lenT, p_lenS, p_list, p_listT, p_int, p_intB, p_abs, p_range, p_range2, p_all, p_any, p_sum, p_gcd, p_append, p_items, p_itemsT, p_itemsS, p_subL, p_subT, at0, at1, at2, truth_b, lt_zero, lt_succ, ln_cons, ln_nil, p_slc, p_putL, true_and, and_true, decide_eq_true_eq, m_on, q_eqI, q_neI, Option.some.injEq, exists_eq_left', exists_eq_left, if_true, if_false, eq_self, Bool.false_eq_true, Bool.not_eq_true, List.length_map, reduceCtorEq, not_false_eq_true, sat_ite, s_ok, q_eqS, q_neS, q_eqB, q_neB, i_bb, i_tt, i_ll, p_end, p_endN, ne_eq, rng0, Int.toNat_natCast, List.length_range, p_sumN, line, truth_bb, Bool.not_true, e10]
  refine ⟨by decide, by decide, fm_filter (as := List.range 10) (ea := nI) (eb := nI) (fun m => if m ∈ g.map Pl.mark then some m else none) (fun m _ => ?_) ?_⟩
  · simp only [x_skip, x_seq, x_asg, x_aug, x_ex, x_ite, x_for, x_ret, x_brk, x_cnt, t_var, t_tup, t_tupL, t_nil, t_cons, t_sub, n_var, n_tup, n_nil, n_cons, c_cons', c_lst, c_neg, c_tup, e_nil, e_cons, e_var, e_lit, e_tup, e_lst, e_neg, e_not, e_bin, e_cmp, e_and, e_or, e_ite, e_sub, e_slc, e_call, e_bi, e_isi, e_app, e_pop, e_comp, e_dcomp, i_sat, g_zero, g_succ, z_zero, z_succ, wipe_nil, wipe_cons, p_add, p_sub, p_mul, p_fdiv, p_mod, p_pow, p_addL, p_addT, p_auga, p_augs, q_lt, q_le, q_gt, q_ge, q_isN, q_isnotN, q_in, q_notin, q_in_ints, p_len, p_lenT, p_lenS, p_list, p_listT, p_int, p_intB, p_abs, p_range, p_range2, p_all, p_any, p_sum, p_gcd, p_append, p_items, p_itemsT, p_itemsS, p_subL, p_subT, at0, at1, at2, truth_b, lt_zero, lt_succ, ln_cons, ln_nil, p_slc, p_putL, true_and, and_true, decide_eq_true_eq, m_on, q_eqI, q_neI, Option.some.injEq, exists_eq_left', exists_eq_left, if_true, if_false, eq_self, Bool.false_eq_true, Bool.not_eq_true, List.length_map, reduceCtorEq, not_false_eq_true, sat_ite, s_ok, q_eqS, q_neS, q_eqB, q_neB, i_bb, i_tt, i_ll, p_end, p_endN, ne_eq, rng0, Int.toNat_natCast, List.length_range, p_sumN, line, q_in_nat]
    by_cases h : m ∈ g.map Pl.mark
    · rw [if_pos h, if_pos h]; rfl
    · rw [if_neg h, if_neg h]; rfl
  rw [fm_guard, show (List.range 10).filter (fun o => decide (o ∈ g.map Pl.mark)) = marksOf g from rfl, q_neN]
  simp only [x_skip, x_seq, x_asg, x_aug, x_ex, x_ite, x_for, x_ret, x_brk, x_cnt, t_var, t_tup, t_tupL, t_nil, t_cons, t_sub, n_var, n_tup, n_nil, n_cons, c_cons', c_lst, c_neg, c_tup, e_nil, e_cons, e_var, e_lit, e_tup, e_lst, e_neg, e_not, e_bin, e_cmp, e_and, e_or, e_ite, e_sub, e_slc, e_call, e_bi, e_isi, e_app, e_pop, e_comp, e_dcomp, i_sat, g_zero, g_succ, z_zero, z_succ, wipe_nil, wipe_cons, p_add, p_sub, p_mul, p_fdiv, p_mod, p_pow, p_addL, p_addT, p_auga, p_augs, q_lt, q_le, q_gt, q_ge, q_isN, q_isnotN, q_in, q_notin, q_in_ints, p_len, p_lenT, p_lenS, p_list, p_listT, p_int, p_intB, p_abs, p_range, p_range2, p_all, p_any, p_sum, p_gcd, p_append, p_items, p_itemsT, p_itemsS, p_subL, p_subT, at0, at1, at2, truth_b, lt_zero, lt_succ, ln_cons, ln_nil, p_slc, p_putL, true_and, and_true, decide_eq_true_eq, m_on, q_eqI, q_neI, Option.some.injEq, exists_eq_left', exists_eq_left, if_true, if_false, eq_self, Bool.false_eq_true, Bool.not_eq_true, List.length_map, reduceCtorEq, not_false_eq_true, sat_ite, s_ok, q_eqS, q_neS, q_eqB, q_neB, i_bb, i_tt, i_ll, p_end, p_endN, ne_eq, rng0, Int.toNat_natCast, List.length_range, p_sumN, line]
  rw [if_neg (by simp)]
  refine (h3 g (by omega)).imp fun d e => ?_
  subst e
  simp only [x_skip, x_seq, x_asg, x_aug, x_ex, x_ite, x_for, x_ret, x_brk, x_cnt, t_var, t_tup, t_tupL, t_nil, t_cons, t_sub, n_var, n_tup, n_nil, n_cons, c_cons', c_lst, c_neg, c_tup, e_nil, e_cons, e_var, e_lit, e_tup, e_lst, e_neg, e_not, e_bin, e_cmp, e_and, e_or, e_ite, e_sub, e_slc, e_call, e_bi, e_isi, e_app, e_pop, e_comp, e_dcomp, i_sat, g_zero, g_succ, z_zero, z_succ, wipe_nil, wipe_cons, p_add, p_sub, p_mul, p_fdiv, p_mod, p_pow, p_addL, p_addT, p_auga, p_augs, q_lt, q_le, q_gt, q_ge, q_isN, q_isnotN, q_in, q_notin, q_in_ints, p_len, p_lenT, p_lenS, p_list, p_listT, p_int, p_intB, p_abs, p_range, p_range2, p_all, p_any, p_sum, p_gcd, p_append, p_items, p_itemsT, p_itemsS, p_subL, p_subT, at0, at1, at2, truth_b, lt_zero, lt_succ, ln_cons, ln_nil, p_slc, p_putL, true_and, and_true, decide_eq_true_eq, m_on, q_eqI, q_neI, Option.some.injEq, exists_eq_left', exists_eq_left, if_true, if_false, eq_self, Bool.false_eq_true, Bool.not_eq_true, List.length_map, reduceCtorEq, not_false_eq_true, sat_ite, s_ok, q_eqS, q_neS, q_eqB, q_neB, i_bb, i_tt, i_ll, p_end, p_endN, ne_eq, rng0, Int.toNat_natCast, List.length_range, p_sumN, line]
  refine ⟨by omega, fm_map (as := g) (ea := encP) (eb := D.bool) Pl.isDraw (fun p _ => ?_) ?_⟩
  · simp only [x_skip, x_seq, x_asg, x_aug, x_ex, x_ite, x_for, x_ret, x_brk, x_cnt, t_var, t_tup, t_tupL, t_nil, t_cons, t_sub, n_var, n_tup, n_nil, n_cons, c_cons', c_lst, c_neg, c_tup, e_nil, e_cons, e_var, e_lit, e_tup, e_lst, e_neg, e_not, e_bin, e_cmp, e_and, e_or, e_ite, e_sub, e_slc, e_call, e_bi, e_isi, e_app, e_pop, e_comp, e_dcomp, i_sat, g_zero, g_succ, z_zero, z_succ, wipe_nil, wipe_cons, p_add, p_sub, p_mul, p_fdiv, p_mod, p_pow, p_addL, p_addT, p_auga, p_augs, q_lt, q_le, q_gt, q_ge, q_isN, q_isnotN, q_in, q_notin, q_in_ints, p_len, p_lenT, p_lenS, p_list, p_listT, p_int, p_intB, p_abs, p_range, p_range2, p_all, p_any, p_sum, p_gcd, p_append, p_items, p_itemsT, p_itemsS, p_subL, p_subT, at0, at1, at2, truth_b, lt_zero, lt_succ, ln_cons, ln_nil, p_slc, p_putL, true_and, and_true, decide_eq_true_eq, m_on, q_eqI, q_neI, Option.some.injEq, exists_eq_left', exists_eq_left, if_true, if_false, eq_self, Bool.false_eq_true, Bool.not_eq_true, List.length_map, reduceCtorEq, not_false_eq_true, sat_ite, s_ok, q_eqS, q_neS, q_eqB, q_neB, i_bb, i_tt, i_ll, p_end, p_endN, ne_eq, rng0, Int.toNat_natCast, List.length_range, p_sumN, line, p_kind]
    cases p with
    | draw m bs => show D.bool ((Str.ofString "draw") == Str.ofString "draw") = _; rw [k_dd]; rfl
    | side m o ts => show D.bool ((sideS o) == Str.ofString "draw") = _; rw [k_sd]; rfl
  have ead : (g.map Pl.isDraw).all id = allDraws g := by
    unfold allDraws
    rw [List.all_map]; rfl
  simp only [x_skip, x_seq, x_asg, x_aug, x_ex, x_ite, x_for, x_ret, x_brk, x_cnt, t_var, t_tup, t_tupL, t_nil, t_cons, t_sub, n_var, n_tup, n_nil, n_cons, c_cons', c_lst, c_neg, c_tup, e_nil, e_cons, e_var, e_lit, e_tup, e_lst, e_neg, e_not, e_bin, e_cmp, e_and, e_or, e_ite, e_sub, e_slc, e_call, e_bi, e_isi, e_app, e_pop, e_comp, e_dcomp, i_sat, g_zero, g_succ, z_zero, z_succ, wipe_nil, wipe_cons, p_add, p_sub, p_mul, p_fdiv, p_mod, p_pow, p_addL, p_addT, p_auga, p_augs, q_lt, q_le, q_gt, q_ge, q_isN, q_isnotN, q_in, q_notin, q_in_ints, p_len, p_lenT, p_lenS, p_list, p_listT, p_int, p_intB, p_abs, p_range, p_range2, p_all, p_any, p_sum, p_gcd, p_append, p_items, p_itemsT, p_itemsS, p_subL, p_subT, at0, at1, at2, truth_b, lt_zero, lt_succ, ln_cons, ln_nil, p_slc, p_putL, true_and, and_true, decide_eq_true_eq, m_on, q_eqI, q_neI, Option.some.injEq, exists_eq_left', exists_eq_left, if_true, if_false, eq_self, Bool.false_eq_true, Bool.not_eq_true, List.length_map, reduceCtorEq, not_false_eq_true, sat_ite, s_ok, q_eqS, q_neS, q_eqB, q_neB, i_bb, i_tt, i_ll, p_end, p_endN, ne_eq, rng0, Int.toNat_natCast, List.length_range, p_sumN, line, ead, truth_bb, p_repr, hr, hrep]
  simp
theorem c0 (n : Nat) : TgOk (calls fns (n + 1)) 0 := fun g k hk hz => by rw [calls_eq (fn := ⟨2, 7, aTargets⟩) rfl]; exact sp_targets hk hz
theorem c1 (n : Nat) : PlacesOk (calls fns (n + 1)) 1 := fun g kd h => by rw [calls_eq (fn := ⟨2, 4, aPlaces⟩) rfl]; exact sp_places h
theorem c5 (n : Nat) : DrawsOk (calls fns (n + 1)) 5 := fun ns c h1 h2 => by rw [calls_eq (fn := ⟨2, 9, aDraws⟩) rfl]; exact sp_drawsN h1 h2
theorem c6 (n : Nat) : GcdOk (calls fns (n + 1)) 6 := fun a b h => by rw [calls_eq (fn := ⟨2, 4, aGcd⟩) rfl]; exact sp_gcd h
theorem c7 (n : Nat) : NumOk (calls fns (n + 2)) 7 := fun a b h0 h1 h2 => by rw [calls_eq (fn := ⟨2, 3, aNumber 6⟩) rfl]; exact sp_number (c6 n) h0 h1 h2
theorem c8 (n : Nat) : PlaceOk (calls fns (n + 3)) 8 := fun ds many top h1 h2 h3 h4 => by rw [calls_eq (fn := ⟨3, 9, aPlace 7⟩) rfl]; exact sp_place (c7 n) h1 h2 h3 h4
theorem c9 (n : Nat) : GameOk (calls fns (n + 4)) 9 := fun ds most top h1 h2 h3 h4 => by rw [calls_eq (fn := ⟨3, 5, aGame 8⟩) rfl]; exact sp_game (c8 n) h1 h2 h3 h4
theorem c10 (n : Nat) : LTgOk (calls fns (n + 1)) 10 := fun p hz => by rw [calls_eq (fn := ⟨1, 3, aLTargets⟩) rfl]; exact sp_ltargets hz
theorem law_true : ∀ ns : List Int, ns.length ≤ 63 → runFn (calls fns 12) ⟨1, N13.length, b13⟩ [.scr ns] = .ok (.bool true) := fun ns hn => by
  refine sat_eq.mp (law_core (Φ := calls fns 12) (c0 11) (c1 11) (fun g a b => ?_) (fun g a => ?_) (fun g a b c d e => ?_) (c5 11) (c9 8) (c10 11) (fun g a b c d e => ?_) (fun l h => ?_) hn)
  · rw [calls_eq (fn := ⟨1, 4, aMarksOf⟩) rfl]; exact sp_marksOf a b
  · rw [calls_eq (fn := ⟨1, 1, aIsChain 1⟩) rfl]; exact sp_isChain (c1 10) a
  · rw [calls_eq (fn := ⟨2, 5, aReached 0⟩) rfl]; exact sp_reached (c0 10) b c d e
  · rw [calls_eq (fn := ⟨2, 6, aLReached 10⟩) rfl]; exact sp_lreached (c10 10) b c d e
  · rw [calls_eq (fn := ⟨1, 2, aIsList⟩) rfl]; exact sp_isList h
end Gk02
end

section
open PySem PySem.W PyProof.Rows
set_option maxHeartbeats 0 in
theorem PySem.Challenge.cw_oddcrown_k02_targets_and_marks_holds : PySem.Challenge.rw_oddcrown_k02_targets_and_marks.Holds := by
  w_on; o_law; k_head; (case hw => w_witness2)
  k_fill
  refine Rf.walk_law (l := PySem.Challenge.rw_oddcrown_k02_targets_and_marks) (n := 63) rfl (by decide) rfl (fun w h Y => PySem.W.kIn_of Y) ?F
  case F =>
    intro w mg fa h KX G hmg
    refine' Gk02.all_mk KX G hmg ?a0 ?l0 ?c0 ?k0 ?a1 ?l1 ?c1 ?k1 ?a2 ?l2 ?c2 ?k2 ?a3 ?l3 ?c3 ?k3 ?a4 ?l4 ?c4 ?k4 ?a5 ?l5 ?c5 ?k5 ?a6 ?l6 ?c6 ?k6 ?a7 ?l7 ?c7 ?k7 ?a8 ?l8 ?c8 ?k8 ?a9 ?l9 ?c9 ?k9 ?a10 ?l10 ?c10 ?k10 ?a11 ?l11 ?c11 ?k11 ?a12 ?l12 ?c12 ?k12 ?a13 ?l13 ?c13 ?k13 ?z0 ?z1 ?z2 ?z3 ?z4 ?z5 ?z6 ?z7 ?z8 ?z9 ?z10 ?z11 Gk02.law_true
    (case a0 => k_is)
    (case l0 => k_is)
    (case c0 => k_is)
    (case k0 => k_is)
    (case a1 => k_is)
    (case l1 => k_is)
    (case c1 => k_is)
    (case k1 => k_is)
    (case a2 => k_is)
    (case l2 => k_is)
    (case c2 => k_is)
    (case k2 => k_is)
    (case a3 => k_is)
    (case l3 => k_is)
    (case c3 => k_is)
    (case k3 => k_is)
    (case a4 => k_is)
    (case l4 => k_is)
    (case c4 => k_is)
    (case k4 => k_is)
    (case a5 => k_is)
    (case l5 => k_is)
    (case c5 => k_is)
    (case k5 => k_is)
    (case a6 => k_is)
    (case l6 => k_is)
    (case c6 => k_is)
    (case k6 => k_is)
    (case a7 => k_is)
    (case l7 => k_is)
    (case c7 => k_is)
    (case k7 => k_is)
    (case a8 => k_is)
    (case l8 => k_is)
    (case c8 => k_is)
    (case k8 => k_is)
    (case a9 => k_is)
    (case l9 => k_is)
    (case c9 => k_is)
    (case k9 => k_is)
    (case a10 => k_is)
    (case l10 => k_is)
    (case c10 => k_is)
    (case k10 => k_is)
    (case a11 => k_is)
    (case l11 => k_is)
    (case c11 => k_is)
    (case k11 => k_is)
    (case a12 => k_is)
    (case l12 => k_is)
    (case c12 => k_is)
    (case k12 => k_is)
    (case a13 => k_is)
    (case l13 => k_is)
    (case c13 => k_is)
    (case k13 => k_is)
    (case z0 => k_is)
    (case z1 => k_is)
    (case z2 => k_is)
    (case z3 => k_is)
    (case z4 => k_is)
    (case z5 => k_is)
    (case z6 => k_is)
    (case z7 => k_is)
    (case z8 => k_is)
    (case z9 => k_is)
    (case z10 => k_is)
    (case z11 => k_is)
end
