import PyProof.Rows.All
import HandS.ForMost
import HandS.TupAny
import HandS.IsInst
import HandS.Wide
import HandS.Deep
import PyProof.EqKinds
import PyProof.NeKinds
import HandS.RaiseMore
import HandS.Flow
import HandS.Exc
import HandS.WordsExc
import HandS.TryOnly
import PyProof.FactsAll.str_0
import PyProof.FactsAll.str_5
import PyProof.FactsAll.str_7
import PyProof.FactsAll.str_8
import PyProof.FactsAll.list_0
import PyProof.FactsAll.list_3
import KE.KRevSl
import HandS.Style
import HandS.Small
import HandS.Ends
import PySem.Challenge.RW_pausebook_k02_terms_changed_anywhere
section
set_option Elab.async false
set_option linter.all false
set_option maxRecDepth 100000
/-! IX1: own values, own heap, own code, the interpreter. -/
namespace IX
open PySem

/-- values: tuples are trees; lck: a list that is only read (the script); a ref is a place in the own heap -/
inductive D where
  | non | bl (b : Bool) | int (i : Int) | str (x : Str) | tup (xs : List D) | lck (xs : List D) | ref (a : Nat)
/-- objects: a list; a dict; an instance of a class -/
inductive O where
  | lst (xs : List D) | dic (kvs : List (D × D)) | ins (c : Nat) (fs : List (Str × D))
abbrev Hh := List O
inductive R (α : Type) where
  | ok (a : α) (h : Hh) | ex (c : Nat) (fs : List (Str × D)) (h : Hh) | bad
def R.bind {α β : Type} (m : R α) (f : α → Hh → R β) : R β := match m with
  | .ok a h => f a h
  | .ex c fs h => .ex c fs h
  | .bad => .bad

/-- nothing may be raised here -/
def R.calm {α : Type} (m : R α) : R α := match m with
  | .ok a h => .ok a h
  | _ => .bad

inductive Op where
  | add | sub | mul | fdiv | mod | pow | eq | ne | lt | le | gt | ge | isin | notin | is_ | isnot
inductive Ty where
  | int | bool | str | tuple | list | dict | own (c : Nat)
inductive Bi where
  | len | max | min | int | str | list | tuple | all | sorted | sortset | sum | repr | dict
inductive Me where
  | split | join | upper | append | insert | index | count | get | items | clear
/-- code: expressions; nil and cons build argument lists (nil is also: left out) -/
inductive E where
  | loc (i : Nat) | cst (d : D) | nil | cons (e r : E)
  | bop (o : Op) (a b : E) | cmp2 (o p : Op) (a b c : E) | neg (a : E) | not (a : E) | and (a b : E) | or (a b : E) | ite (c a b : E)
  | tup (es : E) | lst (es : E) | dic (es : E) | idx (a b : E) | slc (a lo hi : E) | rev (a : E)
  | isi (a : E) (ts : List Ty) | call (f : Nat) (es : E) | bi (b : Bi) (es : E) | me (m : Me) (a es : E)
  | meth (m : Nat) (a es : E) | fld (a : E) (f : Str) | mk (c : Nat) (es : E)
  | rng1 (a : E) | rng2 (a b : E) | enum (a : E) | zip (a b : E)
  | lc (elt : E) (g : List Nat) (tp : Bool) (it c : E)
inductive S where
  | skip | seq (a b : S) | set (i : Nat) (e : E) | unp (is : List Nat) (e : E) | exp (e : E) | ret (e : E) | ite (c : E) (a b : S)
  | whl (c : E) (b : S) | loop (g : List Nat) (tp : Bool) (it : E) (b : S) | brk | cnt
  | seti (a i e : E) | setf (a : E) (f : Str) (e : E) | aug (i : Nat) (o : Op) (e : E) | augf (a : E) (f : Str) (o : Op) (e : E)
abbrev St := List (Option D)
/-- how a statement ends -/
inductive Fl where
  | nx (σ : St) | rt (d : D) | bk (σ : St) | ct (σ : St)

/-- the most signs of a text, the most items of a list or tuple -/
abbrev line : Nat := 16777216

/-! ### operations -/
def O.seq? : O → Option (List D)
  | .lst xs => some xs
  | _ => none
/-- an object that == tells from scalars and from tuples -/
def O.plain : O → Bool
  | .lst _ => true
  | .dic _ => true
  | _ => false
/-- the items of a list -/
def listD (x : D) (h : Hh) : Option (List D) := match x with
  | .lck xs => some xs
  | .ref a => h[a]?.bind O.seq?
  | _ => none
/-- a new object -/
def R.new (o : O) (h : Hh) : R D := .ok (.ref h.length) (h ++ [o])
def strD (x : Str) (h : Hh) : R D := if x.length ≤ line then .ok (.str x) h else .bad
def addD (x y : D) (h : Hh) : R D := match x, y with
  | .int i, .int j => .ok (.int (i + j)) h
  | .str i, .str j => strD (i ++ j) h
  | .tup i, .tup j => if i.length + j.length ≤ line then .ok (.tup (i ++ j)) h else .bad
  | x, y => match listD x h, listD y h with
    | some xs, some ys => if xs.length + ys.length ≤ line then R.new (.lst (xs ++ ys)) h else .bad
    | _, _ => .bad
def subD (x y : D) (h : Hh) : R D := match x, y with
  | .int i, .int j => .ok (.int (i - j)) h
  | _, _ => .bad
def mulD (x y : D) (h : Hh) : R D := match x, y with
  | .int i, .int j => if i.natAbs < 2 ^ 64 ∨ j.natAbs < 2 ^ 64 then .ok (.int (i * j)) h else .bad
  | .ref a, .int k => match h[a]? with
    | some (.lst xs) => if -(2 ^ 62) ≤ k ∧ k ≤ 2 ^ 62 ∧ xs.length * k.toNat ≤ line then R.new (.lst (List.replicate k.toNat xs).flatten) h else .bad
    | _ => .bad
  | _, _ => .bad
def fdivD (x y : D) (h : Hh) : R D := match x, y with
  | .int i, .int j => if 0 < j ∧ j < 2 ^ 1000 then .ok (.int (i / j)) h else .bad
  | _, _ => .bad
def modD (x y : D) (h : Hh) : R D := match x, y with
  | .int i, .int j => if 0 < j then .ok (.int (i % j)) h else .bad
  | _, _ => .bad
def powD (x y : D) (h : Hh) : R D := match x, y with
  | .int i, .int j => if 0 ≤ j ∧ j ≤ 1000000 ∧ i.natAbs < 2 ^ 64 then .ok (.int (i ^ j.toNat)) h else .bad
  | _, _ => .bad
def eqL (f : D → D → Option Bool) : List D → List D → Option Bool
  | x :: xs, y :: ys => match f x y, eqL f xs ys with
    | some a, some b => some (a && b)
    | _, _ => none
  | _, _ => some true
/-- two objects -/
def eqRef (f : D → D → Option Bool) (h : Hh) (a b : Nat) : Option Bool := match h[a]?, h[b]? with
  | some oa, some ob => match oa.seq?, ob.seq? with
    | some xs, some ys => if xs.length = ys.length then eqL f xs ys else some false
    | some _, none => if ob.plain then some false else none
    | none, some _ => if oa.plain then some false else none
    | none, none => none
  | _, _ => none
/-- == : none where it is not told -/
def eqD (h : Hh) : Nat → D → D → Option Bool
  | 0, _, _ => none
  | n + 1, x, y => match x, y with
    | .non, .non => some true
    | .bl a, .bl b => some (a == b)
    | .bl a, .int b => some ((if a then 1 else 0) == b)
    | .int a, .bl b => some (a == (if b then 1 else 0))
    | .int a, .int b => some (a == b)
    | .str a, .str b => some (a == b)
    | .tup xs, .tup ys => (eqL (eqD h n) xs ys).map fun b => b && xs.length == ys.length
    | .ref a, .ref b => if a = b then (if (h[a]?.map O.plain) = some true then some true else none) else eqRef (eqD h n) h a b
    | .lck _, _ => none
    | _, .lck _ => none
    | .ref a, _ => if (h[a]?.map O.plain) = some true then some false else none
    | _, .ref b => if (h[b]?.map O.plain) = some true then some false else none
    | _, _ => some false
abbrev deep : Nat := 60
def isDic (h : Hh) : D → Bool
  | .ref a => match h[a]? with
    | some (.dic _) => true
    | _ => false
  | _ => false
/-- x == y, x != y as an expression's -/
def eqT (h : Hh) (x y : D) : Option Bool := match x, y with
  | .ref a, .ref b => if a = b then (if isDic h x then none else eqD h deep x y) else eqD h deep x y
  | x, y => eqD h deep x y
def neT (h : Hh) (x y : D) : Option Bool := if isDic h x || isDic h y then none else (eqT h x y).map (!·)
def bl! (b : Option Bool) (h : Hh) : R D := match b with
  | some b => .ok (.bl b) h
  | none => .bad
def neD (b : Option Bool) (h : Hh) : R D := match b with
  | some b => .ok (.bl (!b)) h
  | none => .bad
/-- some item is equal -/
def anyD (h : Hh) (x : D) : List D → Option Bool
  | [] => some false
  | y :: ys => match eqD h deep y x, anyD h x ys with
    | some a, some b => some (a || b)
    | _, _ => none
/-- a dict's key -/
def keyD : D → Option L2.Key
  | .int i => some (.inl i)
  | .str x => some (.inr x)
  | _ => none
def lookD (k : D) : List (D × D) → Option D
  | [] => none
  | (j, v) :: r => if keyD j = keyD k then some v else lookD k r
def putD (k v : D) (kvs : List (D × D)) : List (D × D) :=
  if (kvs.any fun p => decide (keyD p.1 = keyD k)) = true then kvs.map (fun p => if keyD p.1 = keyD k then (p.1, v) else p) else kvs ++ [(k, v)]
def inD (x y : D) (h : Hh) : Option Bool := match y with
  | .tup ys => anyD h x ys
  | .str z => match x with
    | .str a => some (!(Builtin.Str.occurrences z a 0 z.length 1).isEmpty)
    | _ => none
  | .ref a => match h[a]? with
    | some (.lst ys) => anyD h x ys
    | some (.dic kvs) => if (keyD x).isSome then some (lookD x kvs).isSome else none
    | _ => none
  | _ => none
/-- is: of None, True, False alone -/
def isD (x y : D) : Option Bool := match x, y with
  | _, .non => match x with
    | .non => some true
    | _ => some false
  | _, .bl b => match x with
    | .bl a => some (a == b)
    | _ => some false
  | _, _ => none
def cmpD (p : Int → Int → Bool) (x y : D) (h : Hh) : R D := match x, y with
  | .int i, .int j => .ok (.bl (p i j)) h
  | _, _ => .bad
def binop (o : Op) (x y : D) (h : Hh) : R D := match o with
  | .add => addD x y h | .sub => subD x y h | .mul => mulD x y h | .fdiv => fdivD x y h | .mod => modD x y h | .pow => powD x y h
  | .eq => bl! (eqT h x y) h | .ne => bl! (neT h x y) h
  | .lt => cmpD (fun i j => decide (i < j)) x y h | .le => cmpD (fun i j => decide (i ≤ j)) x y h
  | .gt => cmpD (fun i j => decide (j < i)) x y h | .ge => cmpD (fun i j => decide (j ≤ i)) x y h
  | .isin => bl! (inD x y h) h | .notin => neD (inD x y h) h
  | .is_ => bl! (isD x y) h | .isnot => neD (isD x y) h
def truth (x : D) (h : Hh) : Option Bool := match x with
  | .non => some false | .bl b => some b | .int i => some (i != 0) | .str x => some ((x.length : Int) != 0) | .tup xs => some (!xs.isEmpty) | .lck xs => some (!xs.isEmpty)
  | .ref a => match h[a]? with
    | some (.lst xs) => some (!xs.isEmpty)
    | some (.dic kvs) => some (!kvs.isEmpty)
    | _ => none
/-- x[i] -/
def idxD (x i : D) (h : Hh) : R D := match x, i with
  | .tup xs, .int i => match L2.atI xs i with
    | some v => .ok v h
    | none => .bad
  | .lck xs, .int i => match L2.atI xs i with
    | some v => .ok v h
    | none => .bad
  | .str z, .int i => match L2.atI z.cps.toList i with
    | some c => .ok (.str ⟨#[c]⟩) h
    | none => .bad
  | .ref a, k => match h[a]? with
    | some (.lst xs) => match k with
      | .int i => match L2.atI xs i with
        | some v => .ok v h
        | none => .bad
      | _ => .bad
    | some (.dic kvs) => if (keyD k).isSome then match lookD k kvs with
      | some v => .ok v h
      | none => .bad
      else .bad
    | _ => .bad
  | _, _ => .bad
/-- the items of xs[lo:hi] -/
def cutD (xs : List D) (lo hi : Option Int) : List D := (xs.drop (HT.sIx xs.length 0 lo)).take (HT.sIx xs.length xs.length hi - HT.sIx xs.length 0 lo)
def slcD (x : D) (lo hi : Option Int) (h : Hh) : R D := match x with
  | .tup xs => .ok (.tup (cutD xs lo hi)) h
  | .str z => .ok (.str (L2.cutS z lo hi)) h
  | x => match listD x h with
    | some xs => R.new (.lst (cutD xs lo hi)) h
    | none => .bad
def revD (x : D) (h : Hh) : R D := match x with
  | .tup xs => .ok (.tup xs.reverse) h
  | x => match listD x h with
    | some xs => R.new (.lst xs.reverse) h
    | none => .bad
def isTy (x : D) (h : Hh) (t : Ty) : Option Bool := match x with
  | .non => match t with
    | .own _ => none
    | _ => some false
  | .bl _ => match t with
    | .int => some true | .bool => some true | .own _ => none | _ => some false
  | .int _ => match t with
    | .int => some true | .own _ => none | _ => some false
  | .str _ => match t with
    | .str => some true | .own _ => none | _ => some false
  | .tup _ => match t with
    | .tuple => some true | .own _ => none | _ => some false
  | .lck _ => match t with
    | .list => some true | .own _ => none | _ => some false
  | .ref a => match h[a]? with
    | some (.lst _) => match t with
      | .list => some true | .own _ => none | _ => some false
    | some (.dic _) => match t with
      | .dict => some true | .own _ => none | _ => some false
    | _ => none
def isAny (x : D) (h : Hh) : List Ty → Option Bool
  | [] => some false
  | t :: ts => match isTy x h t, isAny x h ts with
    | some a, some b => some (a || b)
    | _, _ => none
/-- the items of what may be walked, and what has to stay meanwhile -/
def itemsD (x : D) (h : Hh) : Option (List D × Option (Nat × O)) := match x with
  | .tup xs => some (xs, none)
  | .lck xs => some (xs, none)
  | .str z => some (z.cps.toList.map fun c => .str ⟨#[c]⟩, none)
  | .ref a => match h[a]? with
    | some (.lst xs) => some (xs, some (a, .lst xs))
    | _ => none
  | _ => none
/-- .. by enumerate: of lists -/
def enumD (x : D) (h : Hh) : Option (List D × Option (Nat × O)) := match x with
  | .lck xs => some (xs, none)
  | .ref a => match h[a]? with
    | some (.lst xs) => some (xs, some (a, .lst xs))
    | _ => none
  | _ => none
def allBl : List D → Option Bool
  | [] => some true
  | .bl b :: r => (allBl r).map fun c => b && c
  | _ => none
def strsD : List D → Option (List Str)
  | [] => some []
  | .str x :: r => (strsD r).map fun c => x :: c
  | _ => none
def intsD : List D → Option (List Int)
  | [] => some []
  | .int x :: r => (intsD r).map fun c => x :: c
  | _ => none
/-- a text is less than another one -/
def ltS (x y : Str) : Bool := decide (x.cps.toList < y.cps.toList)
def insS (x : Str) : List Str → List Str
  | [] => [x]
  | y :: r => if ltS y x then y :: insS x r else x :: y :: r
def sortS : List Str → List Str
  | [] => []
  | x :: r => insS x (sortS r)
def biD (b : Bi) (as : List D) (h : Hh) : R D := match b, as with
  | .len, [.str z] => .ok (.int z.length) h
  | .len, [.tup xs] => .ok (.int xs.length) h
  | .len, [.lck xs] => .ok (.int xs.length) h
  | .len, [.ref a] => match h[a]? with
    | some (.lst xs) => .ok (.int xs.length) h
    | some (.dic kvs) => .ok (.int kvs.length) h
    | _ => .bad
  | .max, [.int i, .int j] => .ok (.int (if j > i then j else i)) h
  | .min, [.int i, .int j] => .ok (.int (if j < i then j else i)) h
  | .int, [.int i] => .ok (.int i) h
  | .int, [.bl k] => .ok (.int (if k then 1 else 0)) h
  | .int, [.str x] => match PySem.intText? x with
    | some n => if x.length ≤ 640 then .ok (.int n) h else .bad
    | none => .bad
  | .str, [.int i] => if i.natAbs.log2 < 1920 then strD (toString i) h else .bad
  | .str, [.str x] => .ok (.str x) h
  | .list, [.tup xs] => R.new (.lst xs) h
  | .list, [x] => match listD x h with
    | some xs => R.new (.lst xs) h
    | none => .bad
  | .tuple, [.tup xs] => .ok (.tup xs) h
  | .tuple, [x] => match listD x h with
    | some xs => .ok (.tup xs) h
    | none => .bad
  | .all, [.ref a] => match h[a]? with
    | some (.lst xs) => bl! (allBl xs) h
    | _ => .bad
  | .sorted, [.ref a] => match h[a]? with
    | some (.lst xs) => match strsD xs with
      | some ys => if ys.length < 64 then R.new (.lst ((sortS ys).map D.str)) h else .bad
      | none => .bad
    | _ => .bad
  | .dict, [] => R.new (.dic []) h
  | .dict, [.ref a] => match h[a]? with
    | some (.dic kvs) => R.new (.dic kvs) h
    | _ => .bad
  | _, _ => .bad
def meD (m : Me) (x : D) (as : List D) (h : Hh) : R D := match m, x, as with
  | .split, .str a, [.str b] => if b.length ≠ 0 ∧ a.length + 2 ≤ line ∧ (∀ y ∈ Txt.split a b, y.length ≤ line) then R.new (.lst ((Txt.split a b).map D.str)) h else .bad
  | .join, .str a, [.ref l] => match h[l]? with
    | some (.lst xs) => match strsD xs with
      | some ys => if (ys.map (·.length)).sum + ys.length * a.length ≤ line then strD (Txt.join a ys) h else .bad
      | none => .bad
    | _ => .bad
  | .upper, .str a, [] => if a.length ≤ 5592405 then strD (Txt.upper a) h else .bad
  | .append, .ref l, [y] => match h[l]? with
    | some (.lst xs) => if xs.length < line then .ok .non (h.set l (.lst (xs ++ [y]))) else .bad
    | _ => .bad
  | .get, .ref l, [k] => match h[l]? with
    | some (.dic kvs) => if (keyD k).isSome then .ok ((lookD k kvs).getD .non) h else .bad
    | _ => .bad
  | .get, .ref l, [k, d] => match h[l]? with
    | some (.dic kvs) => if (keyD k).isSome then .ok ((lookD k kvs).getD d) h else .bad
    | _ => .bad
  | .clear, .ref l, [] => match h[l]? with
    | some (.lst xs) => .ok .non (h.set l (.lst []))
    | some (.dic kvs) => .ok .non (h.set l (.dic []))
    | _ => .bad
  | _, _, _ => .bad
/-- the receiver of a built-in type's method -/
def meTy (m : Me) (x : D) (h : Hh) : Bool := match m with
  | .split => (match x with | .str _ => true | _ => false)
  | .join => (match x with | .str _ => true | _ => false)
  | .upper => (match x with | .str _ => true | _ => false)
  | .append => (match x with | .ref a => (match h[a]? with | some (.lst _) => true | _ => false) | _ => false)
  | .insert => (match x with | .ref a => (match h[a]? with | some (.lst _) => true | _ => false) | _ => false)
  | .get => (match x with | .ref a => (match h[a]? with | some (.dic _) => true | _ => false) | _ => false)
  | .items => (match x with | .ref a => (match h[a]? with | some (.dic _) => true | _ => false) | _ => false)
  | .clear => (match x with | .ref a => (match h[a]? with | some (.dic _) => true | _ => false) | _ => false)
  | _ => false
/-- o[i] = v -/
def setiD (x i v : D) (h : Hh) : R D := match x with
  | .ref a => match h[a]? with
    | some (.lst xs) => match i with
      | .int k => match L2.ixN xs.length k with
        | some j => .ok .non (h.set a (.lst (xs.set j v)))
        | none => .bad
      | _ => .bad
    | some (.dic kvs) => if (keyD i).isSome ∧ kvs.length < line then .ok .non (h.set a (.dic (putD i v kvs))) else .bad
    | _ => .bad
  | _ => .bad
def fldD (x : D) (f : Str) (h : Hh) : R D := match x with
  | .ref a => match h[a]? with
    | some (.ins _ fs) => match fs.lookup f with
      | some v => .ok v h
      | none => .bad
    | _ => .bad
  | _ => .bad
def putF (f : Str) (v : D) : List (Str × D) → List (Str × D)
  | [] => [(f, v)]
  | (g, x) :: r => if g = f then (g, v) :: r else (g, x) :: putF f v r
def setfD (x : D) (f : Str) (v : D) (h : Hh) : R D := match x with
  | .ref a => match h[a]? with
    | some (.ins c fs) => if fs.length < 1000 then .ok .non (h.set a (.ins c (putF f v fs))) else .bad
    | _ => .bad
  | _ => .bad
def pairs : List D → Option (List (D × D))
  | [] => some []
  | k :: v :: r => (pairs r).map fun q => (k, v) :: q
  | _ => none
def mergeD : List (D × D) → List (D × D) → List (D × D)
  | acc, [] => acc
  | acc, (k, v) :: r => mergeD (putD k v acc) r
/-- the items of an iterable, the object that has to stay -/
structure Its where
  xs : List D
  keep : Option (Nat × O)
def Its.stands (t : Its) (h : Hh) : Prop := match t.keep with
  | none => True
  | some (a, o) => h[a]? = some o
def setAll : List Nat → List D → St → Option St
  | [], [], σ => some σ
  | i :: is, x :: xs, σ => setAll is xs (σ.set i (some x))
  | _, _, _ => none
/-- a target: names; tp: a tuple of them -/
def target (g : List Nat) (tp : Bool) (x : D) (σ : St) (h : Hh) : Option St := match tp with
  | false => match g with
    | [i] => some (σ.set i (some x))
    | _ => none
  | true => match x with
    | .tup xs => setAll g xs σ
    | .ref a => match h[a]? with
      | some (.lst xs) => setAll g xs σ
      | _ => none
    | _ => none
/-- the slots of a comprehension's own names are forgotten -/
def wipeD (σ : St) : List Nat → St
  | [] => σ
  | v :: vs => (wipeD σ vs).set v none
section
open Classical
/-- a comprehension's turns -/
noncomputable def turns (f : D → Hh → R (Option D)) (t : Its) : List D → Hh → R (List D)
  | [], h => if t.stands h then .ok [] h else .bad
  | x :: r, h => if t.stands h then (f x h).bind fun y h1 => (turns f t r h1).bind fun ys h2 => match y with
      | some v => .ok (v :: ys) h2
      | none => .ok ys h2
    else .bad
noncomputable def loopF (f : D → St → Hh → R Fl) (t : Its) : List D → St → Hh → R Fl
  | [], σ, h => if t.stands h then .ok (.nx σ) h else .bad
  | x :: r, σ, h => if t.stands h then (f x σ h).bind fun fl h1 => match fl with
      | .nx σ1 => loopF f t r σ1 h1
      | .ct σ1 => loopF f t r σ1 h1
      | .bk σ1 => .ok (.nx σ1) h1
      | .rt d => .ok (.rt d) h1
    else .bad
end
def whileF (c : St → Hh → R D) (b : St → Hh → R Fl) : Nat → St → Hh → R Fl
  | 0, _, _ => .bad
  | n + 1, σ, h => (c σ h).bind fun x h0 => match truth x h0 with
    | some true => (b σ h0).bind fun fl h1 => match fl with
      | .nx σ1 => whileF c b n σ1 h1
      | .ct σ1 => whileF c b n σ1 h1
      | .bk σ1 => .ok (.nx σ1) h1
      | .rt d => .ok (.rt d) h1
    | some false => .ok (.nx σ) h0
    | none => .bad
abbrev rounds : Nat := 1000000000
abbrev Call := Nat → List D → Hh → R D
/-- the program: what a def's call does, the def of a class's method, the __init__ of a class -/
structure Pg where
  call : Call
  meth : Nat → Nat → Option Nat
  init : Nat → Option Nat
def asInt : D → Option Int
  | .int i => some i
  | _ => none
def enumFrom : Nat → List D → List D
  | _, [] => []
  | k, x :: r => .tup [.int (k : Int), x] :: enumFrom (k + 1) r
def small (i : Int) : Bool := decide (-(2 ^ 62) ≤ i) && decide (i < 2 ^ 62)
def rangeL (lo : Int) : Nat → List D
  | 0 => []
  | n + 1 => .int lo :: rangeL (lo + 1) n
def E.isNil : E → Bool
  | .nil => true
  | _ => false
def ptOf (e : E) (m : R D) (h : Hh) : R (Option Int) := match e with
  | .nil => .ok none h
  | _ => m.bind fun x h1 => match x with
    | .int i => .ok (some i) h1
    | _ => .bad
mutual
noncomputable def evalE (P : Pg) : E → St → Hh → R D
  | .loc i, σ, h => match σ[i]? with
    | some (some v) => .ok v h
    | _ => .bad
  | .cst d, _, h => .ok d h
  | .nil, _, _ => .bad
  | .cons _ _, _, _ => .bad
  | .bop o a b, σ, h => (evalE P a σ h).bind fun x h1 => (evalE P b σ h1).bind fun y h2 => binop o x y h2
  | .cmp2 o p a b c, σ, h => (evalE P a σ h).bind fun x h1 => (evalE P b σ h1).bind fun y h2 => (binop o x y h2).bind fun z h3 => match z with
    | .bl true => (evalE P c σ h3).bind fun w h4 => binop p y w h4
    | .bl false => .ok (.bl false) h3
    | _ => .bad
  | .neg a, σ, h => (evalE P a σ h).bind fun x h1 => match x with
    | .int i => .ok (.int (-i)) h1
    | _ => .bad
  | .not a, σ, h => (evalE P a σ h).bind fun x h1 => match truth x h1 with
    | some b => .ok (.bl (!b)) h1
    | none => .bad
  | .and a b, σ, h => (evalE P a σ h).bind fun x h1 => match truth x h1 with
    | some true => evalE P b σ h1
    | some false => .ok x h1
    | none => .bad
  | .or a b, σ, h => (evalE P a σ h).bind fun x h1 => match truth x h1 with
    | some true => .ok x h1
    | some false => evalE P b σ h1
    | none => .bad
  | .ite c a b, σ, h => (evalE P c σ h).bind fun x h1 => match truth x h1 with
    | some true => evalE P a σ h1
    | some false => evalE P b σ h1
    | none => .bad
  | .tup es, σ, h => (evalEs P es σ h).bind fun xs h1 => if xs.length ≤ line then .ok (.tup xs) h1 else .bad
  | .lst es, σ, h => (evalEs P es σ h).bind fun xs h1 => if xs.length ≤ line then R.new (.lst xs) h1 else .bad
  | .dic es, σ, h => (evalEs P es σ h).bind fun xs h1 => match pairs xs with
    | some kvs => if kvs.length ≤ 15 ∧ kvs.all (fun p => (keyD p.1).isSome) = true then R.new (.dic (mergeD [] kvs)) h1 else .bad
    | none => .bad
  | .idx a b, σ, h => (evalE P a σ h).bind fun x h1 => (evalE P b σ h1).bind fun y h2 => idxD x y h2
  | .slc a lo hi, σ, h => (evalE P a σ h).bind fun x h1 => (ptOf lo (evalE P lo σ h1) h1).bind fun l h2 => (ptOf hi (evalE P hi σ h2) h2).bind fun u h3 => slcD x l u h3
  | .rev a, σ, h => (evalE P a σ h).bind fun x h1 => revD x h1
  | .isi a ts, σ, h => (evalE P a σ h).bind fun x h1 => bl! (isAny x h1 ts) h1
  | .call f es, σ, h => (evalEs P es σ h).bind fun xs h1 => P.call f xs h1
  | .bi b es, σ, h => (evalEs P es σ h).bind fun xs h1 => biD b xs h1
  | .me m a es, σ, h => (evalE P a σ h).bind fun x h1 => if meTy m x h1 = true then (evalEs P es σ h1).bind fun xs h2 => meD m x xs h2 else .bad
  | .meth m a es, σ, h => (evalE P a σ h).bind fun x h1 => match x with
    | .ref p => match h1[p]? with
      | some (.ins c _) => match P.meth c m with
        | some f => (evalEs P es σ h1).bind fun xs h2 => P.call f (.ref p :: xs) h2
        | none => .bad
      | _ => .bad
    | _ => .bad
  | .fld a f, σ, h => (evalE P a σ h).bind fun x h1 => fldD x f h1
  | .mk c es, σ, h => (evalEs P es σ h).bind fun xs h1 => match P.init c with
    | some f => (P.call f (.ref h1.length :: xs) (h1 ++ [.ins c []])).bind fun v h2 => match v with
      | .non => .ok (.ref h1.length) h2
      | _ => .bad
    | none => .bad
  | .rng1 _, _, _ => .bad
  | .rng2 _ _, _, _ => .bad
  | .enum _, _, _ => .bad
  | .zip _ _, _, _ => .bad
  | .lc elt g tp it c, σ, h => (evalItM P it (evalE P it σ) σ h).bind fun t h1 => if t.xs.length ≤ line then (turns (fun x h2 => match target g tp x (wipeD σ g) h2 with
      | some σ2 => if c.isNil = true then (evalE P elt σ2 h2).bind fun y h4 => .ok (some y) h4
        else (evalE P c σ2 h2).bind fun z h3 => match truth z h3 with
          | some true => (evalE P elt σ2 h3).bind fun y h4 => .ok (some y) h4
          | some false => .ok none h3
          | none => .bad
      | none => .bad) t t.xs h1).calm.bind fun ys h5 => R.new (.lst ys) h5 else .bad
noncomputable def evalEs (P : Pg) : E → St → Hh → R (List D)
  | .nil, _, h => .ok [] h
  | .cons e r, σ, h => (evalE P e σ h).bind fun x h1 => (evalEs P r σ h1).bind fun xs h2 => .ok (x :: xs) h2
  | _, _, _ => .bad
/-- what is walked -/
noncomputable def evalItM (P : Pg) : E → (Hh → R D) → St → Hh → R Its
  | .rng1 a, _, σ, h => (evalE P a σ h).bind fun x h1 => match x with
    | .int j => if small j = true then .ok ⟨rangeL 0 j.toNat, none⟩ h1 else .bad
    | _ => .bad
  | .rng2 a b, _, σ, h => (evalE P a σ h).bind fun x h1 => (evalE P b σ h1).bind fun y h2 => match x, y with
    | .int i, .int j => if small i = true ∧ small j = true then .ok ⟨rangeL i (j - i).toNat, none⟩ h2 else .bad
    | _, _ => .bad
  | .enum a, _, σ, h => (evalE P a σ h).bind fun x h1 => match enumD x h1 with
    | some (xs, k) => .ok ⟨enumFrom 0 xs, k⟩ h1
    | none => .bad
  | .zip _ _, _, _, _ => .bad
  | _, m, _, h => (m h).bind fun x h1 => match itemsD x h1 with
    | some (xs, k) => .ok ⟨xs, k⟩ h1
    | none => .bad
end
noncomputable abbrev evalIt (P : Pg) (e : E) (σ : St) (h : Hh) : R Its := evalItM P e (evalE P e σ) σ h
/-- a slice's part -/
noncomputable abbrev evalPt (P : Pg) (e : E) (σ : St) (h : Hh) : R (Option Int) := ptOf e (evalE P e σ h) h
noncomputable def exec (P : Pg) : S → St → Hh → R Fl
  | .skip, σ, h => .ok (.nx σ) h
  | .seq a b, σ, h => (exec P a σ h).bind fun fl h1 => match fl with
    | .nx σ1 => exec P b σ1 h1
    | fl => .ok fl h1
  | .set i e, σ, h => (evalE P e σ h).bind fun x h1 => .ok (.nx (σ.set i (some x))) h1
  | .unp is e, σ, h => (evalE P e σ h).bind fun x h1 => match target is true x σ h1 with
    | some σ1 => .ok (.nx σ1) h1
    | none => .bad
  | .exp e, σ, h => (evalE P e σ h).bind fun _ h1 => .ok (.nx σ) h1
  | .ret e, σ, h => (evalE P e σ h).bind fun x h1 => .ok (.rt x) h1
  | .ite c a b, σ, h => (evalE P c σ h).bind fun x h1 => match truth x h1 with
    | some true => exec P a σ h1
    | some false => exec P b σ h1
    | none => .bad
  | .whl c b, σ, h => whileF (evalE P c) (exec P b) rounds σ h
  | .loop g tp it b, σ, h => (evalIt P it σ h).bind fun t h1 => loopF (fun x σ2 h2 => match target g tp x σ2 h2 with
      | some σ3 => exec P b σ3 h2
      | none => .bad) t t.xs σ h1
  | .brk, σ, h => .ok (.bk σ) h
  | .cnt, σ, h => .ok (.ct σ) h
  | .seti a i e, σ, h => (evalE P e σ h).bind fun v h1 => (evalE P a σ h1).bind fun x h2 => (evalE P i σ h2).bind fun k h3 => (setiD x k v h3).bind fun _ h4 => .ok (.nx σ) h4
  | .setf a f e, σ, h => (evalE P e σ h).bind fun v h1 => (evalE P a σ h1).bind fun x h2 => (setfD x f v h2).bind fun _ h3 => .ok (.nx σ) h3
  | .aug i o e, σ, h => match σ[i]? with
    | some (some v) => (evalE P e σ h).bind fun y h1 => (binop o v y h1).bind fun z h2 => .ok (.nx (σ.set i (some z))) h2
    | _ => .bad
  | .augf a f o e, σ, h => (evalE P a σ h).bind fun x h1 => (fldD x f h1).bind fun v h2 => (evalE P e σ h2).bind fun y h3 => (binop o v y h3).bind fun z h4 => (setfD x f z h4).bind fun _ h5 => .ok (.nx σ) h5

/-! ### defs -/
structure Def where
  np : Nat
  nl : Nat
  body : S
mutual
/-- no ref within -/
def D.pure : D → Bool
  | .ref _ => false
  | .tup xs => D.pureL xs
  | .lck xs => D.pureL xs
  | _ => true
def D.pureL : List D → Bool
  | [] => true
  | x :: r => x.pure && D.pureL r
end
def O.flat : O → Bool
  | .lst xs => D.pureL xs
  | .dic kvs => D.pureL (kvs.map (·.1)) && D.pureL (kvs.map (·.2))
  | .ins _ fs => D.pureL (fs.map (·.2))
/-- no elder object has come to hold something new -/
def OkOld (h h' : Hh) : Prop := ∀ (i : Nat) (o : O), h[i]? = some o → ∃ o' : O, h'[i]? = some o' ∧ (o' = o ∨ o'.flat = true)
open Classical in
/-- behind a call what nobody can come to is forgotten -/
noncomputable def gc (h : Hh) (v : D) (h' : Hh) : Hh := if v.pure = true ∧ OkOld h h' then h'.take h.length else h'
noncomputable def leave (h : Hh) (r : R Fl) : R D := match r with
  | .ok (.rt v) h' => .ok v (gc h v h')
  | .ok (.nx _) h' => .ok .non (gc h .non h')
  | .ok _ _ => .bad
  | .ex c fs h' => .ex c fs h'
  | .bad => .bad
structure Tbl where
  fn : Nat → Option Def
  meth : Nat → Nat → Option Nat
  init : Nat → Option Nat
def start (d : Def) (as : List D) : St := as.map some ++ List.replicate (d.nl - as.length) none
noncomputable def callF (T : Tbl) : Nat → Call
  | 0 => fun _ _ _ => .bad
  | n + 1 => fun f as h => match T.fn f with
    | some d => if as.length = d.np then leave h (exec ⟨callF T n, T.meth, T.init⟩ d.body (start d as) h) else .bad
    | none => .bad
end IX
end

section
set_option Elab.async false
set_option linter.all false
set_option maxRecDepth 100000
set_option maxHeartbeats 1000000
/-! IX2: how the own values and the own heap stand for the model's. -/
namespace IX
open PySem PySem.Spec PyProof.Rows L2

abbrev Rho := List Addr
/-- a list that is only read: locked, or the module's own -/
def SqF (K : PySem.W.Frag) (H : Hp) (a : Addr) (xs : List V) : Prop :=
  (∃ o, H a = some (.frz o (.lst xs))) ∨
    ∃ (o : Obj) (its : Array Value) (n : Nat), K.lookup a = some o ∧ o.cls = .type "list" ∧ o.dict = none ∧ o.data = .seq its n ∧ its.size ≤ sizeLine ∧ Vals xs its.toList
theorem SqF.sql {K : PySem.W.Frag} {H : Hp} {a : Addr} {xs : List V} (s : SqF K H a xs) : SqL K H a xs := by
  rcases s with s | s
  · exact .inl (.inr s)
  · exact .inr s
mutual
/-- the value v stands for d -/
inductive Rep (K : PySem.W.Frag) (ρ : Rho) (H : Hp) : D → V → Prop
  | non : Rep K ρ H .non .non
  | bl (b : Bool) : Rep K ρ H (.bl b) (.bl b)
  | int (i : Int) : Rep K ρ H (.int i) (.int i)
  | str (x : Str) : x.length ≤ line → Rep K ρ H (.str x) (.str x)
  | tup {p : Addr} {ds : List D} {vs : List V} : SqT K H p vs → Reps K ρ H ds vs → Rep K ρ H (.tup ds) (.ref p)
  | lck {p : Addr} {ds : List D} {vs : List V} : SqF K H p vs → Reps K ρ H ds vs → Rep K ρ H (.lck ds) (.ref p)
  | ref {a : Nat} {p : Addr} : ρ[a]? = some p → Rep K ρ H (.ref a) (.ref p)
inductive Reps (K : PySem.W.Frag) (ρ : Rho) (H : Hp) : List D → List V → Prop
  | nil : Reps K ρ H [] []
  | cons {d : D} {ds : List D} {v : V} {vs : List V} : Rep K ρ H d v → Reps K ρ H ds vs → Reps K ρ H (d :: ds) (v :: vs)
end
/-- named values -/
inductive RepF (K : PySem.W.Frag) (ρ : Rho) (H : Hp) : List (Str × D) → List (Str × V) → Prop
  | nil : RepF K ρ H [] []
  | cons {f : Str} {d : D} {ds : List (Str × D)} {v : V} {vs : List (Str × V)} : Rep K ρ H d v → RepF K ρ H ds vs → RepF K ρ H ((f, d) :: ds) ((f, v) :: vs)
/-- pairs of a dict -/
inductive RepK (K : PySem.W.Frag) (ρ : Rho) (H : Hp) : List (D × D) → List (Key × V) → Prop
  | nil : RepK K ρ H [] []
  | cons {k : D} {j : Key} {d : D} {ds : List (D × D)} {v : V} {vs : List (Key × V)} : keyD k = some j → Rep K ρ H k (kV j) → Rep K ρ H d v → RepK K ρ H ds vs → RepK K ρ H ((k, d) :: ds) ((j, v) :: vs)
def ORel (K : PySem.W.Frag) (cl : Nat → Option Addr) (ρ : Rho) (H : Hp) (o : O) (p : Addr) : Prop := match o with
  | .lst ds => ∃ vs, H p = some (.lst vs) ∧ Reps K ρ H ds vs
  | .dic kvs => ∃ ks, H p = some (.dK ks) ∧ RepK K ρ H kvs ks
  | .ins c fs => ∃ C dx gs, cl c = some C ∧ H p = some (.ins C dx gs) ∧ RepF K ρ H fs gs
structure HRel (K : PySem.W.Frag) (cl : Nat → Option Addr) (ρ : Rho) (H : Hp) (h : Hh) : Prop where
  len : ρ.length = h.length
  inj : ∀ (a b : Nat) (p : Addr), ρ[a]? = some p → ρ[b]? = some p → a = b
  obj : ∀ (a : Nat) (p : Addr) (o : O), ρ[a]? = some p → h[a]? = some o → ORel K cl ρ H o p
/-- what the values lean on -/
structure Kp (K : PySem.W.Frag) (ρ : Rho) (H : Hp) (ρ' : Rho) (H' : Hp) : Prop where
  rho : ∀ (a : Nat) (p : Addr), ρ[a]? = some p → ρ'[a]? = some p
  tup : ∀ p vs, SqT K H p vs → SqT K H' p vs
  lck : ∀ p vs, SqF K H p vs → SqF K H' p vs
/-- what is kept from one moment to a later one -/
structure Keep (K : PySem.W.Frag) (ρ : Rho) (H : Hp) (ρ' : Rho) (H' : Hp) : Prop where
  rho : ∀ (a : Nat) (p : Addr), ρ[a]? = some p → ρ'[a]? = some p
  tup : ∀ p vs, SqT K H p vs → SqT K H' p vs
  lck : ∀ p vs, SqF K H p vs → SqF K H' p vs
  other : ∀ (p : Addr), H p ≠ none → (∀ a : Nat, ρ[a]? ≠ some p) → H' p = H p ∧ ∀ a : Nat, ρ'[a]? ≠ some p
section
variable {K : PySem.W.Frag} {cl : Nat → Option Addr} {ρ ρ1 ρ2 : Rho} {H H1 H2 : Hp} {h h1 : Hh} {p q : Addr} {o : HO}
theorem Keep.refl : Keep K ρ H ρ H := ⟨fun _ _ e => e, fun _ _ e => e, fun _ _ e => e, fun _ _ h => ⟨rfl, h⟩⟩
theorem Keep.trans (a : Keep K ρ H ρ1 H1) (b : Keep K ρ1 H1 ρ2 H2) : Keep K ρ H ρ2 H2 := ⟨fun _ _ e => b.rho _ _ (a.rho _ _ e), fun _ _ e => b.tup _ _ (a.tup _ _ e), fun _ _ e => b.lck _ _ (a.lck _ _ e), fun p n h => by
  obtain ⟨e1, h1⟩ := a.other p n h
  obtain ⟨e2, h2⟩ := b.other p (by rw [e1]; exact n) h1
  exact ⟨e2.trans e1, h2⟩⟩
mutual
theorem Rep.kp (k : Kp K ρ H ρ1 H1) : ∀ {d : D} {v : V}, Rep K ρ H d v → Rep K ρ1 H1 d v
  | _, _, .non => .non
  | _, _, .bl b => .bl b
  | _, _, .int i => .int i
  | _, _, .str x z => .str x z
  | _, _, .tup s r => .tup (k.tup _ _ s) (Reps.kp k r)
  | _, _, .lck s r => .lck (k.lck _ _ s) (Reps.kp k r)
  | _, _, .ref e => .ref (k.rho _ _ e)
theorem Reps.kp (k : Kp K ρ H ρ1 H1) : ∀ {d : List D} {v : List V}, Reps K ρ H d v → Reps K ρ1 H1 d v
  | _, _, .nil => .nil
  | _, _, .cons a r => .cons (Rep.kp k a) (Reps.kp k r)
end
theorem RepF.kp (k : Kp K ρ H ρ1 H1) : ∀ {d : List (Str × D)} {v : List (Str × V)}, RepF K ρ H d v → RepF K ρ1 H1 d v
  | _, _, .nil => .nil
  | _, _, .cons a r => .cons (a.kp k) (RepF.kp k r)
theorem RepK.kp (k : Kp K ρ H ρ1 H1) : ∀ {d : List (D × D)} {v : List (Key × V)}, RepK K ρ H d v → RepK K ρ1 H1 d v
  | _, _, .nil => .nil
  | _, _, .cons e a b r => .cons e (a.kp k) (b.kp k) (RepK.kp k r)
theorem Keep.kp (k : Keep K ρ H ρ1 H1) : Kp K ρ H ρ1 H1 := ⟨k.rho, k.tup, k.lck⟩
theorem Rep.keep (k : Keep K ρ H ρ1 H1) {d : D} {v : V} (r : Rep K ρ H d v) : Rep K ρ1 H1 d v := r.kp k.kp
theorem Reps.keep (k : Keep K ρ H ρ1 H1) {d : List D} {v : List V} (r : Reps K ρ H d v) : Reps K ρ1 H1 d v := r.kp k.kp
theorem RepF.keep (k : Keep K ρ H ρ1 H1) {d : List (Str × D)} {v : List (Str × V)} (r : RepF K ρ H d v) : RepF K ρ1 H1 d v := r.kp k.kp
theorem RepK.keep (k : Keep K ρ H ρ1 H1) {d : List (D × D)} {v : List (Key × V)} (r : RepK K ρ H d v) : RepK K ρ1 H1 d v := r.kp k.kp
/-- no tuple, nothing locked stands there -/
def Soft (H : Hp) (p : Addr) : Prop := ∀ o, H p = some o → (∀ vs, o ≠ .tup vs) ∧ ∀ ob u, o ≠ .frz ob u
theorem Soft.none (e : H p = none) : Soft H p := fun o z => by rw [e] at z; cases z
theorem Soft.lst {vs : List V} (e : H p = some (.lst vs)) : Soft H p := fun o z => by rw [e] at z; cases z; exact ⟨fun _ z => (nomatch z), fun _ _ z => (nomatch z)⟩
theorem Soft.dK {vs : List (Key × V)} (e : H p = some (.dK vs)) : Soft H p := fun o z => by rw [e] at z; cases z; exact ⟨fun _ z => (nomatch z), fun _ _ z => (nomatch z)⟩
theorem Soft.ins {C dx : Addr} {vs : List (Str × V)} (e : H p = some (.ins C dx vs)) : Soft H p := fun o z => by rw [e] at z; cases z; exact ⟨fun _ z => (nomatch z), fun _ _ z => (nomatch z)⟩
theorem Rd.upd {u : HO} (s : Soft H p) (hu : (∃ vs, u = .tup vs) ∨ q ≠ p) (r : Rd H q u) : Rd (upd H p o) q u := by
  have ne : q ≠ p := by
    rcases hu with ⟨vs, rfl⟩ | hu
    · rintro rfl
      rcases r with r | ⟨ob, r⟩
      · exact (s _ r).1 _ rfl
      · exact (s _ r).2 _ _ rfl
    · exact hu
  rcases r with r | ⟨ob, r⟩
  · exact .inl (by rw [upd_ne ne]; exact r)
  · exact .inr ⟨ob, by rw [upd_ne ne]; exact r⟩
theorem SqT.upd {vs : List V} (s : Soft H p) (r : SqT K H q vs) : SqT K (upd H p o) q vs := by
  rcases r with r | r
  · exact .inl (Rd.upd s (.inl ⟨_, rfl⟩) r)
  · exact .inr r
theorem SqF.upd {vs : List V} (s : Soft H p) (r : SqF K H q vs) : SqF K (L2.upd H p o) q vs := by
  rcases r with ⟨ob, r⟩ | r
  · have ne : q ≠ p := by
      rintro rfl
      exact (s _ r).2 _ _ rfl
    exact .inl ⟨ob, by rw [upd_ne ne]; exact r⟩
  · exact .inr r
theorem Keep.new (n : H p = none) : Keep K ρ H ρ (upd H p o) := ⟨fun _ _ e => e, fun _ _ e => SqT.upd (Soft.none n) e, fun _ _ e => SqF.upd (Soft.none n) e, fun q hq f => ⟨upd_ne (fun z => hq (z ▸ n)), f⟩⟩
theorem Keep.wr {a : Nat} (ea : ρ[a]? = some p) (s : Soft H p) : Keep K ρ H ρ (upd H p o) := ⟨fun _ _ e => e, fun _ _ e => SqT.upd s e, fun _ _ e => SqF.upd s e, fun q _ f => ⟨upd_ne (fun z => f a (z ▸ ea)), f⟩⟩
theorem ORel.at (k : Keep K ρ H ρ1 H1) {a : O} (same : H1 q = H q) (r : ORel K cl ρ H a q) : ORel K cl ρ1 H1 a q := by
  cases a with
  | lst ds => obtain ⟨vs, e, r⟩ := r; exact ⟨vs, same.trans e, r.keep k⟩
  | dic ds => obtain ⟨vs, e, r⟩ := r; exact ⟨vs, same.trans e, r.keep k⟩
  | ins c fs => obtain ⟨C, dx, gs, c, e, r⟩ := r; exact ⟨C, dx, gs, c, same.trans e, r.keep k⟩
theorem ORel.kp (k : Kp K ρ H ρ1 H1) {a : O} (same : H1 q = H q) (r : ORel K cl ρ H a q) : ORel K cl ρ1 H1 a q := by
  cases a with
  | lst ds => obtain ⟨vs, e, r⟩ := r; exact ⟨vs, same.trans e, r.kp k⟩
  | dic ds => obtain ⟨vs, e, r⟩ := r; exact ⟨vs, same.trans e, r.kp k⟩
  | ins c fs => obtain ⟨C, dx, gs, c, e, r⟩ := r; exact ⟨C, dx, gs, c, same.trans e, r.kp k⟩
theorem HRel.lt (r : HRel K cl ρ H h) {a : Nat} (e : ρ[a]? = some p) : a < h.length := by
  rw [← r.len]; exact (List.getElem?_eq_some_iff.mp e).1
theorem HRel.get (r : HRel K cl ρ H h) {a : Nat} (e : ρ[a]? = some p) : ∃ o, h[a]? = some o ∧ ORel K cl ρ H o p := by
  have z := r.lt e
  exact ⟨h[a], List.getElem?_eq_getElem z, r.obj a p _ e (List.getElem?_eq_getElem z)⟩
/-- something beside is laid (a tuple): the own heap stays -/
theorem HRel.beside (r : HRel K cl ρ H h) (n : H p = none) : HRel K cl ρ (upd H p o) h := by
  refine ⟨r.len, r.inj, fun a q ob e eo => ?_⟩
  have x := r.obj a q ob e eo
  have ne : ∀ u, H q = some u → q ≠ p := fun u z => ne_of_none z n
  cases ob with
  | lst ds => obtain ⟨vs, e, r⟩ := x; exact ⟨vs, by rw [upd_ne (ne _ e)]; exact e, r.keep (Keep.new n)⟩
  | dic ds => obtain ⟨vs, e, r⟩ := x; exact ⟨vs, by rw [upd_ne (ne _ e)]; exact e, r.keep (Keep.new n)⟩
  | ins c fs => obtain ⟨C, dx, gs, c, e, r⟩ := x; exact ⟨C, dx, gs, c, by rw [upd_ne (ne _ e)]; exact e, r.keep (Keep.new n)⟩
/-- where nothing new may stand -/
theorem HRel.notin (r : HRel K cl ρ H h) (n : H p = none) (a : Nat) : ρ[a]? ≠ some p := fun e => by
  obtain ⟨o, _, x⟩ := r.get e
  cases o with
  | lst ds => obtain ⟨vs, e, r⟩ := x; rw [n] at e; cases e
  | dic ds => obtain ⟨vs, e, r⟩ := x; rw [n] at e; cases e
  | ins c fs => obtain ⟨C, dx, gs, c, e, r⟩ := x; rw [n] at e; cases e
theorem Keep.push {p : Addr} (n : H p = none) : Keep K ρ H (ρ ++ [p]) (upd H p o) := ⟨fun a q e => by rw [List.getElem?_append_left (List.getElem?_eq_some_iff.mp e).1]; exact e, fun _ _ e => SqT.upd (Soft.none n) e, fun _ _ e => SqF.upd (Soft.none n) e,
  fun q hq f => ⟨upd_ne (fun z => hq (z ▸ n)), fun a e => by
    by_cases h1 : a < ρ.length
    · rw [List.getElem?_append_left h1] at e; exact f a e
    · have z := (List.getElem?_eq_some_iff.mp e).1
      rw [List.length_append] at z
      have : ([p] : List Addr).length = 1 := rfl
      rw [List.getElem?_append_right (by omega), (by omega : a - ρ.length = 0)] at e
      cases e
      exact hq n⟩⟩
/-- a new object of the own heap -/
theorem HRel.push (r : HRel K cl ρ H h) (n : H p = none) {a : O} (x : ORel K cl (ρ ++ [p]) (upd H p o) a p) : HRel K cl (ρ ++ [p]) (upd H p o) (h ++ [a]) := by
  have kp : Keep K ρ H (ρ ++ [p]) (upd H p o) := Keep.push n
  refine ⟨by rw [List.length_append, List.length_append, r.len]; rfl, fun a b q e1 e2 => ?_, fun b q ob e eo => ?_⟩
  · by_cases h1 : a < ρ.length
    · by_cases h2 : b < ρ.length
      · rw [List.getElem?_append_left h1] at e1
        rw [List.getElem?_append_left h2] at e2
        exact r.inj a b q e1 e2
      · rw [List.getElem?_append_left h1] at e1
        rw [List.getElem?_append_right (by omega)] at e2
        have z := (List.getElem?_eq_some_iff.mp e2).1
        have : b - ρ.length = 0 := by simpa using z
        rw [this] at e2
        cases e2
        exact absurd e1 (r.notin n a)
    · have z1 := (List.getElem?_eq_some_iff.mp e1).1
      rw [List.length_append] at z1
      have z1' : a = ρ.length := by
        have : ([p] : List Addr).length = 1 := rfl
        omega
      by_cases h2 : b < ρ.length
      · rw [List.getElem?_append_right (by omega)] at e1
        have : a - ρ.length = 0 := by omega
        rw [this] at e1
        cases e1
        rw [List.getElem?_append_left h2] at e2
        exact absurd e2 (r.notin n b)
      · have z2 := (List.getElem?_eq_some_iff.mp e2).1
        rw [List.length_append] at z2
        have : ([p] : List Addr).length = 1 := rfl
        omega
  · by_cases h1 : b < ρ.length
    · rw [List.getElem?_append_left h1] at e
      rw [List.getElem?_append_left (by rw [← r.len]; exact h1)] at eo
      have x := r.obj b q ob e eo
      exact x.at kp (upd_ne fun z => r.notin n b (z ▸ e))
    · have z2 := (List.getElem?_eq_some_iff.mp e).1
      rw [List.length_append] at z2
      have : ([p] : List Addr).length = 1 := rfl
      have hb : b = ρ.length := by omega
      subst hb
      rw [List.getElem?_append_right (Nat.le_refl _), Nat.sub_self] at e
      cases e
      rw [List.getElem?_append_right (Nat.le_of_eq r.len.symm), r.len, Nat.sub_self] at eo
      cases eo
      exact x
/-- an object beside is taken in -/
theorem HRel.take (r : HRel K cl ρ H h) (n : ∀ a : Nat, ρ[a]? ≠ some p) {a : O} (x : ORel K cl (ρ ++ [p]) H a p) : HRel K cl (ρ ++ [p]) H (h ++ [a]) := by
  have kp : Kp K ρ H (ρ ++ [p]) H := ⟨fun a q e => by rw [List.getElem?_append_left (List.getElem?_eq_some_iff.mp e).1]; exact e, fun _ _ e => e, fun _ _ e => e⟩
  refine ⟨by rw [List.length_append, List.length_append, r.len]; rfl, fun a b q e1 e2 => ?_, fun b q ob e eo => ?_⟩
  · by_cases h1 : a < ρ.length
    · by_cases h2 : b < ρ.length
      · rw [List.getElem?_append_left h1] at e1
        rw [List.getElem?_append_left h2] at e2
        exact r.inj a b q e1 e2
      · rw [List.getElem?_append_left h1] at e1
        rw [List.getElem?_append_right (by omega)] at e2
        have z := (List.getElem?_eq_some_iff.mp e2).1
        have : b - ρ.length = 0 := by simpa using z
        rw [this] at e2
        cases e2
        exact absurd e1 (n a)
    · have z1 := (List.getElem?_eq_some_iff.mp e1).1
      rw [List.length_append] at z1
      have z1' : a = ρ.length := by
        have : ([p] : List Addr).length = 1 := rfl
        omega
      by_cases h2 : b < ρ.length
      · rw [List.getElem?_append_right (by omega)] at e1
        have : a - ρ.length = 0 := by omega
        rw [this] at e1
        cases e1
        rw [List.getElem?_append_left h2] at e2
        exact absurd e2 (n b)
      · have z2 := (List.getElem?_eq_some_iff.mp e2).1
        rw [List.length_append] at z2
        have : ([p] : List Addr).length = 1 := rfl
        omega
  · by_cases h1 : b < ρ.length
    · rw [List.getElem?_append_left h1] at e
      rw [List.getElem?_append_left (by rw [← r.len]; exact h1)] at eo
      have x := r.obj b q ob e eo
      exact x.kp kp rfl
    · have z2 := (List.getElem?_eq_some_iff.mp e).1
      rw [List.length_append] at z2
      have : ([p] : List Addr).length = 1 := rfl
      have hb : b = ρ.length := by omega
      subst hb
      rw [List.getElem?_append_right (Nat.le_refl _), Nat.sub_self] at e
      cases e
      rw [List.getElem?_append_right (Nat.le_of_eq r.len.symm), r.len, Nat.sub_self] at eo
      cases eo
      exact x
/-- something beside is written -/
theorem Kp.side (s : Soft H p) : Kp K ρ H ρ (upd H p o) := ⟨fun _ _ e => e, fun _ _ e => SqT.upd s e, fun _ _ e => SqF.upd s e⟩
theorem HRel.side (r : HRel K cl ρ H h) (n : ∀ a : Nat, ρ[a]? ≠ some p) (s : Soft H p) : HRel K cl ρ (upd H p o) h :=
  ⟨r.len, r.inj, fun a q ob e eo => (r.obj a q ob e eo).kp (Kp.side s) (upd_ne fun z => n a (z ▸ e))⟩
theorem Keep.side (k : Keep K ρ H ρ1 H1) (n : H p = none) (s : Soft H1 p) : Keep K ρ H ρ1 (upd H1 p o) :=
  ⟨k.rho, fun q vs e => SqT.upd s (k.tup q vs e), fun q vs e => SqF.upd s (k.lck q vs e), fun q hq f => ⟨(upd_ne fun z : q = p => hq (z ▸ n)).trans (k.other q hq f).1, (k.other q hq f).2⟩⟩
theorem Keep.take (k : Keep K ρ H ρ1 H1) (n : H p = none) : Keep K ρ H (ρ1 ++ [p]) H1 :=
  ⟨fun a q e => by
    have e1 := k.rho a q e
    rw [List.getElem?_append_left (List.getElem?_eq_some_iff.mp e1).1]; exact e1, k.tup, k.lck, fun q hq f => ⟨(k.other q hq f).1, fun a e => by
    by_cases h1 : a < ρ1.length
    · rw [List.getElem?_append_left h1] at e; exact (k.other q hq f).2 a e
    · have z := (List.getElem?_eq_some_iff.mp e).1
      rw [List.length_append] at z
      have : ([p] : List Addr).length = 1 := rfl
      rw [List.getElem?_append_right (by omega), (by omega : a - ρ1.length = 0)] at e
      cases e
      exact hq n⟩⟩
/-- an object of the own heap is written -/
theorem HRel.write (r : HRel K cl ρ H h) {a : Nat} (e : ρ[a]? = some p) (s : Soft H p) {ob : O} (x : ORel K cl ρ (upd H p o) ob p) : HRel K cl ρ (upd H p o) (h.set a ob) := by
  refine ⟨by rw [List.length_set]; exact r.len, r.inj, fun b q oq eq eo => ?_⟩
  by_cases hb : a = b
  · subst hb
    rw [e] at eq; cases eq
    rw [List.getElem?_set_self (r.lt e)] at eo
    cases eo
    exact x
  · rw [List.getElem?_set_ne hb] at eo
    have ne : q ≠ p := fun z => hb (r.inj a b p e (z ▸ eq))
    exact (r.obj b q oq eq eo).at (Keep.wr e s) (upd_ne ne)
end
end IX
end

section
set_option Elab.async false
set_option linter.all false
set_option maxRecDepth 100000
set_option maxHeartbeats 1000000
/-! IX3: readings of the code; the operators. -/
namespace IX
open PySem PySem.Spec PyProof.Rows L2

/-! ### what is wanted behind a run -/
def WR {α : Type} (m : R α) (k : α → Hh → Prop) (x : Nat → List (Str × D) → Hh → Prop) : Prop := match m with
  | .ok a h => k a h
  | .ex c fs h => x c fs h
  | .bad => False
theorem WR.imp {α : Type} {m : R α} {k k' : α → Hh → Prop} {x x' : Nat → List (Str × D) → Hh → Prop} (w : WR m k x) (hk : ∀ a h, k a h → k' a h) (hx : ∀ c fs h, x c fs h → x' c fs h) : WR m k' x' := by
  cases m with
  | ok a h => exact hk a h w
  | ex c fs h => exact hx c fs h w
  | bad => exact w
theorem WR.bnd {α β : Type} {m : R α} {f : α → Hh → R β} {k : β → Hh → Prop} {x : Nat → List (Str × D) → Hh → Prop} (w : WR (m.bind f) k x) : WR m (fun a h => WR (f a h) k x) x := by
  cases m with
  | ok a h => exact w
  | ex c fs h => exact w
  | bad => exact w
section
variable (K : PySem.W.Frag) (cl : Nat → Option Addr)
/-- a value comes -/
def PostE (ρ : Rho) (H : Hp) (Q : VK) (d : D) (h' : Hh) : Prop := ∀ (ρ' : Rho) (H' : Hp) (v : V), Keep K ρ H ρ' H' → HRel K cl ρ' H' h' → Rep K ρ' H' d v → Q v H'
def PostB (ρ : Rho) (H : Hp) (Q : Hp → Prop) (h' : Hh) : Prop := ∀ (ρ' : Rho) (H' : Hp), Keep K ρ H ρ' H' → HRel K cl ρ' H' h' → Q H'
def PostA (ρ : Rho) (H : Hp) (Q : List V → Hp → Prop) (d : List D) (h' : Hh) : Prop := ∀ (ρ' : Rho) (H' : Hp) (v : List V), Keep K ρ H ρ' H' → HRel K cl ρ' H' h' → Reps K ρ' H' d v → Q v H'
/-- an exception comes -/
def PostX (ρ : Rho) (H : Hp) (E : XK) (c : Nat) (fs : List (Str × D)) (h' : Hh) : Prop := ∀ (ρ' : Rho) (H' : Hp), Keep K ρ H ρ' H' → HRel K cl ρ' H' h' →
  ∃ C, cl c = some C ∧ ((fs = [] ∧ E (.ref C) none H') ∨ (fs ≠ [] ∧ ∀ d gs, H' d = some (.xd gs) → RepF K ρ' H' fs gs → E (.ref C) (some d) H'))
end
section
variable {K : PySem.W.Frag} {cl : Nat → Option Addr} {ρ ρ1 : Rho} {H H1 : Hp} {h h1 : Hh}
theorem PostE.keep {Q : VK} {d : D} {h' : Hh} (p : PostE K cl ρ H Q d h') (k : Keep K ρ H ρ1 H1) : PostE K cl ρ1 H1 Q d h' := fun ρ' H' v k' r q => p ρ' H' v (k.trans k') r q
theorem PostB.keep {Q : Hp → Prop} {h' : Hh} (p : PostB K cl ρ H Q h') (k : Keep K ρ H ρ1 H1) : PostB K cl ρ1 H1 Q h' := fun ρ' H' k' r => p ρ' H' (k.trans k') r
theorem PostA.keep {Q : List V → Hp → Prop} {d : List D} {h' : Hh} (p : PostA K cl ρ H Q d h') (k : Keep K ρ H ρ1 H1) : PostA K cl ρ1 H1 Q d h' := fun ρ' H' v k' r q => p ρ' H' v (k.trans k') r q
theorem PostX.keep {E : XK} {c : Nat} {fs : List (Str × D)} {h' : Hh} (p : PostX K cl ρ H E c fs h') (k : Keep K ρ H ρ1 H1) : PostX K cl ρ1 H1 E c fs h' := fun ρ' H' k' r => p ρ' H' (k.trans k') r
theorem wrE {Q : VK} {E : XK} {m : R D} (w : WR m (PostE K cl ρ H Q) (PostX K cl ρ H E)) (k : Keep K ρ H ρ1 H1) : WR m (PostE K cl ρ1 H1 Q) (PostX K cl ρ1 H1 E) := w.imp (fun _ _ p => p.keep k) fun _ _ _ p => p.keep k
end
/-- the slots -/
structure SRel (K : PySem.W.Frag) (ρ : Rho) (H : Hp) (τ : IX.St) (σ : L2.St) : Prop where
  len : τ.length = σ.length
  at_ : ∀ (i : Nat) (d : D), τ[i]? = some (some d) → ∃ v, σ[i]? = some (some v) ∧ Rep K ρ H d v
theorem SRel.keep {K : PySem.W.Frag} {ρ ρ1 : Rho} {H H1 : Hp} {τ : IX.St} {σ : L2.St} (s : SRel K ρ H τ σ) (k : Keep K ρ H ρ1 H1) : SRel K ρ1 H1 τ σ :=
  ⟨s.len, fun i d e => let ⟨v, a, b⟩ := s.at_ i d e; ⟨v, a, b.keep k⟩⟩
theorem SRel.set {K : PySem.W.Frag} {ρ : Rho} {H : Hp} {τ : IX.St} {σ : L2.St} (s : SRel K ρ H τ σ) {d : D} {v : V} (r : Rep K ρ H d v) (i : Nat) : SRel K ρ H (τ.set i (some d)) (σ.set i (some v)) := by
  refine ⟨by rw [List.length_set, List.length_set]; exact s.len, fun j e q => ?_⟩
  by_cases hj : i = j
  · subst hj
    by_cases hl : i < τ.length
    · rw [List.getElem?_set_self hl] at q
      cases q
      exact ⟨v, List.getElem?_set_self (by rw [← s.len]; exact hl), r⟩
    · rw [List.getElem?_eq_none (by rw [List.length_set]; omega)] at q
      cases q
  · rw [List.getElem?_set_ne hj] at q ⊢
    exact s.at_ j e q

/-! ### lists and tuples read -/
section
variable {K : PySem.W.Frag} {cl : Nat → Option Addr} {ρ : Rho} {H : Hp} {h : Hh}
theorem Reps.length : ∀ {ds : List D} {vs : List V}, Reps K ρ H ds vs → ds.length = vs.length
  | _, _, .nil => rfl
  | _, _, .cons _ r => congrArg Nat.succ (Reps.length r)
theorem Reps.append : ∀ {ds es : List D} {vs us : List V}, Reps K ρ H ds vs → Reps K ρ H es us → Reps K ρ H (ds ++ es) (vs ++ us)
  | _, _, _, _, .nil, s => s
  | _, _, _, _, .cons a r, s => .cons a (Reps.append r s)
theorem Reps.get : ∀ {ds : List D} {vs : List V} {i : Nat} {d : D}, Reps K ρ H ds vs → ds[i]? = some d → ∃ v, vs[i]? = some v ∧ Rep K ρ H d v
  | _, _, i, _, .nil, e => by simp at e
  | _, _, 0, _, .cons a r, e => by simp at e; subst e; exact ⟨_, rfl, a⟩
  | _, _, i + 1, _, .cons a r, e => by
    simp at e
    obtain ⟨v, e1, q⟩ := Reps.get r e
    exact ⟨v, by simpa using e1, q⟩
theorem Reps.take : ∀ {ds : List D} {vs : List V} (n : Nat), Reps K ρ H ds vs → Reps K ρ H (ds.take n) (vs.take n)
  | _, _, 0, _ => .nil
  | _, _, _ + 1, .nil => .nil
  | _, _, n + 1, .cons a r => .cons a (Reps.take n r)
theorem Reps.drop : ∀ {ds : List D} {vs : List V} (n : Nat), Reps K ρ H ds vs → Reps K ρ H (ds.drop n) (vs.drop n)
  | _, _, 0, r => r
  | _, _, _ + 1, .nil => .nil
  | _, _, n + 1, .cons _ r => Reps.drop n r
theorem Reps.reverse {ds : List D} {vs : List V} (r : Reps K ρ H ds vs) : Reps K ρ H ds.reverse vs.reverse := by
  induction r using Reps.rec (motive_1 := fun _ _ _ => True) with
  | nil => exact .nil
  | cons a r _ ih =>
    rw [List.reverse_cons, List.reverse_cons]
    exact ih.append (.cons a .nil)
  | _ => trivial
theorem Reps.set {d : D} {v : V} (a : Rep K ρ H d v) : ∀ {ds : List D} {vs : List V} (j : Nat), Reps K ρ H ds vs → Reps K ρ H (ds.set j d) (vs.set j v)
  | _, _, _, .nil => .nil
  | _, _, 0, .cons _ r => .cons a r
  | _, _, j + 1, .cons b r => .cons b (Reps.set a j r)
/-- an index's item -/
theorem Reps.atI {ds : List D} {vs : List V} {i : Int} {d : D} (r : Reps K ρ H ds vs) (e : L2.atI ds i = some d) : ∃ v, L2.atI vs i = some v ∧ Rep K ρ H d v := by
  unfold L2.atI at e ⊢
  rw [← r.length]
  cases q : L2.ixN ds.length i with
  | none => rw [q] at e; cases e
  | some j =>
    rw [q] at e
    obtain ⟨v, e1, q1⟩ := r.get (show ds[j]? = some d from e)
    exact ⟨v, e1, q1⟩
/-- a list: its items as they are read -/
theorem listD_rel (hr : HRel K cl ρ H h) {d : D} {x : V} {xs : List D} (r : Rep K ρ H d x) (e : listD d h = some xs) : ∃ a vs, x = .ref a ∧ SqL K H a vs ∧ Reps K ρ H xs vs := by
  cases r with
  | lck s q => cases e; exact ⟨_, _, rfl, s.sql, q⟩
  | @ref a p ea =>
    obtain ⟨o, eo, x⟩ := hr.get ea
    have e2 : h[a]?.bind O.seq? = some xs := e
    rw [eo] at e2
    cases o with
    | lst ds =>
      cases e2
      obtain ⟨vs, e3, q⟩ := x
      exact ⟨p, vs, rfl, SqL.of e3, q⟩
    | dic _ => cases e2
    | ins _ _ => cases e2
  | _ => cases e
/-- the object at a list's place -/
theorem obj_lst (hr : HRel K cl ρ H h) {a : Nat} {p : Addr} {ds : List D} (ea : ρ[a]? = some p) (e : h[a]? = some (.lst ds)) : ∃ vs, H p = some (.lst vs) ∧ Reps K ρ H ds vs := hr.obj a p _ ea e
theorem obj_dic (hr : HRel K cl ρ H h) {a : Nat} {p : Addr} {ds : List (D × D)} (ea : ρ[a]? = some p) (e : h[a]? = some (.dic ds)) : ∃ vs, H p = some (.dK vs) ∧ RepK K ρ H ds vs := hr.obj a p _ ea e
/-- a new list -/
theorem new_lst {Q : VK} {ds : List D} {vs : List V} {x : Nat → List (Str × D) → Hh → Prop} (hr : HRel K cl ρ H h) (r : Reps K ρ H ds vs) (w : WR (R.new (.lst ds) h) (PostE K cl ρ H Q) x) (p : Addr) (n : H p = none) : Q (.ref p) (upd H p (.lst vs)) := by
  have kp : Keep K ρ H (ρ ++ [p]) (upd H p (.lst vs)) := Keep.push n
  refine w (ρ ++ [p]) (upd H p (.lst vs)) (.ref p) kp ?_ (.ref (by rw [← hr.len, List.getElem?_append_right (Nat.le_refl _), Nat.sub_self]; rfl))
  exact hr.push n ⟨vs, upd_same, r.keep kp⟩
theorem new_dic {Q : VK} {ds : List (D × D)} {vs : List (Key × V)} {x : Nat → List (Str × D) → Hh → Prop} (hr : HRel K cl ρ H h) (r : RepK K ρ H ds vs) (w : WR (R.new (.dic ds) h) (PostE K cl ρ H Q) x) (p : Addr) (n : H p = none) : Q (.ref p) (upd H p (.dK vs)) := by
  have kp : Keep K ρ H (ρ ++ [p]) (upd H p (.dK vs)) := Keep.push n
  refine w (ρ ++ [p]) (upd H p (.dK vs)) (.ref p) kp ?_ (.ref (by rw [← hr.len, List.getElem?_append_right (Nat.le_refl _), Nat.sub_self]; rfl))
  exact hr.push n ⟨vs, upd_same, r.keep kp⟩
/-- a new tuple -/
theorem new_tup {Q : VK} {ds : List D} {vs : List V} (hr : HRel K cl ρ H h) (r : Reps K ρ H ds vs) (w : PostE K cl ρ H Q (.tup ds) h) (p : Addr) (n : H p = none) : Q (.ref p) (upd H p (.tup vs)) :=
  w ρ (upd H p (.tup vs)) (.ref p) (Keep.new n) (hr.beside n) (.tup (SqT.of upd_same) (r.keep (Keep.new n)))
/-- the same value, nothing done -/
theorem PostE.now {Q : VK} {d : D} {v : V} (hr : HRel K cl ρ H h) (r : Rep K ρ H d v) (w : PostE K cl ρ H Q d h) : Q v H := w ρ H v Keep.refl hr r
end

/-! ### operators by value -/
def rB (K : PySem.W.Frag) (cl : Nat → Option Addr) (o : Op) : R2 := fun x y H Q => ∃ ρ h d e z, HRel K cl ρ H h ∧ Rep K ρ H d x ∧ Rep K ρ H e y ∧ WR (binop o d e h) (PostE K cl ρ H Q) z
section
variable {X : Cx} {cl : Nat → Option Addr}
def rCatL (K : PySem.W.Frag) : R2 := fun x y H Q => ∃ l b xs zs, x = .ref l ∧ y = .ref b ∧ SqL K H l xs ∧ SqL K H b zs ∧ xs.length + zs.length ≤ sizeLine ∧ ∀ p, H p = none → Q (.ref p) (upd H p (.lst (xs ++ zs)))
theorem op_catL : OpR X (binaryOp .Add) (rCatL X.K) := by
  intro pins s σ H x y v u Q I rx ry h
  obtain ⟨l, b, xs, zs, rfl, rfl, hH, hB, hz, q⟩ := h
  cases rx
  cases ry
  obtain ⟨its, r, pl, hl⟩ := I.list hH
  obtain ⟨its2, r2, pl2, hl2⟩ := I.list hB
  have z1 := r.length
  have z2 := r2.length
  obtain ⟨⟨cls, dd, data, sl⟩, ho, hc, n, hd⟩ := id pl.isList
  obtain ⟨⟨cls2, dd2, data2, sl2⟩, ho2, hc2, n2, hd2⟩ := id pl2.isList
  simp only at hc hd hc2 hd2
  subst hc hd hc2 hd2
  have e : its.toArray ++ its2.toArray = (its ++ its2).toArray := by simp
  refine concat_meets ⟨_, ho, rfl⟩ ⟨_, ho2, rfl⟩ noFill_list_add seq_list_add F.slot_list_add F.entry_list_add (F.args_list_add_2 _ _) (list_addW l b its.toArray its2.toArray n n2 dd dd2 sl sl2 (by rw [List.size_toArray, List.size_toArray]; omega)) ⟨ho, ho2, ?_⟩
  rw [e]
  exact ⟨.ref _, _, I.lnew (t' := s.toks) (r.append r2) (by rw [List.length_append]; omega), rfl, q _ I.fresh⟩
theorem op_addB : OpR X (binaryOp .Add) (rB X.K cl .add) := by
  intro pins s σ H x y v u Q I rx ry h
  obtain ⟨ρ, h, d, e, z, hr, r1, r2, w⟩ := h
  have hl : sizeLine = line := sizeLine_eq
  have byList : ∀ m, addD d e h = m → (m = match listD d h, listD e h with
    | some xs, some ys => if xs.length + ys.length ≤ line then R.new (.lst (xs ++ ys)) h else .bad
    | _, _ => .bad) → wpAny (model X.prog X.w) X.A (binaryOp .Add v u) (EP X pins σ Q) X.xe s := fun m e1 e2 => by
    have w1 : WR (addD d e h) (PostE X.K cl ρ H Q) z := w
    rw [e1, e2] at w1
    cases q1 : listD d h with
    | none => rw [q1] at w1; exact (show False from w1).elim
    | some xs =>
      cases q2 : listD e h with
      | none => rw [q1, q2] at w1; exact (show False from w1).elim
      | some ys =>
        rw [q1, q2] at w1
        dsimp only at w1
        by_cases c : xs.length + ys.length ≤ line
        · rw [if_pos c] at w1
          obtain ⟨a, vs, rfl, s1, t1⟩ := listD_rel hr r1 q1
          obtain ⟨b, us, rfl, s2, t2⟩ := listD_rel hr r2 q2
          exact op_catL pins s σ H _ _ v u Q I rx ry ⟨a, b, vs, us, rfl, rfl, s1, s2, by rw [← t1.length, ← t2.length, hl]; exact c, fun p n => new_lst hr (t1.append t2) w1 p n⟩
        · rw [if_neg c] at w1; exact (show False from w1).elim
  cases r1 with
  | int i =>
    cases r2 with
    | int j => exact op_add pins s σ H _ _ v u Q I rx ry ⟨i, j, rfl, rfl, PostE.now hr (.int _) w⟩
    | _ => exact byList _ rfl rfl
  | str i z1 =>
    cases r2 with
    | str j z2 =>
      have w1 : WR (strD (i ++ j) h) (PostE X.K cl ρ H Q) z := w
      unfold strD at w1
      by_cases c : (i ++ j).length ≤ line
      · rw [if_pos c] at w1
        exact op_add_str pins s σ H _ _ v u Q I rx ry ⟨i, j, rfl, rfl, by rw [← PySem.Str.length_append, hl]; exact c, PostE.now hr (.str _ c) w1⟩
      · rw [if_neg c] at w1; exact (show False from w1).elim
    | _ => exact byList _ rfl rfl
  | @tup a ds vs s1 t1 =>
    cases r2 with
    | @tup b es us s2 t2 =>
      have w1 : WR (if ds.length + es.length ≤ line then R.ok (.tup (ds ++ es)) h else .bad) (PostE X.K cl ρ H Q) z := w
      by_cases c : ds.length + es.length ≤ line
      · rw [if_pos c] at w1
        refine op_catA pins s σ H _ _ v u Q I rx ry ⟨a, b, vs, us, rfl, rfl, s1, s2, by rw [← t1.length, ← t2.length, hl]; exact c, fun e => ?_, fun _ e => ?_, fun _ _ p n => new_tup hr (t1.append t2) w1 p n⟩
        · have q := t1.append t2
          rw [e, List.nil_append] at q
          exact PostE.now hr (.tup s2 q) w1
        · have q := t1.append t2
          rw [e, List.append_nil] at q
          exact PostE.now hr (.tup s1 q) w1
      · rw [if_neg c] at w1; exact (show False from w1).elim
    | _ => exact byList _ rfl rfl
  | _ => cases r2 <;> exact byList _ rfl rfl
end
end IX
end

section
set_option Elab.async false
set_option linter.all false
set_option maxRecDepth 100000
set_option maxHeartbeats 2000000
/-! IXq: a dict against what is no dict. -/
namespace IX
open PySem PySem.Spec PyProof.Rows PySem.SeqAt PySem.Calls
open AutoSeq1 (wpAny_loadPart')
open MeetsSeq
/-- an object that is a plain dict -/
def IsD (h : Heap) (a : Addr) : Prop := ∃ o es ep, h.get? a = some o ∧ o.ExactDict ∧ o.data = .dict es ep
theorem IsD.type {s : Shared} {a : Addr} (d : IsD s.heap a) : s.TypeIs (.ref a) "dict" := by
  obtain ⟨o, es, ep, e, x, _⟩ := d
  exact ⟨o, e, x.1⟩
section
variable {prog : Program} {w : World} {A : Around} {E : Value → Shared → Prop} {s : Shared}
theorem dict_declines {a : Addr} {b : Value} {T : String} {Q : Value → Shared → Prop} (d : IsD s.heap a) (hT : s.TypeIs b T) (hs : isSubtype (.type T) (.type "dict") = pure false) (hq : Q .notImplemented s) :
    wpAny (model prog w) A (call (.builtin "dict.__eq__") [.ref a, b]) Q E s := by
  refine wpAny_call_entry PySem.F.slot_dict_eq d.type PySem.F.entry_dict_eq ?_ (PySem.F.args_dict_eq_2 _ _)
  show wpAny _ _ (Builtin.Dict.dictSlotArgs "__eq__" ⟨[.ref a, b], []⟩ >>= _) _ _ s
  refine wpAny_bind ?_
  unfold Builtin.Dict.dictSlotArgs
  refine wpAny_bind (wpAny_notOrdered_dict d.type ?_)
  show wpAny _ _ (pure (Value.ref a, b)) _ _ s
  refine wpAny_pure ?_
  refine wpAny_bind (wpAny_isInstance hT hs ?_)
  simp only [Bool.not_false, if_true]
  exact wpAny_bind (wpAny_rule (wpAny_pure ⟨_, rfl, hq⟩))
theorem str_declines (b : Str) (u : Tok) (l : Addr) (dd : Option Addr) (es : Array DictEntry) (ep : Nat) (sl : Array (Option Value)) :
    Meets (Builtin.«str.__eq__» ⟨[.str b u, .ref l], []⟩) (fun _ R s => s.heap.get? l = some { cls := .type "dict", dict := dd, data := .dict es ep, slots := sl } ∧ R (.ok (.ret .notImplemented)) s) :=
  .of_wp fun prog w A R s h => by obtain ⟨hp, g, d, tk, os⟩ := s; obtain ⟨hl, h⟩ := h; wp_walk using wpAny_loadPart' hl, wpAny_load hl; exact ⟨_, rfl, h⟩
theorem int_declines (b : Int) (u : Tok) (l : Addr) (dd : Option Addr) (es : Array DictEntry) (ep : Nat) (sl : Array (Option Value)) :
    Meets (Builtin.«int.__eq__» ⟨[.int b u, .ref l], []⟩) (fun _ R s => s.heap.get? l = some { cls := .type "dict", dict := dd, data := .dict es ep, slots := sl } ∧ R (.ok (.ret .notImplemented)) s) :=
  .of_wp fun prog w A R s h => by obtain ⟨hp, g, d, tk, os⟩ := s; obtain ⟨hl, h⟩ := h; wp_walk using wpAny_loadPart' hl, wpAny_load hl; exact ⟨_, rfl, h⟩
theorem bool_declines (b : Bool) (l : Addr) (dd : Option Addr) (es : Array DictEntry) (ep : Nat) (sl : Array (Option Value)) :
    Meets (Builtin.«int.__eq__» ⟨[.bool b, .ref l], []⟩) (fun _ R s => s.heap.get? l = some { cls := .type "dict", dict := dd, data := .dict es ep, slots := sl } ∧ R (.ok (.ret .notImplemented)) s) :=
  .of_wp fun prog w A R s h => by obtain ⟨hp, g, d, tk, os⟩ := s; obtain ⟨hl, h⟩ := h; wp_walk using wpAny_loadPart' hl, wpAny_load hl; exact ⟨_, rfl, h⟩
theorem list_declines (l b : Addr) (items : Array Value) (n : Nat) (dd dd2 : Option Addr) (sl sl2 : Array (Option Value)) (es : Array DictEntry) (ep : Nat) :
    Meets (Builtin.«list.__eq__» ⟨[.ref l, .ref b], []⟩) (fun _ R s => s.heap.get? l = some { cls := .type "list", dict := dd, data := .seq items n, slots := sl } ∧ s.heap.get? b = some { cls := .type "dict", dict := dd2, data := .dict es ep, slots := sl2 } ∧ R (.ok (.ret .notImplemented)) s) :=
  .of_wp fun prog w A R s h => by obtain ⟨hp, g, d, tk, os⟩ := s; obtain ⟨hl, hb, h⟩ := h; have f1 := F.sub_dict_list; wp_walk using wpAny_loadPart' hl, wpAny_loadPart' hb; exact ⟨_, rfl, h⟩
theorem tuple_declines (l b : Addr) (items : Array Value) (n : Nat) (dd dd2 : Option Addr) (sl sl2 : Array (Option Value)) (es : Array DictEntry) (ep : Nat) :
    Meets (Builtin.«tuple.__eq__» ⟨[.ref l, .ref b], []⟩) (fun _ R s => s.heap.get? l = some { cls := .type "tuple", dict := dd, data := .seq items n, slots := sl } ∧ s.heap.get? b = some { cls := .type "dict", dict := dd2, data := .dict es ep, slots := sl2 } ∧ R (.ok (.ret .notImplemented)) s) :=
  .of_wp fun prog w A R s h => by obtain ⟨hp, g, d, tk, os⟩ := s; obtain ⟨hl, hb, h⟩ := h; have f1 := F.sub_dict_tuple; wp_walk using wpAny_loadPart' hl, wpAny_loadPart' hb; exact ⟨_, rfl, h⟩
theorem rc_dict_str {a : Addr} (b : Str) (u : Tok) (d : IsD s.heap a) (hu : A.units < cLine) : RcAt A s (.ref a) (.str b u) false := fun prog w E Q h => by
  obtain ⟨⟨c, dd, data, sl⟩, es, ep, e, x, z⟩ := id d
  obtain ⟨x1, x2, x3⟩ := x
  simp only at x1 z
  subst x1 z
  exact rc_eq_decline_or (k := false) d.type (typeIs_str s b u) (by decide) F.sub_str_dict F.slot_dict_eq F.slot_str_eq_refl
    (fun _ hq => dict_declines d (typeIs_str s b u) F.sub_str_dict hq)
    (fun _ hq => call_meets F.slot_str_eq_refl (typeIs_str s b u) F.entry_str_eq (F.args_str_eq_2 _ _) (str_declines b u a dd es ep sl) ⟨e, hq⟩)
    (fun _ hq => wpAny_of_eq (rfl : isSame (.ref a) (.str b u) = pure false) hq) (.inr hu) h
theorem rc_str_dict {a : Addr} (b : Str) (u : Tok) (d : IsD s.heap a) (hu : A.units < cLine) : RcAt A s (.str b u) (.ref a) false := fun prog w E Q h => by
  obtain ⟨⟨c, dd, data, sl⟩, es, ep, e, x, z⟩ := id d
  obtain ⟨x1, x2, x3⟩ := x
  simp only at x1 z
  subst x1 z
  exact rc_eq_decline_or (k := false) (typeIs_str s b u) d.type (by decide) F.sub_dict_str F.slot_str_eq F.slot_dict_eq_refl
    (fun _ hq => call_meets F.slot_str_eq (typeIs_str s b u) F.entry_str_eq (F.args_str_eq_2 _ _) (str_declines b u a dd es ep sl) ⟨e, hq⟩)
    (fun _ hq => dict_declines d (typeIs_str s b u) F.sub_str_dict hq)
    (fun _ hq => wpAny_of_eq (rfl : isSame (.str b u) (.ref a) = pure false) hq) (.inr hu) h
theorem rc_dict_int {a : Addr} (b : Int) (u : Tok) (d : IsD s.heap a) (hu : A.units < cLine) : RcAt A s (.ref a) (.int b u) false := fun prog w E Q h => by
  obtain ⟨⟨c, dd, data, sl⟩, es, ep, e, x, z⟩ := id d
  obtain ⟨x1, x2, x3⟩ := x
  simp only at x1 z
  subst x1 z
  exact rc_eq_decline_or (k := false) d.type (typeIs_int s b u) (by decide) F.sub_int_dict F.slot_dict_eq F.slot_int_eq_refl
    (fun _ hq => dict_declines d (typeIs_int s b u) F.sub_int_dict hq)
    (fun _ hq => call_meets F.slot_int_eq_refl (typeIs_int s b u) F.entry_int_eq (F.args_int_eq_2 _ _) (int_declines b u a dd es ep sl) ⟨e, hq⟩)
    (fun _ hq => wpAny_of_eq (rfl : isSame (.ref a) (.int b u) = pure false) hq) (.inr hu) h
theorem rc_int_dict {a : Addr} (b : Int) (u : Tok) (d : IsD s.heap a) (hu : A.units < cLine) : RcAt A s (.int b u) (.ref a) false := fun prog w E Q h => by
  obtain ⟨⟨c, dd, data, sl⟩, es, ep, e, x, z⟩ := id d
  obtain ⟨x1, x2, x3⟩ := x
  simp only at x1 z
  subst x1 z
  exact rc_eq_decline_or (k := false) (typeIs_int s b u) d.type (by decide) (F.sub_dict_int) F.slot_int_eq F.slot_dict_eq_refl
    (fun _ hq => call_meets F.slot_int_eq (typeIs_int s b u) F.entry_int_eq (F.args_int_eq_2 _ _) (int_declines b u a dd es ep sl) ⟨e, hq⟩)
    (fun _ hq => dict_declines d (typeIs_int s b u) F.sub_int_dict hq)
    (fun _ hq => wpAny_of_eq (rfl : isSame (.int b u) (.ref a) = pure false) hq) (.inr hu) h
theorem rc_dict_bool {a : Addr} (b : Bool) (d : IsD s.heap a) (hu : A.units < cLine) : RcAt A s (.ref a) (.bool b) false := fun prog w E Q h => by
  obtain ⟨⟨c, dd, data, sl⟩, es, ep, e, x, z⟩ := id d
  obtain ⟨x1, x2, x3⟩ := x
  simp only at x1 z
  subst x1 z
  exact rc_eq_decline_or (k := false) d.type (rfl : s.TypeIs (.bool b) "bool") (by decide) F.sub_bool_dict F.slot_dict_eq F.slot_bool_eq_refl
    (fun _ hq => dict_declines d (rfl : s.TypeIs (.bool b) "bool") F.sub_bool_dict hq)
    (fun _ hq => call_meets F.slot_bool_eq_refl (rfl : s.TypeIs (.bool b) "bool") F.entry_int_eq (F.args_int_eq_2 _ _) (bool_declines b a dd es ep sl) ⟨e, hq⟩)
    (fun _ hq => wpAny_of_eq (rfl : isSame (.ref a) (.bool b) = pure false) hq) (.inr hu) h
theorem rc_bool_dict {a : Addr} (b : Bool) (d : IsD s.heap a) (hu : A.units < cLine) : RcAt A s (.bool b) (.ref a) false := fun prog w E Q h => by
  obtain ⟨⟨c, dd, data, sl⟩, es, ep, e, x, z⟩ := id d
  obtain ⟨x1, x2, x3⟩ := x
  simp only at x1 z
  subst x1 z
  exact rc_eq_decline_or (k := false) (rfl : s.TypeIs (.bool b) "bool") d.type (by decide) (F.sub_dict_bool) F.slot_bool_eq F.slot_dict_eq_refl
    (fun _ hq => call_meets F.slot_bool_eq (rfl : s.TypeIs (.bool b) "bool") F.entry_int_eq (F.args_int_eq_2 _ _) (bool_declines b a dd es ep sl) ⟨e, hq⟩)
    (fun _ hq => dict_declines d (rfl : s.TypeIs (.bool b) "bool") F.sub_bool_dict hq)
    (fun _ hq => wpAny_of_eq (rfl : isSame (.bool b) (.ref a) = pure false) hq) (.inr hu) h
theorem rc_dict_none {a : Addr} (d : IsD s.heap a) (hu : A.units < cLine) : RcAt A s (.ref a) .none false := fun prog w E Q h =>
  rc_eq_decline_or (k := false) d.type (rfl : s.TypeIs .none "NoneType") (by decide) F.sub_NoneType_dict F.slot_dict_eq F.slot_NoneType_eq_refl
    (fun _ hq => dict_declines d (rfl : s.TypeIs .none "NoneType") F.sub_NoneType_dict hq)
    (fun _ hq => call_gives F.slot_NoneType_eq_refl rfl F.entry_NoneType_eq (F.args_NoneType_eq_2 _ _) (NoneType___eq___none_ref_0 a) hq)
    (fun _ hq => wpAny_of_eq (rfl : isSame (.ref a) .none = pure false) hq) (.inr hu) h
theorem rc_none_dict {a : Addr} (d : IsD s.heap a) (hu : A.units < cLine) : RcAt A s .none (.ref a) false := fun prog w E Q h =>
  rc_eq_decline_or (k := false) (rfl : s.TypeIs .none "NoneType") d.type (by decide) (F.sub_dict_NoneType) F.slot_NoneType_eq F.slot_dict_eq_refl
    (fun _ hq => call_gives F.slot_NoneType_eq rfl F.entry_NoneType_eq (F.args_NoneType_eq_2 _ _) (NoneType___eq___none_ref_0 a) hq)
    (fun _ hq => dict_declines d (rfl : s.TypeIs .none "NoneType") F.sub_NoneType_dict hq)
    (fun _ hq => wpAny_of_eq (rfl : isSame .none (.ref a) = pure false) hq) (.inr hu) h
theorem isD_ne_list {a l : Addr} {items : Array Value} (d : IsD s.heap a) (hl : s.heap.IsList l items) : a ≠ l := by
  rintro rfl
  obtain ⟨o, es, ep, e, x, z⟩ := d
  obtain ⟨o', e', c, _⟩ := hl
  rw [e] at e'; cases e'
  rw [x.1] at c
  injection c with c1
  exact absurd c1 (by decide)
theorem isD_ne_tuple {a l : Addr} {items : Array Value} (d : IsD s.heap a) (hl : s.heap.IsTuple l items) : a ≠ l := by
  rintro rfl
  obtain ⟨o, es, ep, e, x, z⟩ := d
  obtain ⟨o', e', c, _⟩ := hl
  rw [e] at e'; cases e'
  rw [x.1] at c
  injection c with c1
  exact absurd c1 (by decide)
theorem rc_dict_list {a l : Addr} {items : Array Value} (d : IsD s.heap a) (hl : s.heap.IsList l items) (hu : A.units < cLine) : RcAt A s (.ref a) (.ref l) false := fun prog w E Q h => by
  obtain ⟨⟨c, dd, data, sl⟩, es, ep, e, x, z⟩ := id d
  obtain ⟨x1, x2, x3⟩ := x
  simp only at x1 z
  subst x1 z
  obtain ⟨⟨cls, dd2, data2, sl2⟩, ho, hc, n, hd⟩ := id hl
  simp only at hc hd
  subst hc hd
  exact rc_eq_decline_or (k := false) d.type ⟨_, ho, rfl⟩ (by decide) F.sub_list_dict F.slot_dict_eq F.slot_list_eq_refl
    (fun _ hq => dict_declines d ⟨_, ho, rfl⟩ F.sub_list_dict hq)
    (fun _ hq => call_meets F.slot_list_eq_refl ⟨_, ho, rfl⟩ F.entry_list_eq (F.args_list_eq_2 _ _) (list_declines l a items n dd2 dd sl2 sl es ep) ⟨ho, e, hq⟩)
    (fun _ hq => wpAny_isSame_ref_other' (isD_ne_list d hl) e ho (by simp) hq) (.inr hu) h
theorem rc_list_dict {a l : Addr} {items : Array Value} (d : IsD s.heap a) (hl : s.heap.IsList l items) (hu : A.units < cLine) : RcAt A s (.ref l) (.ref a) false := fun prog w E Q h => by
  obtain ⟨⟨c, dd, data, sl⟩, es, ep, e, x, z⟩ := id d
  obtain ⟨x1, x2, x3⟩ := x
  simp only at x1 z
  subst x1 z
  obtain ⟨⟨cls, dd2, data2, sl2⟩, ho, hc, n, hd⟩ := id hl
  simp only at hc hd
  subst hc hd
  exact rc_eq_decline_or (k := false) ⟨_, ho, rfl⟩ d.type (by decide) F.sub_dict_list F.slot_list_eq F.slot_dict_eq_refl
    (fun _ hq => call_meets F.slot_list_eq ⟨_, ho, rfl⟩ F.entry_list_eq (F.args_list_eq_2 _ _) (list_declines l a items n dd2 dd sl2 sl es ep) ⟨ho, e, hq⟩)
    (fun _ hq => dict_declines d ⟨_, ho, rfl⟩ F.sub_list_dict hq)
    (fun _ hq => wpAny_isSame_ref_other' (isD_ne_list d hl).symm ho e (by simp) hq) (.inr hu) h
theorem rc_dict_tuple {a l : Addr} {items : Array Value} (d : IsD s.heap a) (hl : s.heap.IsTuple l items) (hu : A.units < cLine) : RcAt A s (.ref a) (.ref l) false := fun prog w E Q h => by
  obtain ⟨⟨c, dd, data, sl⟩, es, ep, e, x, z⟩ := id d
  obtain ⟨x1, x2, x3⟩ := x
  simp only at x1 z
  subst x1 z
  obtain ⟨⟨cls, dd2, data2, sl2⟩, ho, hc, n, hd⟩ := id hl
  simp only at hc hd
  subst hc hd
  exact rc_eq_decline_or (k := false) d.type ⟨_, ho, rfl⟩ (by decide) F.sub_tuple_dict F.slot_dict_eq F.slot_tuple_eq_refl
    (fun _ hq => dict_declines d ⟨_, ho, rfl⟩ F.sub_tuple_dict hq)
    (fun _ hq => call_meets F.slot_tuple_eq_refl ⟨_, ho, rfl⟩ F.entry_tuple_eq (F.args_tuple_eq_2 _ _) (tuple_declines l a items n dd2 dd sl2 sl es ep) ⟨ho, e, hq⟩)
    (fun _ hq => wpAny_isSame_ref_other (isD_ne_tuple d hl) e ho (by simp) hq) (.inr hu) h
theorem rc_tuple_dict {a l : Addr} {items : Array Value} (d : IsD s.heap a) (hl : s.heap.IsTuple l items) (hu : A.units < cLine) : RcAt A s (.ref l) (.ref a) false := fun prog w E Q h => by
  obtain ⟨⟨c, dd, data, sl⟩, es, ep, e, x, z⟩ := id d
  obtain ⟨x1, x2, x3⟩ := x
  simp only at x1 z
  subst x1 z
  obtain ⟨⟨cls, dd2, data2, sl2⟩, ho, hc, n, hd⟩ := id hl
  simp only at hc hd
  subst hc hd
  exact rc_eq_decline_or (k := false) ⟨_, ho, rfl⟩ d.type (by decide) F.sub_dict_tuple F.slot_tuple_eq F.slot_dict_eq_refl
    (fun _ hq => call_meets F.slot_tuple_eq ⟨_, ho, rfl⟩ F.entry_tuple_eq (F.args_tuple_eq_2 _ _) (tuple_declines l a items n dd2 dd sl2 sl es ep) ⟨ho, e, hq⟩)
    (fun _ hq => dict_declines d ⟨_, ho, rfl⟩ F.sub_tuple_dict hq)
    (fun _ hq => wpAny_isSame_ref_other' (isD_ne_tuple d hl).symm ho e (by simp) hq) (.inr hu) h
theorem at_dict_str {a : Addr} (b : Str) (u : Tok) (d : IsD s.heap a) (hu : A.units < cLine) : EqAt A s (.ref a) (.str b u) false := fun prog w E Q h => by
  unfold eqBool
  refine wpAny_holding ?_
  refine wpAny_ite_split (fun hab => absurd (eq_of_beq hab) nofun) (fun _ => ?_)
  exact wpAny_bind (rc_dict_str b u d hu prog w E _ (wpAny_truthy_bool h))
theorem at_str_dict {a : Addr} (b : Str) (u : Tok) (d : IsD s.heap a) (hu : A.units < cLine) : EqAt A s (.str b u) (.ref a) false := fun prog w E Q h => by
  unfold eqBool
  refine wpAny_holding ?_
  refine wpAny_ite_split (fun hab => absurd (eq_of_beq hab) nofun) (fun _ => ?_)
  exact wpAny_bind (rc_str_dict b u d hu prog w E _ (wpAny_truthy_bool h))
theorem at_dict_int {a : Addr} (b : Int) (u : Tok) (d : IsD s.heap a) (hu : A.units < cLine) : EqAt A s (.ref a) (.int b u) false := fun prog w E Q h => by
  unfold eqBool
  refine wpAny_holding ?_
  refine wpAny_ite_split (fun hab => absurd (eq_of_beq hab) nofun) (fun _ => ?_)
  exact wpAny_bind (rc_dict_int b u d hu prog w E _ (wpAny_truthy_bool h))
theorem at_int_dict {a : Addr} (b : Int) (u : Tok) (d : IsD s.heap a) (hu : A.units < cLine) : EqAt A s (.int b u) (.ref a) false := fun prog w E Q h => by
  unfold eqBool
  refine wpAny_holding ?_
  refine wpAny_ite_split (fun hab => absurd (eq_of_beq hab) nofun) (fun _ => ?_)
  exact wpAny_bind (rc_int_dict b u d hu prog w E _ (wpAny_truthy_bool h))
theorem at_dict_bool {a : Addr} (b : Bool) (d : IsD s.heap a) (hu : A.units < cLine) : EqAt A s (.ref a) (.bool b) false := fun prog w E Q h => by
  unfold eqBool
  refine wpAny_holding ?_
  refine wpAny_ite_split (fun hab => absurd (eq_of_beq hab) nofun) (fun _ => ?_)
  exact wpAny_bind (rc_dict_bool b d hu prog w E _ (wpAny_truthy_bool h))
theorem at_bool_dict {a : Addr} (b : Bool) (d : IsD s.heap a) (hu : A.units < cLine) : EqAt A s (.bool b) (.ref a) false := fun prog w E Q h => by
  unfold eqBool
  refine wpAny_holding ?_
  refine wpAny_ite_split (fun hab => absurd (eq_of_beq hab) nofun) (fun _ => ?_)
  exact wpAny_bind (rc_bool_dict b d hu prog w E _ (wpAny_truthy_bool h))
theorem at_dict_none {a : Addr} (d : IsD s.heap a) (hu : A.units < cLine) : EqAt A s (.ref a) .none false := fun prog w E Q h => by
  unfold eqBool
  refine wpAny_holding ?_
  refine wpAny_ite_split (fun hab => absurd (eq_of_beq hab) nofun) (fun _ => ?_)
  exact wpAny_bind (rc_dict_none d hu prog w E _ (wpAny_truthy_bool h))
theorem at_none_dict {a : Addr} (d : IsD s.heap a) (hu : A.units < cLine) : EqAt A s .none (.ref a) false := fun prog w E Q h => by
  unfold eqBool
  refine wpAny_holding ?_
  refine wpAny_ite_split (fun hab => absurd (eq_of_beq hab) nofun) (fun _ => ?_)
  exact wpAny_bind (rc_none_dict d hu prog w E _ (wpAny_truthy_bool h))
theorem at_dict_list {a l : Addr} {items : Array Value} (d : IsD s.heap a) (hl : s.heap.IsList l items) (hu : A.units < cLine) : EqAt A s (.ref a) (.ref l) false := .of_refs (isD_ne_list d hl) (rc_dict_list d hl hu)
theorem at_list_dict {a l : Addr} {items : Array Value} (d : IsD s.heap a) (hl : s.heap.IsList l items) (hu : A.units < cLine) : EqAt A s (.ref l) (.ref a) false := .of_refs ((isD_ne_list d hl).symm) (rc_list_dict d hl hu)
theorem at_dict_tuple {a l : Addr} {items : Array Value} (d : IsD s.heap a) (hl : s.heap.IsTuple l items) (hu : A.units < cLine) : EqAt A s (.ref a) (.ref l) false := .of_refs (isD_ne_tuple d hl) (rc_dict_tuple d hl hu)
theorem at_tuple_dict {a l : Addr} {items : Array Value} (d : IsD s.heap a) (hl : s.heap.IsTuple l items) (hu : A.units < cLine) : EqAt A s (.ref l) (.ref a) false := .of_refs ((isD_ne_tuple d hl).symm) (rc_tuple_dict d hl hu)
end
end IX
end

section
set_option Elab.async false
set_option linter.all false
set_option maxRecDepth 100000
set_option maxHeartbeats 2000000
/-! IX4: == of own values. -/
namespace IX
open PySem PySem.Spec PyProof.Rows L2
section
variable {X : Cx} {cl : Nat → Option Addr} {pins : List (Addr × Obj)} {σ : L2.St} {ρ : Rho} {H : Hp} {h : Hh} {s : Shared}
theorem isD_of (I : Inv X pins σ H s) {p : Addr} {ks : List (Key × V)} (e : H p = some (.dK ks)) : IsD s.heap p := by
  obtain ⟨_, _, vs, _, o, es, ep, e1, x, z, _⟩ := (show ObjOk X.prog X.w H s.heap p (.dK ks) from I.hok p _ e)
  exact ⟨o, es, ep, e1, x, z⟩
theorem tup_ne_lst (I : Inv X pins σ H s) {p : Addr} {vs us : List V} (t : SqT X.K H p vs) (e : H p = some (.lst us)) : False := by
  obtain ⟨its, _, ⟨o, e1, c, _⟩, _⟩ := I.tuple t
  obtain ⟨_, its2, n, _, _, e2⟩ := I.lstM e
  rw [e1] at e2; cases e2
  injection c with c1
  exact absurd c1 (by decide)
theorem tup_ne_dic (I : Inv X pins σ H s) {p : Addr} {vs : List V} {us : List (Key × V)} (t : SqT X.K H p vs) (e : H p = some (.dK us)) : False := by
  obtain ⟨its, _, ⟨o, e1, c, _⟩, _⟩ := I.tuple t
  obtain ⟨o2, es, ep, e2, x, _⟩ := isD_of I e
  rw [e1] at e2; cases e2
  rw [x.1] at c
  injection c with c1
  exact absurd c1 (by decide)
theorem eq_scal {n : Nat} {d e : D} : True := trivial
mutual
/-- what stands at one place is equal to itself -/
theorem eqD_same (I : Inv X pins σ H s) (hr : HRel X.K cl ρ H h) : ∀ (n : Nat) (d e : D) (x : V) (b : Bool), Rep X.K ρ H d x → Rep X.K ρ H e x → eqD h n d e = some b → b = true
  | 0, _, _, _, _, _, _, q => by cases q
  | n + 1, d, e, x, b, r1, r2, q => by
    cases r1 with
    | non => cases r2; cases q; rfl
    | bl => cases r2; cases q; simp
    | int => cases r2; cases q; simp
    | str => cases r2; cases q; simp
    | lck => cases r2 <;> cases q
    | @tup p ds vs s1 t1 =>
      cases r2 with
      | @tup _ es us s2 t2 =>
        have e1 := I.tuple_inj s1 s2
        subst e1
        have q' : (eqL (eqD h n) ds es).map (fun b => b && ds.length == es.length) = some b := q
        cases q2 : eqL (eqD h n) ds es with
        | none => rw [q2] at q'; cases q'
        | some c =>
          rw [q2] at q'
          have q3 : (c && ds.length == es.length) = b := Option.some.inj q'
          have := eqL_same I hr n ds es vs c t1 t2 q2
          rw [← q3, this, t1.length, t2.length]
          simp
      | lck s2 t2 => cases q
      | @ref a _ ea =>
        obtain ⟨o, eo, ox⟩ := hr.get ea
        cases o with
        | lst us => obtain ⟨us, e3, _⟩ := ox; exact (tup_ne_lst I s1 e3).elim
        | dic us => obtain ⟨us, e3, _⟩ := ox; exact (tup_ne_dic I s1 e3).elim
        | ins _ _ =>
          have q' : (if (h[a]?.map O.plain) = some true then some false else none) = some b := q
          rw [eo] at q'
          exact absurd q' (by simp [O.plain])
    | @ref a p ea =>
      cases r2 with
      | @tup _ es us s2 t2 =>
        obtain ⟨o, eo, ox⟩ := hr.get ea
        cases o with
        | lst us => obtain ⟨us, e3, _⟩ := ox; exact (tup_ne_lst I s2 e3).elim
        | dic us => obtain ⟨us, e3, _⟩ := ox; exact (tup_ne_dic I s2 e3).elim
        | ins _ _ =>
          have q' : (if (h[a]?.map O.plain) = some true then some false else none) = some b := q
          rw [eo] at q'
          exact absurd q' (by simp [O.plain])
      | lck s2 t2 => cases q
      | @ref b' _ eb =>
        have e1 := hr.inj a b' p ea eb
        subst e1
        have q0 : (if a = a then (if (h[a]?.map O.plain) = some true then some true else none) else eqRef (eqD h n) h a a) = some b := q
        rw [if_pos rfl] at q0
        clear q
        have q := q0
        split at q
        · cases q; rfl
        · cases q
theorem eqL_same (I : Inv X pins σ H s) (hr : HRel X.K cl ρ H h) : ∀ (n : Nat) (ds es : List D) (vs : List V) (b : Bool), Reps X.K ρ H ds vs → Reps X.K ρ H es vs → eqL (eqD h n) ds es = some b → b = true
  | n, [], [], _, b, _, _, q => by cases q; rfl
  | n, [], _ :: _, _, b, r1, r2, q => by cases q; rfl
  | n, _ :: _, [], _, b, r1, r2, q => by cases q; rfl
  | n, d :: ds, e :: es, _, b, r1, r2, q => by
    cases r1 with
    | cons a1 t1 =>
      cases r2 with
      | cons a2 t2 =>
        unfold eqL at q
        cases q1 : eqD h n d e with
        | none => rw [q1] at q; cases q
        | some c =>
          cases q2 : eqL (eqD h n) ds es with
          | none => rw [q1, q2] at q; cases q
          | some c2 =>
            rw [q1, q2] at q
            cases q
            rw [eqD_same I hr n d e _ c a1 a2 q1, eqL_same I hr n ds es _ c2 t1 t2 q2]
            rfl
end
end
section
variable {X : Cx} {cl : Nat → Option Addr} {pins : List (Addr × Obj)} {σ : L2.St} {ρ : Rho} {H : Hp} {h : Hh} {s : Shared}
theorem range_all (e : Nat → Bool) : ∀ n : Nat, (List.range (n + 1)).all e = (e 0 && (List.range n).all fun j => e (j + 1)) := fun n => by
  rw [List.range_succ_eq_map, List.all_cons, List.all_map]
  rfl
/-- the items' answers of two rows -/
theorem eqL_at {A : Around} {f : D → D → Option Bool} {R : D → V → Prop} (hf : ∀ d e x y v u b, Rep X.K ρ H d x → Rep X.K ρ H e y → RelV x v → RelV y u → f d e = some b → SeqAt.EqAt A s v u b) :
    ∀ (ds es : List D) (vs us : List V) (vl ul : List Value) (b : Bool), Reps X.K ρ H ds vs → Reps X.K ρ H es us → Vals vs vl → Vals us ul → eqL f ds es = some b →
      ∃ e : Nat → Bool, (∀ j (h1 : j < vl.length) (h2 : j < ul.length), SeqAt.EqAt A s vl[j] ul[j] (e j)) ∧ (List.range (min vl.length ul.length)).all e = b
  | [], _, _, _, _, _, b, r1, _, w1, _, q => by
    cases r1; cases w1
    cases q
    exact ⟨fun _ => true, fun j h1 => absurd h1 (by simp), by simp⟩
  | _ :: _, [], _, _, _, _, b, _, r2, _, w2, q => by
    cases r2; cases w2
    cases q
    exact ⟨fun _ => true, fun j _ h2 => absurd h2 (by simp), by simp⟩
  | d :: ds, e :: es, _, _, _, _, b, .cons a1 t1, .cons a2 t2, .cons w1 y1, .cons w2 y2, q => by
    unfold eqL at q
    cases q1 : f d e with
    | none => rw [q1] at q; cases q
    | some c =>
      cases q2 : eqL f ds es with
      | none => rw [q1, q2] at q; cases q
      | some c2 =>
        rw [q1, q2] at q
        cases q
        obtain ⟨g, g1, g2⟩ := eqL_at (R := R) hf ds es _ _ _ _ c2 t1 t2 y1 y2 q2
        refine ⟨fun j => match j with | 0 => c | j + 1 => g j, fun j h1 h2 => ?_, ?_⟩
        · cases j with
          | zero => exact hf d e _ _ _ _ c a1 a2 w1 w2 q1
          | succ j => exact g1 j (by simpa using h1) (by simpa using h2)
        · rw [List.length_cons, List.length_cons, Nat.succ_min_succ, range_all]
          dsimp only
          rw [g2]
theorem eqD_at (I : Inv X pins σ H s) (hr : HRel X.K cl ρ H h) : ∀ (n : Nat) (d e : D) (x y : V) (v u : Value) (b : Bool) (A : Around), A.units + n < cLine → Rep X.K ρ H d x → Rep X.K ρ H e y → RelV x v → RelV y u → eqD h n d e = some b → SeqAt.EqAt A s v u b
  | 0, _, _, _, _, _, _, _, _, _, _, _, _, _, q => by cases q
  | n + 1, d, e, x, y, v, u, b, A, hu, r1, r2, w1, w2, q => by
    have hu0 : A.units < cLine := by omega
    have ih := fun d e x y v u b => eqD_at I hr n d e x y v u b A.in1 (by show A.units + 1 + n < cLine; omega)
    have refs : ∀ (c : Addr) (its : Array Value) (a : Nat) (p : Addr) (q' : (if (h[a]?.map O.plain) = some true then some false else none) = some b), ρ[a]? = some p → b = false ∧ ((∃ us, H p = some (.lst us)) ∨ ∃ us, H p = some (.dK us)) := fun c its a p q' ea => by
      obtain ⟨o, eo, ox⟩ := hr.get ea
      rw [eo] at q'
      cases o with
      | lst us => obtain ⟨us, e3, _⟩ := ox; simp [O.plain] at q'; exact ⟨q', .inl ⟨us, e3⟩⟩
      | dic us => obtain ⟨us, e3, _⟩ := ox; simp [O.plain] at q'; exact ⟨q', .inr ⟨us, e3⟩⟩
      | ins _ _ => exact absurd q' (by simp [O.plain])
    cases r1 with
    | non =>
      cases w1
      cases r2 with
      | non => cases w2; cases q; exact SeqAt.EqAt.same _
      | bl j => cases w2; cases q; exact eqAt_V (x := .bl j) (y := .non) rfl rfl rfl rfl
      | int j => obtain ⟨t', rfl⟩ := w2; cases q; exact eqAt_V (x := .int j) (y := .non) rfl ⟨_, rfl⟩ rfl rfl
      | str j => obtain ⟨t', rfl⟩ := w2; cases q; exact eqAt_V (x := .str j) (y := .non) rfl ⟨_, rfl⟩ rfl rfl
      | tup s2 t2 => cases w2; cases q; obtain ⟨its, _, p, _⟩ := I.tuple s2; exact .none_tuple p hu0
      | lck s2 t2 => cases q
      | @ref a p ea =>
        cases w2
        obtain ⟨rfl, hp⟩ := refs 0 #[] a p q ea
        rcases hp with ⟨us, e3⟩ | ⟨us, e3⟩
        · obtain ⟨its, _, pl, _⟩ := I.list (SqL.of e3); exact .none_list pl.isList hu0
        · exact at_none_dict (isD_of I e3) hu0
    | bl i =>
      cases w1
      cases r2 with
      | non => cases w2; cases q; exact eqAt_V (x := .non) (y := .bl i) rfl rfl rfl rfl
      | bl j => cases w2; cases q; exact eqAt_V (x := .bl j) (y := .bl i) rfl rfl rfl rfl
      | int j => obtain ⟨t', rfl⟩ := w2; cases q; exact eqAt_V (x := .int j) (y := .bl i) rfl ⟨_, rfl⟩ rfl rfl
      | str j => obtain ⟨t', rfl⟩ := w2; cases q; exact eqAt_V (x := .str j) (y := .bl i) rfl ⟨_, rfl⟩ rfl rfl
      | tup s2 t2 => cases w2; cases q; obtain ⟨its, _, p, _⟩ := I.tuple s2; exact .bool_tuple _ p hu0
      | lck s2 t2 => cases q
      | @ref a p ea =>
        cases w2
        obtain ⟨rfl, hp⟩ := refs 0 #[] a p q ea
        rcases hp with ⟨us, e3⟩ | ⟨us, e3⟩
        · obtain ⟨its, _, pl, _⟩ := I.list (SqL.of e3); exact .bool_list _ pl.isList hu0
        · exact at_bool_dict _ (isD_of I e3) hu0
    | int i =>
      obtain ⟨t, rfl⟩ := w1
      cases r2 with
      | non => cases w2; cases q; exact eqAt_V (x := .non) (y := .int i) ⟨_, rfl⟩ rfl rfl rfl
      | bl j => cases w2; cases q; exact eqAt_V (x := .bl j) (y := .int i) ⟨_, rfl⟩ rfl rfl rfl
      | int j => obtain ⟨t', rfl⟩ := w2; cases q; exact eqAt_V (x := .int j) (y := .int i) ⟨_, rfl⟩ ⟨_, rfl⟩ rfl rfl
      | str j => obtain ⟨t', rfl⟩ := w2; cases q; exact eqAt_V (x := .str j) (y := .int i) ⟨_, rfl⟩ ⟨_, rfl⟩ rfl rfl
      | tup s2 t2 => cases w2; cases q; obtain ⟨its, _, p, _⟩ := I.tuple s2; exact .int_tuple _ _ p hu0
      | lck s2 t2 => cases q
      | @ref a p ea =>
        cases w2
        obtain ⟨rfl, hp⟩ := refs 0 #[] a p q ea
        rcases hp with ⟨us, e3⟩ | ⟨us, e3⟩
        · obtain ⟨its, _, pl, _⟩ := I.list (SqL.of e3); exact .int_list _ _ pl.isList hu0
        · exact at_int_dict _ _ (isD_of I e3) hu0
    | str i zi =>
      obtain ⟨t, rfl⟩ := w1
      cases r2 with
      | non => cases w2; cases q; exact eqAt_V (x := .non) (y := .str i) ⟨_, rfl⟩ rfl rfl rfl
      | bl j => cases w2; cases q; exact eqAt_V (x := .bl j) (y := .str i) ⟨_, rfl⟩ rfl rfl rfl
      | int j => obtain ⟨t', rfl⟩ := w2; cases q; exact eqAt_V (x := .int j) (y := .str i) ⟨_, rfl⟩ ⟨_, rfl⟩ rfl rfl
      | str j => obtain ⟨t', rfl⟩ := w2; cases q; exact eqAt_V (x := .str j) (y := .str i) ⟨_, rfl⟩ ⟨_, rfl⟩ rfl rfl
      | tup s2 t2 => cases w2; cases q; obtain ⟨its, _, p, _⟩ := I.tuple s2; exact .str_tuple _ _ p hu0
      | lck s2 t2 => cases q
      | @ref a p ea =>
        cases w2
        obtain ⟨rfl, hp⟩ := refs 0 #[] a p q ea
        rcases hp with ⟨us, e3⟩ | ⟨us, e3⟩
        · obtain ⟨its, _, pl, _⟩ := I.list (SqL.of e3); exact .str_list _ _ pl.isList hu0
        · exact at_str_dict _ _ (isD_of I e3) hu0
    | lck s1 t1 => cases r2 <;> cases q
    | @tup p1 ds vs s1 t1 =>
      cases w1
      obtain ⟨its, v1, p, _⟩ := I.tuple s1
      cases r2 with
      | non => cases w2; cases q; exact .tuple_none p hu0
      | bl j => cases w2; cases q; exact .tuple_bool _ p hu0
      | int j => obtain ⟨t', rfl⟩ := w2; cases q; exact .tuple_int _ _ p hu0
      | str j => obtain ⟨t', rfl⟩ := w2; cases q; exact .tuple_str _ _ p hu0
      | @tup p2 es us s2 t2 =>
        cases w2
        by_cases hp : p1 = p2
        · subst hp
          have := eqD_same I hr (n + 1) _ _ _ b (.tup s1 t1) (.tup s2 t2) q
          subst this
          exact SeqAt.EqAt.same _
        · obtain ⟨its2, v2, p', _⟩ := I.tuple s2
          have q' : (eqL (eqD h n) ds es).map (fun b => b && ds.length == es.length) = some b := q
          cases q2 : eqL (eqD h n) ds es with
          | none => rw [q2] at q'; cases q'
          | some c =>
            rw [q2] at q'
            cases q'
            obtain ⟨g, g1, g2⟩ := eqL_at (R := fun _ _ => True) ih ds es vs us its its2 c t1 t2 v1 v2 q2
            have r := SeqAt.RcAt.tuples (e := g) p p' hu0 (fun j h1 h2 => by simpa using g1 j (by simpa using h1) (by simpa using h2))
            have e1 : ds.length = its.length := t1.length.trans v1.length
            have e2 : es.length = its2.length := t2.length.trans v2.length
            have r' : SeqAt.RcAt A s (.ref p1) (.ref p2) (c && ds.length == es.length) := by
              rw [e1, e2, ← g2]
              simpa using r
            exact .of_refs hp r'
      | lck s2 t2 => cases q
      | @ref a p2 ea =>
        cases w2
        obtain ⟨rfl, hp⟩ := refs 0 #[] a p2 q ea
        rcases hp with ⟨us, e3⟩ | ⟨us, e3⟩
        · obtain ⟨its, _, pl, _⟩ := I.list (SqL.of e3); exact .tuple_list p pl.isList hu0
        · exact at_tuple_dict (isD_of I e3) p hu0
    | @ref a p1 ea =>
      cases w1
      obtain ⟨oa, eoa, oxa⟩ := hr.get ea
      have left : ∀ {T : Prop}, ((if (h[a]?.map O.plain) = some true then some false else none) = some b) → (b = false → (∃ its, s.heap.IsList p1 its) ∨ IsD s.heap p1 → T) → T := fun {T} q' k => by
        obtain ⟨rfl, hp⟩ := refs 0 #[] a p1 q' ea
        refine k rfl ?_
        rcases hp with ⟨us, e3⟩ | ⟨us, e3⟩
        · obtain ⟨its, _, pl, _⟩ := I.list (SqL.of e3); exact .inl ⟨_, pl.isList⟩
        · exact .inr (isD_of I e3)
      cases r2 with
      | non => cases w2; exact left q fun e k => by subst e; exact k.elim (fun ⟨its, l⟩ => .list_none l hu0) fun d => at_dict_none d hu0
      | bl j => cases w2; exact left q fun e k => by subst e; exact k.elim (fun ⟨its, l⟩ => .list_bool _ l hu0) fun d => at_dict_bool _ d hu0
      | int j => obtain ⟨t', rfl⟩ := w2; exact left q fun e k => by subst e; exact k.elim (fun ⟨its, l⟩ => .list_int _ _ l hu0) fun d => at_dict_int _ _ d hu0
      | str j => obtain ⟨t', rfl⟩ := w2; exact left q fun e k => by subst e; exact k.elim (fun ⟨its, l⟩ => .list_str _ _ l hu0) fun d => at_dict_str _ _ d hu0
      | @tup p2 es us s2 t2 =>
        cases w2
        obtain ⟨its2, v2, p', _⟩ := I.tuple s2
        exact left q fun e k => by subst e; exact k.elim (fun ⟨its, l⟩ => .list_tuple l p' hu0) fun d => at_dict_tuple d p' hu0
      | lck s2 t2 => cases q
      | @ref b' p2 eb =>
        cases w2
        obtain ⟨ob, eob, oxb⟩ := hr.get eb
        by_cases hab : a = b'
        · subst hab
          rw [ea] at eb; cases eb
          have := eqD_same I hr (n + 1) _ _ _ b (.ref ea) (.ref ea) q
          subst this
          exact SeqAt.EqAt.same _
        · have hp : p1 ≠ p2 := fun z => hab (hr.inj a b' p1 ea (z ▸ eb))
          have q0 : (if a = b' then (if (h[a]?.map O.plain) = some true then some true else none) else eqRef (eqD h n) h a b') = some b := q
          rw [if_neg hab] at q0
          clear q
          have q := q0
          simp only [eqRef, eoa, eob] at q
          cases oa with
          | lst ds =>
            obtain ⟨vs, e3, t1⟩ := oxa
            obtain ⟨its, v1, pl, _⟩ := I.list (SqL.of e3)
            cases ob with
            | lst es =>
              obtain ⟨us, e4, t2⟩ := oxb
              obtain ⟨its2, v2, pl2, _⟩ := I.list (SqL.of e4)
              simp only [O.seq?] at q
              have e1 : ds.length = its.length := t1.length.trans v1.length
              have e2 : es.length = its2.length := t2.length.trans v2.length
              split at q
              · rename_i hl
                obtain ⟨g, g1, g2⟩ := eqL_at (R := fun _ _ => True) ih ds es vs us its its2 b t1 t2 v1 v2 q
                have r := SeqAt.RcAt.lists (e := g) pl.isList pl2.isList (by simp; omega) hu0 (fun j h1 h2 => by simpa using g1 j (by simpa using h1) (by simpa using h2))
                have em : min its.length its2.length = its.length := by omega
                rw [em] at g2
                have r' : SeqAt.RcAt A s (.ref p1) (.ref p2) b := by
                  rw [← g2]
                  simpa using r
                exact .of_refs hp r'
              · rename_i hl
                cases q
                exact .of_refs hp (SeqAt.RcAt.lists_lengths pl.isList pl2.isList (by simp; omega) hu0)
            | dic es =>
              obtain ⟨us, e4, _⟩ := oxb
              simp [O.seq?, O.plain] at q
              subst q
              exact at_list_dict (isD_of I e4) pl.isList hu0
            | ins _ _ => simp [O.seq?, O.plain] at q
          | dic ds =>
            obtain ⟨vs, e3, t1⟩ := oxa
            cases ob with
            | lst es =>
              obtain ⟨us, e4, t2⟩ := oxb
              obtain ⟨its2, v2, pl2, _⟩ := I.list (SqL.of e4)
              simp [O.seq?, O.plain] at q
              subst q
              exact at_dict_list (isD_of I e3) pl2.isList hu0
            | dic es => simp [O.seq?] at q
            | ins _ _ => simp [O.seq?] at q
          | ins _ _ =>
            cases ob with
            | lst es => simp [O.seq?, O.plain] at q
            | dic es => simp [O.seq?] at q
            | ins _ _ => simp [O.seq?] at q
end
section
variable {X : Cx} {cl : Nat → Option Addr} {pins : List (Addr × Obj)} {σ : L2.St} {ρ : Rho} {H : Hp} {h : Hh} {s : Shared}
theorem rcD_at (I : Inv X pins σ H s) (hr : HRel X.K cl ρ H h) (d e : D) (x y : V) (v u : Value) (b : Bool) (A : Around) (hu : A.units + 64 < cLine) (r1 : Rep X.K ρ H d x) (r2 : Rep X.K ρ H e y) (w1 : RelV x v) (w2 : RelV y u) (q : eqT h d e = some b) : SeqAt.RcAt A s v u (b) := by
  have hu0 : A.units < cLine := by omega
  have ih := fun d e x y v u b => eqD_at I hr 59 d e x y v u b A.in1 (by show A.units + 1 + 59 < cLine; omega)
  have refs : ∀ (a : Nat) (p : Addr) (q' : (if (h[a]?.map O.plain) = some true then some false else none) = some b), ρ[a]? = some p → b = false ∧ ((∃ us, H p = some (.lst us)) ∨ ((∃ us, H p = some (.dK us)) ∧ isDic h (.ref a) = true)) := fun a p q' ea => by
    obtain ⟨o, eo, ox⟩ := hr.get ea
    rw [eo] at q'
    cases o with
    | lst us => obtain ⟨us, e3, _⟩ := ox; simp [O.plain] at q'; exact ⟨q', .inl ⟨us, e3⟩⟩
    | dic us => obtain ⟨us, e3, _⟩ := ox; simp [O.plain] at q'; exact ⟨q', .inr ⟨⟨us, e3⟩, by simp [isDic, eo]⟩⟩
    | ins _ _ => exact absurd q' (by simp [O.plain])
  cases r1 with
  | non =>
    cases w1
    cases r2 with
    | non => cases w2; cases q; exact .none_none
    | bl j => cases w2; cases q; exact .none_bool _
    | int j => obtain ⟨t', rfl⟩ := w2; cases q; exact .none_int _ _
    | str j zj => obtain ⟨t', rfl⟩ := w2; cases q; exact .none_str _ _
    | tup s2 t2 => cases w2; cases q; obtain ⟨its, _, p, _⟩ := I.tuple s2; exact .none_tuple p hu0
    | lck s2 t2 => cases q
    | @ref a p ea =>
      cases w2
      obtain ⟨rfl, hp⟩ := refs a p q ea
      rcases hp with ⟨us, e3⟩ | ⟨⟨us, e3⟩, hz⟩
      · obtain ⟨its, _, pl, _⟩ := I.list (SqL.of e3); exact .none_list pl.isList hu0
      · exact rc_none_dict (isD_of I e3) hu0
  | bl i =>
    cases w1
    cases r2 with
    | non => cases w2; cases q; exact .bool_none _
    | bl j => cases w2; cases q; exact .bool_bool _ _
    | int j => obtain ⟨t', rfl⟩ := w2; cases q; exact .bool_int _ _ _
    | str j zj => obtain ⟨t', rfl⟩ := w2; cases q; exact .bool_str _ _ _
    | tup s2 t2 => cases w2; cases q; obtain ⟨its, _, p, _⟩ := I.tuple s2; exact .bool_tuple _ p hu0
    | lck s2 t2 => cases q
    | @ref a p ea =>
      cases w2
      obtain ⟨rfl, hp⟩ := refs a p q ea
      rcases hp with ⟨us, e3⟩ | ⟨⟨us, e3⟩, hz⟩
      · obtain ⟨its, _, pl, _⟩ := I.list (SqL.of e3); exact .bool_list _ pl.isList hu0
      · exact rc_bool_dict _ (isD_of I e3) hu0
  | int i =>
    obtain ⟨t, rfl⟩ := w1
    cases r2 with
    | non => cases w2; cases q; exact .int_none _ _
    | bl j => cases w2; cases q; exact .int_bool _ _ _
    | int j => obtain ⟨t', rfl⟩ := w2; cases q; exact .int_int _ _ _ _
    | str j zj => obtain ⟨t', rfl⟩ := w2; cases q; exact .int_str _ _ _ _
    | tup s2 t2 => cases w2; cases q; obtain ⟨its, _, p, _⟩ := I.tuple s2; exact .int_tuple _ _ p hu0
    | lck s2 t2 => cases q
    | @ref a p ea =>
      cases w2
      obtain ⟨rfl, hp⟩ := refs a p q ea
      rcases hp with ⟨us, e3⟩ | ⟨⟨us, e3⟩, hz⟩
      · obtain ⟨its, _, pl, _⟩ := I.list (SqL.of e3); exact .int_list _ _ pl.isList hu0
      · exact rc_int_dict _ _ (isD_of I e3) hu0
  | str i zi =>
    obtain ⟨t, rfl⟩ := w1
    cases r2 with
    | non => cases w2; cases q; exact .str_none _ _
    | bl j => cases w2; cases q; exact .str_bool _ _ _
    | int j => obtain ⟨t', rfl⟩ := w2; cases q; exact .str_int _ _ _ _
    | str j zj => obtain ⟨t', rfl⟩ := w2; cases q; exact .str_str _ _ _ _
    | tup s2 t2 => cases w2; cases q; obtain ⟨its, _, p, _⟩ := I.tuple s2; exact .str_tuple _ _ p hu0
    | lck s2 t2 => cases q
    | @ref a p ea =>
      cases w2
      obtain ⟨rfl, hp⟩ := refs a p q ea
      rcases hp with ⟨us, e3⟩ | ⟨⟨us, e3⟩, hz⟩
      · obtain ⟨its, _, pl, _⟩ := I.list (SqL.of e3); exact .str_list _ _ pl.isList hu0
      · exact rc_str_dict _ _ (isD_of I e3) hu0
  | lck s1 t1 => cases r2 <;> cases q
  | @tup p1 ds vs s1 t1 =>
    cases w1
    obtain ⟨its, v1, p, _⟩ := I.tuple s1
    cases r2 with
    | non => cases w2; cases q; exact .tuple_none p hu0
    | bl j => cases w2; cases q; exact .tuple_bool _ p hu0
    | int j => obtain ⟨t', rfl⟩ := w2; cases q; exact .tuple_int _ _ p hu0
    | str j zj => obtain ⟨t', rfl⟩ := w2; cases q; exact .tuple_str _ _ p hu0
    | @tup p2 es us s2 t2 =>
      cases w2
      obtain ⟨its2, v2, p', _⟩ := I.tuple s2
      have q' : (eqL (eqD h 59) ds es).map (fun b => b && ds.length == es.length) = some b := q
      cases q2 : eqL (eqD h 59) ds es with
      | none => rw [q2] at q'; cases q'
      | some c =>
        rw [q2] at q'
        cases q'
        obtain ⟨g, g1, g2⟩ := eqL_at (R := fun _ _ => True) ih ds es vs us its its2 c t1 t2 v1 v2 q2
        have r := SeqAt.RcAt.tuples (e := g) p p' hu0 (fun j h1 h2 => by simpa using g1 j (by simpa using h1) (by simpa using h2))
        have e1 : ds.length = its.length := t1.length.trans v1.length
        have e2 : es.length = its2.length := t2.length.trans v2.length
        rw [e1, e2, ← g2]
        simpa using r
    | lck s2 t2 => cases q
    | @ref a p2 ea =>
      cases w2
      obtain ⟨rfl, hp⟩ := refs a p2 q ea
      rcases hp with ⟨us, e3⟩ | ⟨⟨us, e3⟩, hz⟩
      · obtain ⟨its, _, pl, _⟩ := I.list (SqL.of e3); exact .tuple_list p pl.isList hu0
      · exact rc_tuple_dict (isD_of I e3) p hu0
  | @ref a p1 ea =>
    cases w1
    obtain ⟨oa, eoa, oxa⟩ := hr.get ea
    have left : ∀ {T : Prop}, ((if (h[a]?.map O.plain) = some true then some false else none) = some b) → (b = false → (∃ its, s.heap.IsList p1 its) ∨ (IsD s.heap p1 ∧ isDic h (.ref a) = true) → T) → T := fun {T} q' k => by
      obtain ⟨rfl, hp⟩ := refs a p1 q' ea
      refine k rfl ?_
      rcases hp with ⟨us, e3⟩ | ⟨⟨us, e3⟩, hz⟩
      · obtain ⟨its, _, pl, _⟩ := I.list (SqL.of e3); exact .inl ⟨_, pl.isList⟩
      · exact .inr ⟨isD_of I e3, hz⟩
    cases r2 with
    | non => cases w2; exact left q fun e k => by subst e; exact k.elim (fun ⟨its, l⟩ => .list_none l hu0) (fun d => rc_dict_none d.1 hu0)
    | bl j => cases w2; exact left q fun e k => by subst e; exact k.elim (fun ⟨its, l⟩ => .list_bool _ l hu0) (fun d => rc_dict_bool _ d.1 hu0)
    | int j => obtain ⟨t', rfl⟩ := w2; exact left q fun e k => by subst e; exact k.elim (fun ⟨its, l⟩ => .list_int _ _ l hu0) (fun d => rc_dict_int _ _ d.1 hu0)
    | str j zj => obtain ⟨t', rfl⟩ := w2; exact left q fun e k => by subst e; exact k.elim (fun ⟨its, l⟩ => .list_str _ _ l hu0) (fun d => rc_dict_str _ _ d.1 hu0)
    | @tup p2 es us s2 t2 =>
      cases w2
      obtain ⟨its2, v2, p', _⟩ := I.tuple s2
      exact left q fun e k => by subst e; exact k.elim (fun ⟨its, l⟩ => .list_tuple l p' hu0) (fun d => rc_dict_tuple d.1 p' hu0)
    | lck s2 t2 => cases q
    | @ref b' p2 eb =>
      cases w2
      obtain ⟨ob, eob, oxb⟩ := hr.get eb
      by_cases hab : a = b'
      · subst hab
        rw [ea] at eb; cases eb
        have q0 : (if a = a then (if isDic h (.ref a) then none else eqD h deep (.ref a) (.ref a)) else eqD h deep (.ref a) (.ref a)) = some b := q
        rw [if_pos rfl] at q0
        clear q left
        have q := q0
        cases oa with
        | lst ds =>
          obtain ⟨vs, e3, t1⟩ := oxa
          obtain ⟨its, v1, pl, _⟩ := I.list (SqL.of e3)
          have q2 : b = true := eqD_same I hr 60 _ _ _ b (.ref ea) (.ref ea) (by
            split at q
            · cases q
            · exact q)
          subst q2
          have r := SeqAt.RcAt.lists (e := fun _ => true) pl.isList pl.isList rfl hu0 (fun j h1 h2 => SeqAt.EqAt.same _)
          rw [show (List.range its.toArray.size).all (fun _ => true) = true by simp] at r
          exact r
        | dic ds =>
          have z : isDic h (.ref a) = true := by simp [isDic, eoa]
          rw [if_pos z] at q; cases q
        | ins _ _ =>
          have z : ¬ isDic h (.ref a) = true := by simp [isDic, eoa]
          rw [if_neg z] at q
          have q1 : (if a = a then (if (h[a]?.map O.plain) = some true then some true else none) else eqRef (eqD h 59) h a a) = some b := q
          rw [if_pos rfl, eoa] at q1
          exact absurd q1 (by simp [O.plain])
      · have q0 : (if a = b' then (if isDic h (.ref a) then none else eqD h deep (.ref a) (.ref b')) else (if a = b' then (if (h[a]?.map O.plain) = some true then some true else none) else eqRef (eqD h 59) h a b')) = some b := q
        rw [if_neg hab, if_neg hab] at q0
        clear q left
        have q := q0
        simp only [eqRef, eoa, eob] at q
        cases oa with
        | lst ds =>
          obtain ⟨vs, e3, t1⟩ := oxa
          obtain ⟨its, v1, pl, _⟩ := I.list (SqL.of e3)
          cases ob with
          | lst es =>
            obtain ⟨us, e4, t2⟩ := oxb
            obtain ⟨its2, v2, pl2, _⟩ := I.list (SqL.of e4)
            simp only [O.seq?] at q
            have e1 : ds.length = its.length := t1.length.trans v1.length
            have e2 : es.length = its2.length := t2.length.trans v2.length
            split at q
            · rename_i hl
              obtain ⟨g, g1, g2⟩ := eqL_at (R := fun _ _ => True) ih ds es vs us its its2 b t1 t2 v1 v2 q
              have r := SeqAt.RcAt.lists (e := g) pl.isList pl2.isList (by simp; omega) hu0 (fun j h1 h2 => by simpa using g1 j (by simpa using h1) (by simpa using h2))
              have em : min its.length its2.length = its.length := by omega
              rw [em] at g2
              rw [← g2]
              simpa using r
            · rename_i hl
              cases q
              exact SeqAt.RcAt.lists_lengths pl.isList pl2.isList (by simp; omega) hu0
          | dic es =>
            obtain ⟨us, e4, _⟩ := oxb
            simp [O.seq?, O.plain] at q
            subst q
            exact rc_list_dict (isD_of I e4) pl.isList hu0
          | ins _ _ => simp [O.seq?, O.plain] at q
        | dic ds =>
          obtain ⟨vs, e3, t1⟩ := oxa
          cases ob with
          | lst es =>
            obtain ⟨us, e4, t2⟩ := oxb
            obtain ⟨its2, v2, pl2, _⟩ := I.list (SqL.of e4)
            simp [O.seq?, O.plain] at q
            subst q
            exact rc_dict_list (isD_of I e3) pl2.isList hu0
          | dic es => simp [O.seq?] at q
          | ins _ _ => simp [O.seq?] at q
        | ins _ _ =>
          cases ob with
          | lst es => simp [O.seq?, O.plain] at q
          | dic es => simp [O.seq?] at q
          | ins _ _ => simp [O.seq?] at q
theorem rnD_at (I : Inv X pins σ H s) (hr : HRel X.K cl ρ H h) (d e : D) (x y : V) (v u : Value) (b : Bool) (A : Around) (hu : A.units + 64 < cLine) (hd1 : isDic h d = false) (hd2 : isDic h e = false) (r1 : Rep X.K ρ H d x) (r2 : Rep X.K ρ H e y) (w1 : RelV x v) (w2 : RelV y u) (q : eqT h d e = some b) : SeqAt.RcNeAt A s v u (!b) := by
  have hu0 : A.units < cLine := by omega
  have ih := fun d e x y v u b => eqD_at I hr 59 d e x y v u b A.in1 (by show A.units + 1 + 59 < cLine; omega)
  have refs : ∀ (a : Nat) (p : Addr) (q' : (if (h[a]?.map O.plain) = some true then some false else none) = some b), ρ[a]? = some p → b = false ∧ ((∃ us, H p = some (.lst us)) ∨ ((∃ us, H p = some (.dK us)) ∧ isDic h (.ref a) = true)) := fun a p q' ea => by
    obtain ⟨o, eo, ox⟩ := hr.get ea
    rw [eo] at q'
    cases o with
    | lst us => obtain ⟨us, e3, _⟩ := ox; simp [O.plain] at q'; exact ⟨q', .inl ⟨us, e3⟩⟩
    | dic us => obtain ⟨us, e3, _⟩ := ox; simp [O.plain] at q'; exact ⟨q', .inr ⟨⟨us, e3⟩, by simp [isDic, eo]⟩⟩
    | ins _ _ => exact absurd q' (by simp [O.plain])
  cases r1 with
  | non =>
    cases w1
    cases r2 with
    | non => cases w2; cases q; exact .none_none
    | bl j => cases w2; cases q; exact .none_bool _
    | int j => obtain ⟨t', rfl⟩ := w2; cases q; exact .none_int _ _
    | str j zj => obtain ⟨t', rfl⟩ := w2; cases q; exact .none_str _ _
    | tup s2 t2 => cases w2; cases q; obtain ⟨its, _, p, _⟩ := I.tuple s2; exact .none_tuple p hu0
    | lck s2 t2 => cases q
    | @ref a p ea =>
      cases w2
      obtain ⟨rfl, hp⟩ := refs a p q ea
      rcases hp with ⟨us, e3⟩ | ⟨⟨us, e3⟩, hz⟩
      · obtain ⟨its, _, pl, _⟩ := I.list (SqL.of e3); exact .none_list pl.isList hu0
      · rw [hz] at hd2; cases hd2
  | bl i =>
    cases w1
    cases r2 with
    | non => cases w2; cases q; exact .bool_none _
    | bl j => cases w2; cases q; exact .bool_bool _ _
    | int j => obtain ⟨t', rfl⟩ := w2; cases q; exact .bool_int _ _ _
    | str j zj => obtain ⟨t', rfl⟩ := w2; cases q; exact .bool_str _ _ _
    | tup s2 t2 => cases w2; cases q; obtain ⟨its, _, p, _⟩ := I.tuple s2; exact .bool_tuple _ p hu0
    | lck s2 t2 => cases q
    | @ref a p ea =>
      cases w2
      obtain ⟨rfl, hp⟩ := refs a p q ea
      rcases hp with ⟨us, e3⟩ | ⟨⟨us, e3⟩, hz⟩
      · obtain ⟨its, _, pl, _⟩ := I.list (SqL.of e3); exact .bool_list _ pl.isList hu0
      · rw [hz] at hd2; cases hd2
  | int i =>
    obtain ⟨t, rfl⟩ := w1
    cases r2 with
    | non => cases w2; cases q; exact .int_none _ _
    | bl j => cases w2; cases q; exact .int_bool _ _ _
    | int j => obtain ⟨t', rfl⟩ := w2; cases q; exact .int_int _ _ _ _
    | str j zj => obtain ⟨t', rfl⟩ := w2; cases q; exact .int_str _ _ _ _
    | tup s2 t2 => cases w2; cases q; obtain ⟨its, _, p, _⟩ := I.tuple s2; exact .int_tuple _ _ p hu0
    | lck s2 t2 => cases q
    | @ref a p ea =>
      cases w2
      obtain ⟨rfl, hp⟩ := refs a p q ea
      rcases hp with ⟨us, e3⟩ | ⟨⟨us, e3⟩, hz⟩
      · obtain ⟨its, _, pl, _⟩ := I.list (SqL.of e3); exact .int_list _ _ pl.isList hu0
      · rw [hz] at hd2; cases hd2
  | str i zi =>
    obtain ⟨t, rfl⟩ := w1
    cases r2 with
    | non => cases w2; cases q; exact .str_none _ _
    | bl j => cases w2; cases q; exact .str_bool _ _ _
    | int j => obtain ⟨t', rfl⟩ := w2; cases q; exact .str_int _ _ _ _
    | str j zj => obtain ⟨t', rfl⟩ := w2; cases q; exact .str_str _ _ _ _
    | tup s2 t2 => cases w2; cases q; obtain ⟨its, _, p, _⟩ := I.tuple s2; exact .str_tuple _ _ p hu0
    | lck s2 t2 => cases q
    | @ref a p ea =>
      cases w2
      obtain ⟨rfl, hp⟩ := refs a p q ea
      rcases hp with ⟨us, e3⟩ | ⟨⟨us, e3⟩, hz⟩
      · obtain ⟨its, _, pl, _⟩ := I.list (SqL.of e3); exact .str_list _ _ pl.isList hu0
      · rw [hz] at hd2; cases hd2
  | lck s1 t1 => cases r2 <;> cases q
  | @tup p1 ds vs s1 t1 =>
    cases w1
    obtain ⟨its, v1, p, _⟩ := I.tuple s1
    cases r2 with
    | non => cases w2; cases q; exact .tuple_none p hu0
    | bl j => cases w2; cases q; exact .tuple_bool _ p hu0
    | int j => obtain ⟨t', rfl⟩ := w2; cases q; exact .tuple_int _ _ p hu0
    | str j zj => obtain ⟨t', rfl⟩ := w2; cases q; exact .tuple_str _ _ p hu0
    | @tup p2 es us s2 t2 =>
      cases w2
      obtain ⟨its2, v2, p', _⟩ := I.tuple s2
      have q' : (eqL (eqD h 59) ds es).map (fun b => b && ds.length == es.length) = some b := q
      cases q2 : eqL (eqD h 59) ds es with
      | none => rw [q2] at q'; cases q'
      | some c =>
        rw [q2] at q'
        cases q'
        obtain ⟨g, g1, g2⟩ := eqL_at (R := fun _ _ => True) ih ds es vs us its its2 c t1 t2 v1 v2 q2
        have r := SeqAt.RcNeAt.tuples (e := g) p p' hu0 (fun j h1 h2 => by simpa using g1 j (by simpa using h1) (by simpa using h2))
        have e1 : ds.length = its.length := t1.length.trans v1.length
        have e2 : es.length = its2.length := t2.length.trans v2.length
        rw [e1, e2, ← g2]
        simpa using r
    | lck s2 t2 => cases q
    | @ref a p2 ea =>
      cases w2
      obtain ⟨rfl, hp⟩ := refs a p2 q ea
      rcases hp with ⟨us, e3⟩ | ⟨⟨us, e3⟩, hz⟩
      · obtain ⟨its, _, pl, _⟩ := I.list (SqL.of e3); exact .tuple_list p pl.isList hu0
      · rw [hz] at hd2; cases hd2
  | @ref a p1 ea =>
    cases w1
    obtain ⟨oa, eoa, oxa⟩ := hr.get ea
    have left : ∀ {T : Prop}, ((if (h[a]?.map O.plain) = some true then some false else none) = some b) → (b = false → (∃ its, s.heap.IsList p1 its) ∨ (IsD s.heap p1 ∧ isDic h (.ref a) = true) → T) → T := fun {T} q' k => by
      obtain ⟨rfl, hp⟩ := refs a p1 q' ea
      refine k rfl ?_
      rcases hp with ⟨us, e3⟩ | ⟨⟨us, e3⟩, hz⟩
      · obtain ⟨its, _, pl, _⟩ := I.list (SqL.of e3); exact .inl ⟨_, pl.isList⟩
      · exact .inr ⟨isD_of I e3, hz⟩
    cases r2 with
    | non => cases w2; exact left q fun e k => by subst e; exact k.elim (fun ⟨its, l⟩ => .list_none l hu0) (fun d => by rw [d.2] at hd1; cases hd1)
    | bl j => cases w2; exact left q fun e k => by subst e; exact k.elim (fun ⟨its, l⟩ => .list_bool _ l hu0) (fun d => by rw [d.2] at hd1; cases hd1)
    | int j => obtain ⟨t', rfl⟩ := w2; exact left q fun e k => by subst e; exact k.elim (fun ⟨its, l⟩ => .list_int _ _ l hu0) (fun d => by rw [d.2] at hd1; cases hd1)
    | str j zj => obtain ⟨t', rfl⟩ := w2; exact left q fun e k => by subst e; exact k.elim (fun ⟨its, l⟩ => .list_str _ _ l hu0) (fun d => by rw [d.2] at hd1; cases hd1)
    | @tup p2 es us s2 t2 =>
      cases w2
      obtain ⟨its2, v2, p', _⟩ := I.tuple s2
      exact left q fun e k => by subst e; exact k.elim (fun ⟨its, l⟩ => .list_tuple l p' hu0) (fun d => by rw [d.2] at hd1; cases hd1)
    | lck s2 t2 => cases q
    | @ref b' p2 eb =>
      cases w2
      obtain ⟨ob, eob, oxb⟩ := hr.get eb
      by_cases hab : a = b'
      · subst hab
        rw [ea] at eb; cases eb
        have q0 : (if a = a then (if isDic h (.ref a) then none else eqD h deep (.ref a) (.ref a)) else eqD h deep (.ref a) (.ref a)) = some b := q
        rw [if_pos rfl] at q0
        clear q left
        have q := q0
        cases oa with
        | lst ds =>
          obtain ⟨vs, e3, t1⟩ := oxa
          obtain ⟨its, v1, pl, _⟩ := I.list (SqL.of e3)
          have q2 : b = true := eqD_same I hr 60 _ _ _ b (.ref ea) (.ref ea) (by
            split at q
            · cases q
            · exact q)
          subst q2
          have r := SeqAt.RcNeAt.lists (e := fun _ => true) pl.isList pl.isList rfl hu0 (fun j h1 h2 => SeqAt.EqAt.same _)
          rw [show (List.range its.toArray.size).all (fun _ => true) = true by simp] at r
          exact r
        | dic ds =>
          have z : isDic h (.ref a) = true := by simp [isDic, eoa]
          rw [if_pos z] at q; cases q
        | ins _ _ =>
          have z : ¬ isDic h (.ref a) = true := by simp [isDic, eoa]
          rw [if_neg z] at q
          have q1 : (if a = a then (if (h[a]?.map O.plain) = some true then some true else none) else eqRef (eqD h 59) h a a) = some b := q
          rw [if_pos rfl, eoa] at q1
          exact absurd q1 (by simp [O.plain])
      · have q0 : (if a = b' then (if isDic h (.ref a) then none else eqD h deep (.ref a) (.ref b')) else (if a = b' then (if (h[a]?.map O.plain) = some true then some true else none) else eqRef (eqD h 59) h a b')) = some b := q
        rw [if_neg hab, if_neg hab] at q0
        clear q left
        have q := q0
        simp only [eqRef, eoa, eob] at q
        cases oa with
        | lst ds =>
          obtain ⟨vs, e3, t1⟩ := oxa
          obtain ⟨its, v1, pl, _⟩ := I.list (SqL.of e3)
          cases ob with
          | lst es =>
            obtain ⟨us, e4, t2⟩ := oxb
            obtain ⟨its2, v2, pl2, _⟩ := I.list (SqL.of e4)
            simp only [O.seq?] at q
            have e1 : ds.length = its.length := t1.length.trans v1.length
            have e2 : es.length = its2.length := t2.length.trans v2.length
            split at q
            · rename_i hl
              obtain ⟨g, g1, g2⟩ := eqL_at (R := fun _ _ => True) ih ds es vs us its its2 b t1 t2 v1 v2 q
              have r := SeqAt.RcNeAt.lists (e := g) pl.isList pl2.isList (by simp; omega) hu0 (fun j h1 h2 => by simpa using g1 j (by simpa using h1) (by simpa using h2))
              have em : min its.length its2.length = its.length := by omega
              rw [em] at g2
              rw [← g2]
              simpa using r
            · rename_i hl
              cases q
              exact SeqAt.RcNeAt.lists_lengths pl.isList pl2.isList (by simp; omega) hu0
          | dic es =>
            obtain ⟨us, e4, _⟩ := oxb
            simp [O.seq?, O.plain] at q
            subst q
            exact absurd hd2 (by simp [isDic, eob])
          | ins _ _ => simp [O.seq?, O.plain] at q
        | dic ds =>
          obtain ⟨vs, e3, t1⟩ := oxa
          cases ob with
          | lst es =>
            obtain ⟨us, e4, t2⟩ := oxb
            obtain ⟨its2, v2, pl2, _⟩ := I.list (SqL.of e4)
            simp [O.seq?, O.plain] at q
            subst q
            exact absurd hd1 (by simp [isDic, eoa])
          | dic es => simp [O.seq?] at q
          | ins _ _ => simp [O.seq?] at q
        | ins _ _ =>
          cases ob with
          | lst es => simp [O.seq?, O.plain] at q
          | dic es => simp [O.seq?] at q
          | ins _ _ => simp [O.seq?] at q
end
end IX
end

section
set_option Elab.async false
set_option linter.all false
set_option maxRecDepth 100000
set_option maxHeartbeats 2000000
/-! IX5: the other operators by value. -/
namespace IX
open PySem PySem.Spec PyProof.Rows L2
section
variable {X : Cx} {cl : Nat → Option Addr}
theorem op_subB : OpR X (binaryOp .Sub) (rB X.K cl .sub) := by
  intro pins s σ H x y v u Q I rx ry h
  obtain ⟨ρ, h, d, e, z, hr, r1, r2, w⟩ := h
  cases r1 with
  | int i =>
    cases r2 with
    | int j => exact op_sub pins s σ H _ _ v u Q I rx ry ⟨i, j, rfl, rfl, PostE.now hr (.int _) w⟩
    | _ => exact (show False from w).elim
  | _ => exact (show False from w).elim
theorem op_fdivB : OpR X (binaryOp .FloorDiv) (rB X.K cl .fdiv) := by
  intro pins s σ H x y v u Q I rx ry h
  obtain ⟨ρ, h, d, e, z, hr, r1, r2, w⟩ := h
  cases r1 with
  | int i =>
    cases r2 with
    | int j =>
      have w1 : WR (if 0 < j ∧ j < 2 ^ 1000 then R.ok (.int (i / j)) h else .bad) (PostE X.K cl ρ H Q) z := w
      by_cases c : 0 < j ∧ j < 2 ^ 1000
      · rw [if_pos c] at w1
        have c2 : j.natAbs < 2 ^ 1000 := by
          have := c.2
          have := c.1
          omega
        exact op_fdivW pins s σ H _ _ v u Q I rx ry ⟨i, j, rfl, rfl, wide_div c.1 c2 (by decide) (by decide), PostE.now hr (.int _) w1⟩
      · rw [if_neg c] at w1; exact (show False from w1).elim
    | _ => exact (show False from w).elim
  | _ => exact (show False from w).elim
theorem op_modB : OpR X (binaryOp .Mod) (rB X.K cl .mod) := by
  intro pins s σ H x y v u Q I rx ry h
  obtain ⟨ρ, h, d, e, z, hr, r1, r2, w⟩ := h
  cases r1 with
  | int i =>
    cases r2 with
    | int j =>
      have w1 : WR (if 0 < j then R.ok (.int (i % j)) h else .bad) (PostE X.K cl ρ H Q) z := w
      by_cases c : 0 < j
      · rw [if_pos c] at w1
        exact op_mod pins s σ H _ _ v u Q I rx ry ⟨i, j, rfl, rfl, c, PostE.now hr (.int _) w1⟩
      · rw [if_neg c] at w1; exact (show False from w1).elim
    | _ => exact (show False from w).elim
  | _ => exact (show False from w).elim
theorem op_powB : OpR X (binaryOp .Pow) (rB X.K cl .pow) := by
  intro pins s σ H x y v u Q I rx ry h
  obtain ⟨ρ, h, d, e, z, hr, r1, r2, w⟩ := h
  cases r1 with
  | int i =>
    cases r2 with
    | int j =>
      have w1 : WR (if 0 ≤ j ∧ j ≤ 1000000 ∧ i.natAbs < 2 ^ 64 then R.ok (.int (i ^ j.toNat)) h else .bad) (PostE X.K cl ρ H Q) z := w
      by_cases c : 0 ≤ j ∧ j ≤ 1000000 ∧ i.natAbs < 2 ^ 64
      · rw [if_pos c] at w1
        exact op_pow pins s σ H _ _ v u Q I rx ry ⟨i, j, rfl, rfl, c, PostE.now hr (.int _) w1⟩
      · rw [if_neg c] at w1; exact (show False from w1).elim
    | _ => exact (show False from w).elim
  | _ => exact (show False from w).elim
theorem Reps.rep {K : PySem.W.Frag} {ρ : Rho} {H : Hp} {ds : List D} {vs : List V} (r : Reps K ρ H ds vs) : ∀ n : Nat, Reps K ρ H (List.replicate n ds).flatten (List.replicate n vs).flatten
  | 0 => .nil
  | n + 1 => by
    rw [List.replicate_succ, List.replicate_succ, List.flatten_cons, List.flatten_cons]
    exact r.append (Reps.rep r n)
theorem op_mulB : OpR X (binaryOp .Mult) (rB X.K cl .mul) := by
  intro pins s σ H x y v u Q I rx ry h
  obtain ⟨ρ, h, d, e, z, hr, r1, r2, w⟩ := h
  have hl : sizeLine = line := sizeLine_eq
  cases r1 with
  | int i =>
    cases r2 with
    | int j =>
      have w1 : WR (if i.natAbs < 2 ^ 64 ∨ j.natAbs < 2 ^ 64 then R.ok (.int (i * j)) h else .bad) (PostE X.K cl ρ H Q) z := w
      by_cases c : i.natAbs < 2 ^ 64 ∨ j.natAbs < 2 ^ 64
      · rw [if_pos c] at w1
        have c2 : CMul i j := by
          rcases c with c | c
          · exact .inl ⟨by omega, by omega⟩
          · exact .inr ⟨by omega, by omega⟩
        exact op_mul pins s σ H _ _ v u Q I rx ry ⟨i, j, rfl, rfl, c2, PostE.now hr (.int _) w1⟩
      · rw [if_neg c] at w1; exact (show False from w1).elim
    | _ => exact (show False from w).elim
  | @ref a p ea =>
    cases r2 with
    | int k =>
      have w1 : WR (match h[a]? with
        | some (.lst xs) => if -(2 ^ 62) ≤ k ∧ k ≤ 2 ^ 62 ∧ xs.length * k.toNat ≤ line then R.new (.lst (List.replicate k.toNat xs).flatten) h else .bad
        | _ => .bad) (PostE X.K cl ρ H Q) z := w
      cases eo : h[a]? with
      | none => rw [eo] at w1; exact (show False from w1).elim
      | some o =>
        rw [eo] at w1
        cases o with
        | lst xs =>
          dsimp only at w1
          obtain ⟨vs, e3, t⟩ := obj_lst hr ea eo
          by_cases c : -(2 ^ 62) ≤ k ∧ k ≤ 2 ^ 62 ∧ xs.length * k.toNat ≤ line
          · rw [if_pos c] at w1
            exact op_rep pins s σ H _ _ v u Q I rx ry ⟨p, k, vs, rfl, rfl, e3, by omega, by omega, by rw [← t.length, hl]; exact c.2.2, fun q n => new_lst hr (t.rep _) w1 q n⟩
          · rw [if_neg c] at w1; exact (show False from w1).elim
        | dic _ => exact (show False from w1).elim
        | ins _ _ => exact (show False from w1).elim
    | _ => exact (show False from w).elim
  | _ => exact (show False from w).elim
theorem wr_bl {K : PySem.W.Frag} {ρ : Rho} {H : Hp} {h : Hh} {Q : VK} {z : Nat → List (Str × D) → Hh → Prop} {o : Option Bool} (hr : HRel K cl ρ H h) (w : WR (bl! o h) (PostE K cl ρ H Q) z) : ∃ b, o = some b ∧ Q (.bl b) H := by
  cases o with
  | none => exact (show False from w).elim
  | some b => exact ⟨b, rfl, PostE.now hr (.bl b) w⟩
theorem wr_neD {K : PySem.W.Frag} {ρ : Rho} {H : Hp} {h : Hh} {Q : VK} {z : Nat → List (Str × D) → Hh → Prop} {o : Option Bool} (hr : HRel K cl ρ H h) (w : WR (neD o h) (PostE K cl ρ H Q) z) : ∃ b, o = some b ∧ Q (.bl (!b)) H := by
  cases o with
  | none => exact (show False from w).elim
  | some b => exact ⟨b, rfl, PostE.now hr (.bl _) w⟩
theorem op_eqB (hu : X.A.units + 64 < cLine) : OpR X (compareOp .Eq) (rB X.K cl .eq) := by
  intro pins s σ H x y v u Q I rx ry h
  obtain ⟨ρ, h, d, e, z, hr, r1, r2, w⟩ := h
  obtain ⟨b, q, k⟩ := wr_bl hr w
  exact rcD_at I hr d e x y v u b X.A hu r1 r2 rx ry q X.prog X.w X.xe _ ⟨.bl b, H, I, rfl, k⟩
theorem op_neB (hu : X.A.units + 64 < cLine) : OpR X (compareOp .NotEq) (rB X.K cl .ne) := by
  intro pins s σ H x y v u Q I rx ry h
  obtain ⟨ρ, h, d, e, z, hr, r1, r2, w⟩ := h
  obtain ⟨b, q, k⟩ := wr_bl hr w
  unfold neT at q
  split at q
  · cases q
  · rename_i hd
    cases q2 : eqT h d e with
    | none => rw [q2] at q; cases q
    | some c =>
      rw [q2] at q
      cases q
      have hd' : isDic h d = false ∧ isDic h e = false := by simpa using hd
      exact rnD_at I hr d e x y v u c X.A hu hd'.1 hd'.2 r1 r2 rx ry q2 X.prog X.w X.xe _ ⟨.bl _, H, I, rfl, k⟩
theorem op_cmpB {op : CmpOp} {o : Op} {p : Int → Int → Bool} (ho : ∀ x y h, binop o x y h = cmpD p x y h) (rule : OpR X (compareOp op) (rI0 fun i j => .bl (p i j))) : OpR X (compareOp op) (rB X.K cl o) := by
  intro pins s σ H x y v u Q I rx ry h
  obtain ⟨ρ, h, d, e, z, hr, r1, r2, w⟩ := h
  rw [ho] at w
  cases r1 with
  | int i =>
    cases r2 with
    | int j => exact rule pins s σ H _ _ v u Q I rx ry ⟨i, j, rfl, rfl, PostE.now hr (.bl _) w⟩
    | _ => exact (show False from w).elim
  | _ => exact (show False from w).elim
theorem op_ltB : OpR X (compareOp .Lt) (rB X.K cl .lt) := op_cmpB (fun _ _ _ => rfl) op_lt
theorem op_leB : OpR X (compareOp .LtE) (rB X.K cl .le) := op_cmpB (fun _ _ _ => rfl) op_le
theorem op_gtB : OpR X (compareOp .Gt) (rB X.K cl .gt) := op_cmpB (fun _ _ _ => rfl) op_gt
theorem op_geB : OpR X (compareOp .GtE) (rB X.K cl .ge) := op_cmpB (fun _ _ _ => rfl) op_ge
/-- is, by values -/
theorem isD_at {K : PySem.W.Frag} {ρ : Rho} {H : Hp} {d e : D} {x y : V} {v u : Value} {b : Bool} {M : Model} {A : Around} {E : Value → Shared → Prop} {s : Shared} {Q : Bool → Shared → Prop} (r1 : Rep K ρ H d x) (r2 : Rep K ρ H e y) (rx : RelV x v) (ry : RelV y u) (q : isD d e = some b) (h : Q b s) :
    wpAny M A (isSame v u) Q E s := by
  cases r2 with
  | non =>
    cases ry
    cases r1 with
    | non => cases rx; cases q; exact wpAny_pure h
    | bl _ => cases rx; cases q; exact wpAny_pure h
    | int _ => obtain ⟨t, rfl⟩ := rx; cases q; exact wpAny_pure h
    | str _ _ => obtain ⟨t, rfl⟩ := rx; cases q; exact wpAny_pure h
    | tup _ _ => cases rx; cases q; exact wpAny_pure h
    | lck _ _ => cases rx; cases q; exact wpAny_pure h
    | ref _ => cases rx; cases q; exact wpAny_pure h
  | bl j =>
    cases ry
    cases r1 with
    | non => cases rx; cases q; exact wpAny_pure h
    | bl i => cases rx; cases q; exact wpAny_pure (by revert h; cases i <;> cases j <;> exact id)
    | int _ => obtain ⟨t, rfl⟩ := rx; cases q; exact wpAny_pure h
    | str _ _ => obtain ⟨t, rfl⟩ := rx; cases q; exact wpAny_pure h
    | tup _ _ => cases rx; cases q; exact wpAny_pure h
    | lck _ _ => cases rx; cases q; exact wpAny_pure h
    | ref _ => cases rx; cases q; exact wpAny_pure h
  | _ => cases r1 <;> cases q
theorem op_isB : OpR X (compareOp .Is) (rB X.K cl .is_) := by
  intro pins s σ H x y v u Q I rx ry h
  obtain ⟨ρ, h, d, e, z, hr, r1, r2, w⟩ := h
  obtain ⟨b, q, k⟩ := wr_bl hr w
  show wpAny _ _ (do return Value.bool (← isSame v u) : Sem Value) _ _ s
  exact wpAny_bind (isD_at r1 r2 rx ry q (wpAny_pure ⟨.bl b, H, I, rfl, k⟩))
theorem op_isnotB : OpR X (compareOp .IsNot) (rB X.K cl .isnot) := by
  intro pins s σ H x y v u Q I rx ry h
  obtain ⟨ρ, h, d, e, z, hr, r1, r2, w⟩ := h
  obtain ⟨b, q, k⟩ := wr_neD hr w
  show wpAny _ _ (do return Value.bool (!(← isSame v u)) : Sem Value) _ _ s
  exact wpAny_bind (isD_at r1 r2 rx ry q (wpAny_pure ⟨.bl _, H, I, rfl, k⟩))
/-! ### in -/
/-- the items' answers one by one -/
theorem anyD_pairs {h : Hh} {pins : List (Addr × Obj)} {s : Shared} {σ : L2.St} {H : Hp} {ρ : Rho} (I : Inv X pins σ H s) (hr : HRel X.K cl ρ H h) {A : Around} (hu : A.units + 60 < cLine) {d : D} {x : V} {v : Value} (r1 : Rep X.K ρ H d x) (rx : RelV x v) :
    ∀ (ds : List D) (vs : List V) (us : List Value) (b : Bool), Reps X.K ρ H ds vs → Vals vs us → anyD h d ds = some b → ∃ bs : List Bool, Paired (fun y c => SeqAt.EqAt A s y v c) us bs ∧ bs.any id = b
  | [], _, _, b, t, w, q => by
    cases t; cases w; cases q
    exact ⟨[], .nil, rfl⟩
  | e :: ds, _, _, b, .cons a t, .cons w1 w, q => by
    unfold anyD at q
    cases q1 : eqD h deep e d with
    | none => rw [q1] at q; cases q
    | some c =>
      cases q2 : anyD h d ds with
      | none => rw [q1, q2] at q; cases q
      | some c2 =>
        rw [q1, q2] at q
        cases q
        obtain ⟨bs, p, e2⟩ := anyD_pairs I hr hu r1 rx ds _ _ c2 t w q2
        refine ⟨c :: bs, .cons (eqD_at I hr deep e d _ _ _ _ c A hu a r1 w1 rx q1) p, ?_⟩
        rw [List.any_cons, e2]
        rfl
theorem paired_fun {A : Around} {s : Shared} {v : Value} : ∀ (us : List Value) (bs : List Bool), Paired (fun y c => SeqAt.EqAt A s y v c) us bs → ∃ e : Value → Bool, (∀ y ∈ us, SeqAt.EqAt A s y v (e y)) ∧ us.any e = bs.any id := by
  intro us bs p
  classical
  refine ⟨fun y => decide (∃ q ∈ us.zip bs, q.1 = y ∧ q.2 = true), fun y hy => ?_, ?_⟩
  · show SeqAt.EqAt A s y v (decide (∃ q ∈ us.zip bs, q.1 = y ∧ q.2 = true))
    by_cases c : ∃ q ∈ us.zip bs, q.1 = y ∧ q.2 = true
    · rw [decide_eq_true c]
      obtain ⟨⟨y', b⟩, hq, e1, e2⟩ := c
      simp only at e1 e2
      subst e1 e2
      clear hy
      induction p with
      | nil => simp at hq
      | cons r t ih =>
        rw [List.zip_cons_cons] at hq
        rcases List.mem_cons.mp hq with e | hq
        · cases e; exact r
        · exact ih hq
    · rw [decide_eq_false c]
      induction p with
      | nil => simp at hy
      | @cons a b l1 l2 r t ih =>
        rcases List.mem_cons.mp hy with e | hy
        · subst e
          cases b with
          | true => exact absurd ⟨(y, true), by rw [List.zip_cons_cons]; exact List.mem_cons_self, rfl, rfl⟩ c
          | false => exact r
        · exact ih hy fun ⟨q, hq, z⟩ => c ⟨q, by rw [List.zip_cons_cons]; exact List.mem_cons_of_mem _ hq, z⟩
  · have hl : us.length = bs.length := p.length
    rw [Bool.eq_iff_iff, List.any_eq_true, List.any_eq_true]
    constructor
    · rintro ⟨y, _, hy⟩
      obtain ⟨q, hq, _, e2⟩ := of_decide_eq_true hy
      exact ⟨q.2, (List.of_mem_zip hq).2, e2⟩
    · rintro ⟨b, hb, e⟩
      obtain ⟨i, hi, ei⟩ := List.getElem_of_mem hb
      refine ⟨us[i], List.getElem_mem _, decide_eq_true ⟨(us[i], bs[i]), ?_, rfl, ?_⟩⟩
      · exact List.mem_iff_getElem.mpr ⟨i, by rw [List.length_zip]; omega, List.getElem_zip⟩
      · rw [ei]; exact e
/-- a key's place in a dict -/
theorem keyD_kV {K : PySem.W.Frag} {ρ : Rho} {H : Hp} {d : D} {x : V} {k : Key} (r : Rep K ρ H d x) (e : keyD d = some k) : x = kV k := by
  cases r <;> cases e <;> rfl
theorem look_rel {K : PySem.W.Frag} {ρ : Rho} {H : Hp} {k : D} {j : Key} (e : keyD k = some j) : ∀ {kvs : List (D × D)} {ks : List (Key × V)}, RepK K ρ H kvs ks → (∀ d, lookD k kvs = some d → ∃ v, valV ks j = some v ∧ Rep K ρ H d v) ∧ (lookD k kvs = none → valV ks j = none)
  | _, _, .nil => ⟨fun d q => (nomatch q), fun _ => rfl⟩
  | _, _, @RepK.cons _ _ _ k1 j1 d1 ds v1 vs e1 a1 b1 r => by
    have ih := look_rel e r
    by_cases c : j1 = j
    · subst c
      have q1 : lookD k ((k1, d1) :: ds) = some d1 := by
        show (if keyD k1 = keyD k then some d1 else lookD k ds) = some d1
        rw [if_pos (e1.trans e.symm)]
      have q2 : valV ((j1, v1) :: vs) j1 = some v1 := by simp [valV]
      exact ⟨fun d q => by rw [q1] at q; cases q; exact ⟨v1, q2, b1⟩, fun q => by rw [q1] at q; cases q⟩
    · have q1 : lookD k ((k1, d1) :: ds) = lookD k ds := by
        show (if keyD k1 = keyD k then some d1 else lookD k ds) = lookD k ds
        rw [if_neg (fun z => c (by rw [e1, e] at z; exact Option.some.inj z))]
      have q2 : valV ((j1, v1) :: vs) j = valV vs j := by simp [valV, c]
      rw [q1, q2]
      exact ih
theorem RepK.length {K : PySem.W.Frag} {ρ : Rho} {H : Hp} : ∀ {kvs : List (D × D)} {ks : List (Key × V)}, RepK K ρ H kvs ks → kvs.length = ks.length
  | _, _, .nil => rfl
  | _, _, .cons _ _ _ r => congrArg Nat.succ (RepK.length r)
theorem RepK.append {K : PySem.W.Frag} {ρ : Rho} {H : Hp} : ∀ {kvs kvs2 : List (D × D)} {ks ks2 : List (Key × V)}, RepK K ρ H kvs ks → RepK K ρ H kvs2 ks2 → RepK K ρ H (kvs ++ kvs2) (ks ++ ks2)
  | _, _, _, _, .nil, s => s
  | _, _, _, _, .cons e a b r, s => .cons e a b (RepK.append r s)
theorem put_rel {K : PySem.W.Frag} {ρ : Rho} {H : Hp} {k d : D} {j : Key} {v : V} (e : keyD k = some j) (a : Rep K ρ H k (kV j)) (b : Rep K ρ H d v) {kvs : List (D × D)} {ks : List (Key × V)} (r : RepK K ρ H kvs ks) : RepK K ρ H (putD k d kvs) (putK ks j v) := by
  have hany : ∀ {kvs : List (D × D)} {ks : List (Key × V)}, RepK K ρ H kvs ks → (kvs.any fun p => decide (keyD p.1 = keyD k)) = ks.any fun p => decide (p.1 = j) := by
    intro kvs ks r
    induction r with
    | nil => rfl
    | @cons k1 j1 d1 ds v1 vs e1 a1 b1 r ih =>
      rw [List.any_cons, List.any_cons, ih]
      congr 1
      show decide (keyD k1 = keyD k) = decide (j1 = j)
      rw [e1, e]
      simp
  have hmap : ∀ {kvs : List (D × D)} {ks : List (Key × V)}, RepK K ρ H kvs ks → RepK K ρ H (kvs.map (fun p => if keyD p.1 = keyD k then (p.1, d) else p)) (ks.map (fun p => if p.1 = j then (p.1, v) else p)) := by
    intro kvs ks r
    induction r with
    | nil => exact .nil
    | @cons k1 j1 d1 ds v1 vs e1 a1 b1 r ih =>
      rw [List.map_cons, List.map_cons]
      by_cases c : j1 = j
      · subst c
        have c2 : keyD k1 = keyD k := e1.trans e.symm
        simp only [if_pos c2, if_true]
        exact .cons e1 a1 b ih
      · have c2 : ¬ keyD k1 = keyD k := fun z => c (by rw [e1, e] at z; exact Option.some.inj z)
        simp only [if_neg c2, if_neg c]
        exact .cons e1 a1 b1 ih
  unfold putD putK
  rw [hany r]
  by_cases c : (ks.any fun p => decide (p.1 = j)) = true
  · rw [if_pos c, if_pos c]; exact hmap r
  · rw [if_neg c, if_neg c]; exact r.append (.cons e a b .nil)
theorem inD_at (hu : X.A.units + 65 < cLine) (neg : Bool) (op : CmpOp) (hop : op = if neg then .NotIn else .In) {pins : List (Addr × Obj)} {s : Shared} {σ : L2.St} {H : Hp} {ρ : Rho} {h : Hh} {d e : D} {x y : V} {v u : Value} {b : Bool} {Q : VK}
    (I : Inv X pins σ H s) (hr : HRel X.K cl ρ H h) (r1 : Rep X.K ρ H d x) (r2 : Rep X.K ρ H e y) (rx : RelV x v) (ry : RelV y u) (q : inD d e h = some b) (k : Q (.bl (if neg then !b else b)) H) : wpAny (model X.prog X.w) X.A (compareOp op v u) (EP X pins σ Q) X.xe s := by
  have fin : ∀ {c : Bool}, c = b → EP X pins σ Q (.bool (if neg then !c else c)) s := fun {c} e => by subst e; exact ⟨.bl _, H, I, rfl, k⟩
  have byItems : ∀ (ds : List D) (vs : List V) (us : List Value), Reps X.K ρ H ds vs → Vals vs us → anyD h d ds = some b → ∃ e : Value → Bool, (∀ y ∈ us.toArray, SeqAt.EqAt X.A.in1 s y v (e y)) ∧ us.toArray.any e = b := fun ds vs us t w q => by
    obtain ⟨bs, p, eb⟩ := anyD_pairs I hr (A := X.A.in1) (by show X.A.units + 1 + 60 < cLine; omega) r1 rx ds vs us b t w q
    obtain ⟨f, f1, f2⟩ := paired_fun us bs p
    exact ⟨f, fun y hy => f1 y (by simpa using hy), by rw [show us.toArray.any f = us.any f by simp, f2, eb]⟩
  subst hop
  cases r2 with
  | @tup p ds vs s2 t =>
    cases ry
    obtain ⟨its, w, pl, _⟩ := I.tuple s2
    obtain ⟨f, f1, f2⟩ := byItems ds vs its t w q
    cases neg with
    | false => exact SeqAt.in_tupleAt f pl f1 (fin (c := its.toArray.any f) f2)
    | true => exact SeqAt.notIn_tupleAt f pl f1 (fin (c := its.toArray.any f) f2)
  | str z zz =>
    cases r1 with
    | str a za =>
      have q' : some (!(Builtin.Str.occurrences z a 0 z.length 1).isEmpty) = some b := q
      cases q'
      cases neg with
      | false => exact op_in_str pins s σ H _ _ v u Q I rx ry ⟨a, z, rfl, rfl, k⟩
      | true => exact op_notin_str pins s σ H _ _ v u Q I rx ry ⟨a, z, rfl, rfl, k⟩
    | _ => cases q
  | @ref a p ea =>
    cases ry
    have q' : (match h[a]? with
      | some (.lst ys) => anyD h d ys
      | some (.dic kvs) => if (keyD d).isSome then some (lookD d kvs).isSome else none
      | _ => none) = some b := q
    cases eo : h[a]? with
    | none => rw [eo] at q'; cases q'
    | some o =>
      rw [eo] at q'
      cases o with
      | lst ds =>
        obtain ⟨vs, e3, t⟩ := obj_lst hr ea eo
        obtain ⟨its, w, pl, _⟩ := I.list (SqL.of e3)
        obtain ⟨f, f1, f2⟩ := byItems ds vs its t w q'
        cases neg with
        | false => exact SeqAt.in_listAt f pl.isList f1 (fin (c := its.toArray.any f) f2)
        | true => exact SeqAt.notIn_listAt f pl.isList f1 (fin (c := its.toArray.any f) f2)
      | dic kvs =>
        obtain ⟨ks, e3, t⟩ := obj_dic hr ea eo
        dsimp only at q'
        split at q'
        · rename_i hk
          obtain ⟨j, ej⟩ := Option.isSome_iff_exists.mp hk
          have ex := keyD_kV r1 ej
          subst ex
          have lr := look_rel (k := d) ej t
          have eb : (valV ks j).isSome = b := by
            cases q2 : lookD d kvs with
            | none => rw [q2] at q'; rw [lr.2 q2]; exact Option.some.inj q'
            | some d2 => rw [q2] at q'; obtain ⟨v2, e4, _⟩ := lr.1 d2 q2; rw [e4]; exact Option.some.inj q'
          cases neg with
          | false => exact d_in (by omega) I (DGet.k e3) rx fun s' I' => ⟨.bl _, H, I', rfl, by rw [eb]; exact k⟩
          | true => exact d_notIn (by omega) I (DGet.k e3) rx fun s' I' => ⟨.bl _, H, I', rfl, by rw [eb]; exact k⟩
        · cases q'
      | ins _ _ => cases q'
  | _ => cases q
theorem op_inB (hu : X.A.units + 65 < cLine) : OpR X (compareOp .In) (rB X.K cl .isin) := by
  intro pins s σ H x y v u Q I rx ry h
  obtain ⟨ρ, h, d, e, z, hr, r1, r2, w⟩ := h
  obtain ⟨b, q, k⟩ := wr_bl hr w
  exact inD_at hu false .In rfl I hr r1 r2 rx ry q k
theorem op_notinB (hu : X.A.units + 65 < cLine) : OpR X (compareOp .NotIn) (rB X.K cl .notin) := by
  intro pins s σ H x y v u Q I rx ry h
  obtain ⟨ρ, h, d, e, z, hr, r1, r2, w⟩ := h
  obtain ⟨b, q, k⟩ := wr_neD hr w
  exact inD_at hu true .NotIn rfl I hr r1 r2 rx ry q k
end
end IX
end

section
set_option Elab.async false
set_option linter.all false
set_option maxRecDepth 100000
set_option maxHeartbeats 2000000
/-! IX6: subscripts, slices, truth, isinstance. -/
namespace IX
open PySem PySem.Spec PyProof.Rows L2
section
variable {X : Cx} {cl : Nat → Option Addr}
def rIdx (K : PySem.W.Frag) (cl : Nat → Option Addr) : R2 := fun x y H Q => ∃ ρ h d e z, HRel K cl ρ H h ∧ Rep K ρ H d x ∧ Rep K ρ H e y ∧ WR (idxD d e h) (PostE K cl ρ H Q) z
theorem ix_all (hu : X.A.units + 1 < cLine) : IxR X (rIdx X.K cl) := by
  intro value slice pins s σ H x y v u Q I rx ry h hs
  obtain ⟨ρ, h, d, e, z, hr, r1, r2, w⟩ := h
  have hl : sizeLine = line := sizeLine_eq
  have seqL : ∀ {p : Addr} {ds : List D} {vs : List V} {i : Int}, x = .ref p → y = .int i → SqL X.K H p vs → Reps X.K ρ H ds vs → WR (match L2.atI ds i with | some v => R.ok v h | none => .bad) (PostE X.K cl ρ H Q) z → wpAny (model X.prog X.w) X.A (subscriptTail value slice v u) (EP X pins σ Q) X.xe s := fun {p ds vs i} ex ey sq t w => by
    cases q : L2.atI ds i with
    | none => rw [q] at w; exact (show False from w).elim
    | some d2 =>
      rw [q] at w
      obtain ⟨v2, e2, r3⟩ := t.atI q
      exact ix_list value slice pins s σ H x y v u Q I rx ry ⟨p, vs, i, v2, ex, ey, sq, e2, PostE.now hr r3 w⟩ hs
  cases r1 with
  | @tup p ds vs s1 t =>
    cases r2 with
    | int i =>
      have w' : WR (match L2.atI ds i with | some v => R.ok v h | none => .bad) (PostE X.K cl ρ H Q) z := w
      cases q : L2.atI ds i with
      | none => rw [q] at w'; exact (show False from w').elim
      | some d2 =>
        rw [q] at w'
        obtain ⟨v2, e2, r3⟩ := t.atI q
        exact ix_tup value slice pins s σ H _ _ v u Q I rx ry ⟨p, vs, i, v2, rfl, rfl, s1, e2, PostE.now hr r3 w'⟩ hs
    | _ => exact (show False from w).elim
  | @lck p ds vs s1 t =>
    cases r2 with
    | int i => exact seqL rfl rfl s1.sql t w
    | _ => exact (show False from w).elim
  | str zt zz =>
    cases r2 with
    | int i =>
      have w' : WR (match L2.atI zt.cps.toList i with | some c => R.ok (.str ⟨#[c]⟩) h | none => .bad) (PostE X.K cl ρ H Q) z := w
      cases q : L2.atI zt.cps.toList i with
      | none => rw [q] at w'; exact (show False from w').elim
      | some c =>
        rw [q] at w'
        exact ix_str value slice pins s σ H _ _ v u Q I rx ry ⟨zt, i, c, rfl, rfl, by rw [hl]; exact zz, q, PostE.now hr (.str _ (by show 1 ≤ line; decide)) w'⟩ hs
    | _ => exact (show False from w).elim
  | @ref a p ea =>
    have w' : WR (match h[a]? with
      | some (.lst xs) => match e with
        | .int i => match L2.atI xs i with
          | some v => .ok v h
          | none => .bad
        | _ => .bad
      | some (.dic kvs) => if (keyD e).isSome then match lookD e kvs with
        | some v => .ok v h
        | none => .bad
        else .bad
      | _ => .bad) (PostE X.K cl ρ H Q) z := by cases r2 <;> exact w
    cases eo : h[a]? with
    | none => rw [eo] at w'; exact (show False from w').elim
    | some o =>
      rw [eo] at w'
      cases o with
      | lst ds =>
        obtain ⟨vs, e3, t⟩ := obj_lst hr ea eo
        cases r2 with
        | int i => exact seqL rfl rfl (SqL.of e3) t w'
        | _ => exact (show False from w').elim
      | dic kvs =>
        obtain ⟨ks, e3, t⟩ := obj_dic hr ea eo
        dsimp only at w'
        by_cases hk : (keyD e).isSome = true
        · rw [if_pos hk] at w'
          obtain ⟨j, ej⟩ := Option.isSome_iff_exists.mp hk
          have ex := keyD_kV r2 ej
          subst ex
          have lr := look_rel (k := e) ej t
          cases q2 : lookD e kvs with
          | none => rw [q2] at w'; exact (show False from w').elim
          | some d2 =>
            rw [q2] at w'
            obtain ⟨v2, e4, r4⟩ := lr.1 d2 q2
            cases rx
            have g : DGet H p (kV j) (some v2) := by rw [← e4]; exact DGet.k e3
            exact tail_any (dict_typeIs I g) slot_dict_getitem.lookup (d_getItem hu I g ry fun uu s' I' r' => ⟨v2, H, I', r', PostE.now hr r4 w'⟩) hs
        · rw [if_neg hk] at w'; exact (show False from w').elim
      | ins _ _ => exact (show False from w').elim
  | _ => cases r2 <;> exact (show False from w).elim
/-! ### slices -/
theorem cut_rel {K : PySem.W.Frag} {ρ : Rho} {H : Hp} {ds : List D} {vs : List V} (t : Reps K ρ H ds vs) (lo hi : Option Int) : Reps K ρ H (cutD ds lo hi) (cutV vs lo hi) := by
  unfold cutD cutV
  rw [t.length]
  exact (t.drop _).take _
theorem cut_whole {vs : List V} {lo hi : Option Int} (h : HT.sIx vs.length 0 lo = 0 ∧ HT.sIx vs.length vs.length hi = vs.length) : cutV vs lo hi = vs := by
  unfold cutV
  rw [h.1, h.2, List.drop_zero, Nat.sub_zero, List.take_length]
def rSlc (K : PySem.W.Frag) (cl : Nat → Option Addr) : V → Option Int → Option Int → Hp → VK → Prop := fun x lo hi H Q => ∃ ρ h d z, HRel K cl ρ H h ∧ Rep K ρ H d x ∧ WR (slcD d lo hi h) (PostE K cl ρ H Q) z
theorem sl_all : SlR X (rSlc X.K cl) := by
  intro pins s σ H x v vl vu lo hi sl Q I rx hs pl pu h
  obtain ⟨ρ, h, d, z, hr, r1, w⟩ := h
  have hl : sizeLine = line := sizeLine_eq
  cases r1 with
  | @tup p ds vs s1 t =>
    refine sl_tupA pins s σ H _ v vl vu lo hi sl Q I rx hs pl pu ⟨p, vs, rfl, s1, fun e => ?_, fun _ q n => new_tup hr (cut_rel t lo hi) w q n⟩
    have t2 := cut_rel t lo hi
    rw [cut_whole e] at t2
    exact PostE.now hr (.tup s1 t2) w
  | str zt zz => exact sl_str pins s σ H _ v vl vu lo hi sl Q I rx hs pl pu ⟨zt, rfl, by rw [hl]; exact zz, PostE.now hr (.str _ (Nat.le_trans (cutS_length _ _ _) zz)) w⟩
  | @lck p ds vs s1 t => exact sl_list pins s σ H _ v vl vu lo hi sl Q I rx hs pl pu ⟨p, vs, rfl, s1.sql, fun q n => new_lst hr (cut_rel t lo hi) w q n⟩
  | @ref a p ea =>
    have w' : WR (match h[a]?.bind O.seq? with
      | some xs => R.new (.lst (cutD xs lo hi)) h
      | none => .bad) (PostE X.K cl ρ H Q) z := w
    cases eo : h[a]? with
    | none => rw [eo] at w'; exact (show False from w').elim
    | some o =>
      rw [eo] at w'
      cases o with
      | lst ds =>
        obtain ⟨vs, e3, t⟩ := obj_lst hr ea eo
        exact sl_list pins s σ H _ v vl vu lo hi sl Q I rx hs pl pu ⟨p, vs, rfl, SqL.of e3, fun q n => new_lst hr (cut_rel t lo hi) w' q n⟩
      | dic _ => exact (show False from w').elim
      | ins _ _ => exact (show False from w').elim
  | _ => exact (show False from w).elim
/-! ### truth -/
theorem tru_at {pins : List (Addr × Obj)} {s : Shared} {σ : L2.St} {H : Hp} {ρ : Rho} {h : Hh} {d : D} {x : V} {v : Value} {b : Bool} {Q : Bool → Hp → Prop} (I : Inv X pins σ H s) (hr : HRel X.K cl ρ H h) (r : Rep X.K ρ H d x) (rx : RelV x v) (q : truth d h = some b) (k : Q b H) :
    wpAny (model X.prog X.w) X.A (truthy v) (TP X pins σ Q) X.xe s := by
  have hl : sizeLine = line := sizeLine_eq
  refine tru_ok pins s σ H x v Q I rx ⟨b, ?_, k⟩
  have emp : ∀ {ds : List D} {vs : List V}, Reps X.K ρ H ds vs → (!ds.isEmpty) = !vs.isEmpty := fun t => by cases t <;> rfl
  cases r with
  | non => cases q; rfl
  | bl _ => cases q; rfl
  | int _ => cases q; rfl
  | str zt zz => cases q; exact ⟨by rw [hl]; exact zz, rfl⟩
  | tup s1 t => cases q; exact .inr (.inl ⟨_, s1, emp t⟩)
  | lck s1 t => cases q; exact .inl ⟨_, s1.sql, emp t⟩
  | @ref a p ea =>
    have q' : (match h[a]? with
      | some (.lst xs) => some (!xs.isEmpty)
      | some (.dic kvs) => some (!kvs.isEmpty)
      | _ => none) = some b := q
    cases eo : h[a]? with
    | none => rw [eo] at q'; cases q'
    | some o =>
      rw [eo] at q'
      cases o with
      | lst ds =>
        obtain ⟨vs, e3, t⟩ := obj_lst hr ea eo
        cases q'
        exact .inl ⟨vs, SqL.of e3, emp t⟩
      | dic kvs =>
        obtain ⟨ks, e3, t⟩ := obj_dic hr ea eo
        cases q'
        exact .inr (.inr ⟨ks, e3, by cases t <;> rfl⟩)
      | ins _ _ => cases q'
/-! ### isinstance -/
def tyName : Ty → String
  | .int => "int" | .bool => "bool" | .str => "str" | .tuple => "tuple" | .list => "list" | .dict => "dict" | .own _ => ""
def isOwn : Ty → Bool
  | .own _ => true
  | _ => false
/-- a value's type, as isinstance asks it -/
theorem ty_of {H : Hp} {ρ : Rho} {h : Hh} {d : D} {x : V} (hr : HRel X.K cl ρ H h) (r : Rep X.K ρ H d x) {t : Ty} {b : Bool} (q : isTy d h t = some b) :
    ∃ T : String, TyX X.K H x (.type T) ∧ (∀ t b, isTy d h t = some b → isOwn t = false ∧ kitB T (tyName t) = some b) := by
  have cst : ∀ {T : String} {f : Ty → Option Bool}, (∀ t b, f t = some b → isOwn t = false ∧ kitB T (tyName t) = some b) → (∀ t, isTy d h t = f t) → TyX X.K H x (.type T) → ∃ T : String, TyX X.K H x (.type T) ∧ (∀ t b, isTy d h t = some b → isOwn t = false ∧ kitB T (tyName t) = some b) :=
    fun {T f} h1 h2 h3 => ⟨T, h3, fun t b e => h1 t b ((h2 t).symm.trans e)⟩
  cases r with
  | non => exact ⟨"NoneType", .base .non, fun t b e => by cases t <;> cases e <;> exact ⟨rfl, by decide +kernel⟩⟩
  | bl c => exact ⟨"bool", .base (.bl c), fun t b e => by cases t <;> cases e <;> exact ⟨rfl, by decide +kernel⟩⟩
  | int i => exact ⟨"int", .base (.int i), fun t b e => by cases t <;> cases e <;> exact ⟨rfl, by decide +kernel⟩⟩
  | str zt zz => exact ⟨"str", .base (.str zt), fun t b e => by cases t <;> cases e <;> exact ⟨rfl, by decide +kernel⟩⟩
  | @tup p ds vs s1 t1 =>
    have ty : TyX X.K H (.ref p) (.type "tuple") := by
      rcases s1 with (s1 | ⟨o, s1⟩) | ⟨o, its, n, k, c, _⟩
      · exact .base (.tup s1)
      · exact .fTuple s1
      · exact .kTuple k c
    exact ⟨"tuple", ty, fun t b e => by cases t <;> cases e <;> exact ⟨rfl, by decide +kernel⟩⟩
  | @lck p ds vs s1 t1 =>
    have ty : TyX X.K H (.ref p) (.type "list") := by
      rcases s1 with ⟨o, s1⟩ | ⟨o, its, n, k, c, _⟩
      · exact .base (.frz s1)
      · exact .kList k c
    exact ⟨"list", ty, fun t b e => by cases t <;> cases e <;> exact ⟨rfl, by decide +kernel⟩⟩
  | @ref a p ea =>
    cases eo : h[a]? with
    | none => have : isTy (.ref a) h t = none := by simp [isTy, eo]
              rw [this] at q; cases q
    | some o =>
      cases o with
      | lst ds =>
        obtain ⟨vs, e3, _⟩ := obj_lst hr ea eo
        refine ⟨"list", .base (.lst e3), fun t b e => ?_⟩
        simp only [isTy, eo] at e
        cases t <;> cases e <;> exact ⟨rfl, by decide +kernel⟩
      | dic ds =>
        obtain ⟨vs, e3, _⟩ := obj_dic hr ea eo
        refine ⟨"dict", .base (.dK e3), fun t b e => ?_⟩
        simp only [isTy, eo] at e
        cases t <;> cases e <;> exact ⟨rfl, by decide +kernel⟩
      | ins c fs =>
        have : isTy (.ref a) h t = none := by simp [isTy, eo]
        rw [this] at q; cases q
end
end IX
end

section
set_option Elab.async false
set_option linter.all false
set_option maxRecDepth 100000
set_option maxHeartbeats 2000000
/-! IX7: built-in functions and methods. -/
namespace IX
open PySem PySem.Spec PyProof.Rows L2
section
variable {X : Cx} {cl : Nat → Option Addr}
def rBi (K : PySem.W.Frag) (cl : Nat → Option Addr) (b : Bi) : List V → Hp → VK → Prop := fun vs H Q => ∃ ρ h ds z, HRel K cl ρ H h ∧ Reps K ρ H ds vs ∧ WR (biD b ds h) (PostE K cl ρ H Q) z
theorem reps0 {K : PySem.W.Frag} {ρ : Rho} {H : Hp} {vs : List V} (t : Reps K ρ H [] vs) : vs = [] := by cases t; rfl
theorem reps1 {K : PySem.W.Frag} {ρ : Rho} {H : Hp} {d : D} {vs : List V} (t : Reps K ρ H [d] vs) : ∃ v, vs = [v] ∧ Rep K ρ H d v := by
  cases t with
  | cons a t => cases t; exact ⟨_, rfl, a⟩
theorem reps2 {K : PySem.W.Frag} {ρ : Rho} {H : Hp} {d e : D} {vs : List V} (t : Reps K ρ H [d, e] vs) : ∃ v u, vs = [v, u] ∧ Rep K ρ H d v ∧ Rep K ρ H e u := by
  cases t with
  | cons a t =>
    obtain ⟨u, rfl, b⟩ := reps1 t
    exact ⟨_, _, rfl, a, b⟩
theorem bi_len : CallR X (.builtin "len") (rBi X.K cl .len) := by
  intro pins s σ H xs us Q I r h
  obtain ⟨ρ, h, ds, z, hr, t, w⟩ := h
  have hl : sizeLine = line := sizeLine_eq
  match ds, t, w with
  | [], t, w => exact (show False from w).elim
  | _ :: _ :: _, t, w => cases t; rename_i d _ _ _ _ _ _; cases d <;> exact (show False from w).elim
  | [d], t, w =>
    obtain ⟨v, rfl, a⟩ := reps1 t
    cases a with
    | str zt zz => exact call_len pins s σ H _ us Q I r ⟨_, zt.length, rfl, ⟨by rw [hl]; exact zz, rfl⟩, PostE.now hr (.int _) w⟩
    | @tup p ds vs s1 t1 => exact call_len pins s σ H _ us Q I r ⟨_, ds.length, rfl, .inr ⟨vs, s1, t1.length⟩, PostE.now hr (.int _) w⟩
    | @lck p ds vs s1 t1 => exact call_len pins s σ H _ us Q I r ⟨_, ds.length, rfl, .inl ⟨vs, s1.sql, t1.length⟩, PostE.now hr (.int _) w⟩
    | @ref a p ea =>
      have w' : WR (match h[a]? with
        | some (.lst xs) => .ok (.int xs.length) h
        | some (.dic kvs) => .ok (.int kvs.length) h
        | _ => .bad) (PostE X.K cl ρ H Q) z := w
      cases eo : h[a]? with
      | none => rw [eo] at w'; exact (show False from w').elim
      | some o =>
        rw [eo] at w'
        cases o with
        | lst ds =>
          obtain ⟨vs, e3, t1⟩ := obj_lst hr ea eo
          exact call_len pins s σ H _ us Q I r ⟨_, ds.length, rfl, .inl ⟨vs, SqL.of e3, t1.length⟩, PostE.now hr (.int _) w'⟩
        | dic ds =>
          obtain ⟨vs, e3, t1⟩ := obj_dic hr ea eo
          exact call_lenD pins s σ H _ us Q I r ⟨p, vs, rfl, e3, by rw [← t1.length]; exact PostE.now hr (.int _) w'⟩
        | ins _ _ => exact (show False from w').elim
    | _ => exact (show False from w).elim
theorem bi_max (hc : X.calm = true) : CallR X (.builtin "max") (rBi X.K cl .max) := by
  intro pins s σ H xs us Q I r h
  obtain ⟨ρ, h, ds, z, hr, t, w⟩ := h
  match ds, t, w with
  | [.int i, .int j], t, w =>
    obtain ⟨v, u, rfl, a, b⟩ := reps2 t
    cases a; cases b
    exact call_max2 hc pins s σ H _ us Q I r ⟨i, j, rfl, PostE.now hr (.int _) w⟩
theorem bi_min (hc : X.calm = true) : CallR X (.builtin "min") (rBi X.K cl .min) := by
  intro pins s σ H xs us Q I r h
  obtain ⟨ρ, h, ds, z, hr, t, w⟩ := h
  match ds, t, w with
  | [.int i, .int j], t, w =>
    obtain ⟨v, u, rfl, a, b⟩ := reps2 t
    cases a; cases b
    exact call_min2 hc pins s σ H _ us Q I r ⟨i, j, rfl, PostE.now hr (.int _) w⟩
theorem bi_int : CallR X (.type "int") (rBi X.K cl .int) := by
  intro pins s σ H xs us Q I r h
  obtain ⟨ρ, h, ds, z, hr, t, w⟩ := h
  match ds, t, w with
  | [.int i], t, w =>
    obtain ⟨v, rfl, a⟩ := reps1 t
    cases a
    exact call_int1 pins s σ H _ us Q I r (.inl ⟨i, rfl, PostE.now hr (.int _) w⟩)
  | [.bl k], t, w =>
    obtain ⟨v, rfl, a⟩ := reps1 t
    cases a
    exact call_int1 pins s σ H _ us Q I r (.inr ⟨k, rfl, PostE.now hr (.int _) w⟩)
  | [.str x], t, w =>
    obtain ⟨v, rfl, a⟩ := reps1 t
    cases a
    have w' : WR (match PySem.intText? x with
      | some n => if x.length ≤ 640 then R.ok (.int n) h else .bad
      | none => .bad) (PostE X.K cl ρ H Q) z := w
    cases q : PySem.intText? x with
    | none => rw [q] at w'; exact (show False from w').elim
    | some n =>
      rw [q] at w'
      dsimp only at w'
      by_cases c : x.length ≤ 640
      · rw [if_pos c] at w'
        exact call_int_str pins s σ H _ us Q I r ⟨x, n, rfl, q, c, PostE.now hr (.int _) w'⟩
      · rw [if_neg c] at w'; exact (show False from w').elim
theorem bi_str : CallR X (.type "str") (rBi X.K cl .str) := by
  intro pins s σ H xs us Q I r h
  obtain ⟨ρ, h, ds, z, hr, t, w⟩ := h
  match ds, t, w with
  | [.int i], t, w =>
    obtain ⟨v, rfl, a⟩ := reps1 t
    cases a
    have w' : WR (if i.natAbs.log2 < 1920 then strD (toString i) h else .bad) (PostE X.K cl ρ H Q) z := w
    by_cases c : i.natAbs.log2 < 1920
    · rw [if_pos c] at w'
      unfold strD at w'
      split at w'
      · rename_i c2
        exact call_str_int pins s σ H _ us Q I r ⟨i, rfl, c, PostE.now hr (.str _ c2) w'⟩
      · exact (show False from w').elim
    · rw [if_neg c] at w'; exact (show False from w').elim
  | [.str x], t, w =>
    obtain ⟨v, rfl, a⟩ := reps1 t
    cases a with
    | str _ zz =>
      obtain ⟨u, rfl, tk, rfl⟩ := vals1 r
      exact PySem.P.str_of_str ⟨.str x, H, I, ⟨tk, rfl⟩, PostE.now hr (.str _ zz) w⟩
theorem bi_list : CallR X (.type "list") (rBi X.K cl .list) := by
  intro pins s σ H xs us Q I r h
  obtain ⟨ρ, h, ds, z, hr, t, w⟩ := h
  match ds, t, w with
  | [], t, w => exact (show False from w).elim
  | _ :: _ :: _, t, w => cases t; rename_i d _ _ _ _ _ _; cases d <;> exact (show False from w).elim
  | [d], t, w =>
    obtain ⟨v, rfl, a⟩ := reps1 t
    have byL : ∀ {m : R D}, biD .list [d] h = m → (m = match listD d h with
      | some xs => R.new (.lst xs) h
      | none => .bad) → wpAny (model X.prog X.w) X.A (call (.type "list") us) (EP X pins σ Q) X.xe s := fun {m} e1 e2 => by
      have w1 : WR (biD .list [d] h) (PostE X.K cl ρ H Q) z := w
      rw [e1, e2] at w1
      cases q : listD d h with
      | none => rw [q] at w1; exact (show False from w1).elim
      | some ds =>
        rw [q] at w1
        obtain ⟨p, vs, rfl, sq, t1⟩ := listD_rel hr a q
        exact call_list_of pins s σ H _ us Q I r ⟨p, vs, rfl, .inl sq, fun l n => new_lst hr t1 w1 l n⟩
    cases a with
    | @tup p ds vs s1 t1 => exact call_list_of pins s σ H _ us Q I r ⟨p, vs, rfl, .inr s1, fun l n => new_lst hr t1 w l n⟩
    | _ => exact byL rfl rfl
theorem bi_tuple : CallR X (.type "tuple") (rBi X.K cl .tuple) := by
  intro pins s σ H xs us Q I r h
  obtain ⟨ρ, h, ds, z, hr, t, w⟩ := h
  match ds, t, w with
  | [], t, w => exact (show False from w).elim
  | _ :: _ :: _, t, w => cases t; rename_i d _ _ _ _ _ _; cases d <;> exact (show False from w).elim
  | [d], t, w =>
    obtain ⟨v, rfl, a⟩ := reps1 t
    have byL : ∀ {m : R D}, biD .tuple [d] h = m → (m = match listD d h with
      | some xs => R.ok (.tup xs) h
      | none => .bad) → wpAny (model X.prog X.w) X.A (call (.type "tuple") us) (EP X pins σ Q) X.xe s := fun {m} e1 e2 => by
      have w1 : WR (biD .tuple [d] h) (PostE X.K cl ρ H Q) z := w
      rw [e1, e2] at w1
      cases q : listD d h with
      | none => rw [q] at w1; exact (show False from w1).elim
      | some ds =>
        rw [q] at w1
        obtain ⟨p, vs, rfl, sq, t1⟩ := listD_rel hr a q
        exact call_tuple_of pins s σ H _ us Q I r ⟨p, vs, rfl, .inl ⟨sq, fun l n => new_tup hr t1 w1 l n⟩⟩
    cases a with
    | @tup p ds vs s1 t1 => exact call_tuple_of pins s σ H _ us Q I r ⟨p, vs, rfl, .inr ⟨s1, PostE.now hr (.tup s1 t1) w⟩⟩
    | _ => exact byL rfl rfl
theorem allBl_rel {K : PySem.W.Frag} {ρ : Rho} {H : Hp} : ∀ {ds : List D} {vs : List V} {b : Bool}, Reps K ρ H ds vs → allBl ds = some b → ∃ bs : List Bool, vs = bs.map V.bl ∧ bs.all id = b
  | [], _, b, t, q => by cases t; cases q; exact ⟨[], rfl, rfl⟩
  | .bl c :: ds, _, b, .cons a t, q => by
    cases a
    have q' : (allBl ds).map (fun d => c && d) = some b := q
    cases q2 : allBl ds with
    | none => rw [q2] at q'; cases q'
    | some c2 =>
      rw [q2] at q'
      obtain ⟨bs, rfl, e⟩ := allBl_rel t q2
      exact ⟨c :: bs, rfl, by rw [List.all_cons, e]; exact Option.some.inj q'⟩
theorem bi_all (hc : X.calm = true) : CallR X (.builtin "all") (rBi X.K cl .all) := by
  intro pins s σ H xs us Q I r h
  obtain ⟨ρ, h, ds, z, hr, t, w⟩ := h
  match ds, t, w with
  | [.ref a], t, w =>
    obtain ⟨v, rfl, q⟩ := reps1 t
    cases q with
    | @ref _ p ea =>
      have w' : WR (match h[a]? with
        | some (.lst xs) => bl! (allBl xs) h
        | _ => .bad) (PostE X.K cl ρ H Q) z := w
      cases eo : h[a]? with
      | none => rw [eo] at w'; exact (show False from w').elim
      | some o =>
        rw [eo] at w'
        cases o with
        | lst ds =>
          obtain ⟨vs, e3, t1⟩ := obj_lst hr ea eo
          obtain ⟨b, q, k⟩ := wr_bl hr w'
          obtain ⟨bs, rfl, e⟩ := allBl_rel t1 q
          exact cr_all hc pins s σ H _ us Q I r ⟨p, bs, rfl, SqL.of e3, by rw [e]; exact k⟩
        | dic _ => exact (show False from w').elim
        | ins _ _ => exact (show False from w').elim
/-! ### methods -/
def rMe (K : PySem.W.Frag) (cl : Nat → Option Addr) (m : Me) : V → List V → Hp → VK → Prop := fun v vs H Q => ∃ ρ h d ds z, HRel K cl ρ H h ∧ Rep K ρ H d v ∧ Reps K ρ H ds vs ∧ WR (meD m d ds h) (PostE K cl ρ H Q) z
theorem reps_strs {K : PySem.W.Frag} {ρ : Rho} {H : Hp} : ∀ (ys : List Str), (∀ y ∈ ys, y.length ≤ line) → Reps K ρ H (ys.map D.str) (ys.map V.str)
  | [], _ => .nil
  | y :: ys, h => .cons (.str y (h y List.mem_cons_self)) (reps_strs ys fun z hz => h z (List.mem_cons_of_mem _ hz))
theorem strsD_rel {K : PySem.W.Frag} {ρ : Rho} {H : Hp} : ∀ {ds : List D} {vs : List V} {ys : List Str}, Reps K ρ H ds vs → strsD ds = some ys → vs = ys.map V.str
  | [], _, ys, t, q => by cases t; cases q; rfl
  | .str x :: ds, _, ys, .cons a t, q => by
    cases a
    have q' : (strsD ds).map (fun c => x :: c) = some ys := q
    cases q2 : strsD ds with
    | none => rw [q2] at q'; cases q'
    | some c =>
      rw [q2] at q'
      cases q'
      rw [strsD_rel t q2]
      rfl
theorem me_split : MtR X "str.split" (rMe X.K cl .split) := by
  intro pins s σ H x xs v us Q I rx r h
  obtain ⟨ρ, h, d, ds, z, hr, a, t, w⟩ := h
  have hl : sizeLine = line := sizeLine_eq
  match d, ds, a, t, w with
  | .str x1, [.str y1], a, t, w =>
    cases a
    obtain ⟨u, rfl, b⟩ := reps1 t
    cases b
    have w' : WR (if y1.length ≠ 0 ∧ x1.length + 2 ≤ line ∧ (∀ y ∈ Txt.split x1 y1, y.length ≤ line) then R.new (.lst ((Txt.split x1 y1).map D.str)) h else .bad) (PostE X.K cl ρ H Q) z := w
    by_cases c : y1.length ≠ 0 ∧ x1.length + 2 ≤ line ∧ (∀ y ∈ Txt.split x1 y1, y.length ≤ line)
    · rw [if_pos c] at w'
      exact mt_split pins s σ H _ _ v us Q I rx r ⟨x1, y1, rfl, rfl, by simpa using c.1, by rw [hl]; exact c.2.1, fun p n => new_lst hr (reps_strs _ c.2.2) w' p n⟩
    · rw [if_neg c] at w'; exact (show False from w').elim
theorem me_join : MtR X "str.join" (rMe X.K cl .join) := by
  intro pins s σ H x xs v us Q I rx r h
  obtain ⟨ρ, h, d, ds, z, hr, a, t, w⟩ := h
  match d, ds, a, t, w with
  | .str x1, [.ref l], a, t, w =>
    cases a
    obtain ⟨u, rfl, b⟩ := reps1 t
    cases b with
    | @ref _ p ea =>
      have w' : WR (match h[l]? with
        | some (.lst xs) => match strsD xs with
          | some ys => if (ys.map (·.length)).sum + ys.length * x1.length ≤ line then strD (Txt.join x1 ys) h else .bad
          | none => .bad
        | _ => .bad) (PostE X.K cl ρ H Q) z := w
      cases eo : h[l]? with
      | none => rw [eo] at w'; exact (show False from w').elim
      | some o =>
        rw [eo] at w'
        cases o with
        | lst ds =>
          obtain ⟨vs, e3, t1⟩ := obj_lst hr ea eo
          dsimp only at w'
          cases q : strsD ds with
          | none => rw [q] at w'; exact (show False from w').elim
          | some ys =>
            rw [q] at w'
            have ev := strsD_rel t1 q
            subst ev
            dsimp only at w'
            by_cases c : (ys.map (·.length)).sum + ys.length * x1.length ≤ line
            · rw [if_pos c] at w'
              unfold strD at w'
              split at w'
              · rename_i c2
                exact mt_join pins s σ H _ _ v us Q I rx r ⟨x1, p, ys, rfl, rfl, .inl (SqL.of e3), c, PostE.now hr (.str _ c2) w'⟩
              · exact (show False from w').elim
            · rw [if_neg c] at w'; exact (show False from w').elim
        | dic _ => exact (show False from w').elim
        | ins _ _ => exact (show False from w').elim
theorem me_upper : MtR X "str.upper" (rMe X.K cl .upper) := by
  intro pins s σ H x xs v us Q I rx r h
  obtain ⟨ρ, h, d, ds, z, hr, a, t, w⟩ := h
  match d, ds, a, t, w with
  | .str x1, [], a, t, w =>
    cases a
    cases t
    have w' : WR (if x1.length ≤ 5592405 then strD (Txt.upper x1) h else .bad) (PostE X.K cl ρ H Q) z := w
    by_cases c : x1.length ≤ 5592405
    · rw [if_pos c] at w'
      unfold strD at w'
      split at w'
      · rename_i c2
        exact mt_upper pins s σ H _ _ v us Q I rx r ⟨x1, rfl, rfl, c, PostE.now hr (.str _ c2) w'⟩
      · exact (show False from w').elim
    · rw [if_neg c] at w'; exact (show False from w').elim
/-- a list is rewritten -/
theorem put_lst {K : PySem.W.Frag} {ρ : Rho} {H : Hp} {h : Hh} {a : Nat} {p : Addr} {us vs : List V} {ds : List D} {Q : VK} {x : Nat → List (Str × D) → Hh → Prop} (hr : HRel K cl ρ H h) (ea : ρ[a]? = some p) (e : H p = some (.lst us)) (t : Reps K ρ H ds vs)
    (w : WR (R.ok D.non (h.set a (.lst ds))) (PostE K cl ρ H Q) x) : Q .non (upd H p (.lst vs)) := by
  have kp : Keep K ρ H ρ (upd H p (.lst vs)) := Keep.wr ea (Soft.lst e)
  exact w ρ _ .non kp (hr.write ea (Soft.lst e) ⟨vs, upd_same, t.keep kp⟩) .non
theorem put_dic {K : PySem.W.Frag} {ρ : Rho} {H : Hp} {h : Hh} {a : Nat} {p : Addr} {us vs : List (Key × V)} {ds : List (D × D)} {Q : VK} {x : Nat → List (Str × D) → Hh → Prop} (hr : HRel K cl ρ H h) (ea : ρ[a]? = some p) (e : H p = some (.dK us)) (t : RepK K ρ H ds vs)
    (w : WR (R.ok D.non (h.set a (.dic ds))) (PostE K cl ρ H Q) x) : Q .non (upd H p (.dK vs)) := by
  have kp : Keep K ρ H ρ (upd H p (.dK vs)) := Keep.wr ea (Soft.dK e)
  exact w ρ _ .non kp (hr.write ea (Soft.dK e) ⟨vs, upd_same, t.keep kp⟩) .non
theorem me_append : MtR X "list.append" (rMe X.K cl .append) := by
  intro pins s σ H x xs v us Q I rx r h
  obtain ⟨ρ, h, d, ds, z, hr, a, t, w⟩ := h
  have hl : sizeLine = line := sizeLine_eq
  match d, ds, a, t, w with
  | .ref l, [y], a, t, w =>
    obtain ⟨u, rfl, b⟩ := reps1 t
    cases a with
    | @ref _ p ea =>
      have w' : WR (match h[l]? with
        | some (.lst xs) => if xs.length < line then R.ok .non (h.set l (.lst (xs ++ [y]))) else .bad
        | _ => .bad) (PostE X.K cl ρ H Q) z := w
      cases eo : h[l]? with
      | none => rw [eo] at w'; exact (show False from w').elim
      | some o =>
        rw [eo] at w'
        cases o with
        | lst ds =>
          obtain ⟨vs, e3, t1⟩ := obj_lst hr ea eo
          dsimp only at w'
          by_cases c : ds.length < line
          · rw [if_pos c] at w'
            exact mt_append pins s σ H _ _ v us Q I rx r ⟨p, vs, u, rfl, rfl, e3, by rw [← t1.length, hl]; exact c, put_lst hr ea e3 (t1.append (.cons b .nil)) w'⟩
          · rw [if_neg c] at w'; exact (show False from w').elim
        | dic _ => exact (show False from w').elim
        | ins _ _ => exact (show False from w').elim
end
end IX
end

section
set_option Elab.async false
set_option linter.all false
set_option maxRecDepth 100000
set_option maxHeartbeats 2000000
/-! IX8: from the text to the code. -/
namespace IX
open PySem PySem.Spec PyProof.Rows L2

/-- what a name of the module is: a def, a class, a constant; none: a built-in name -/
inductive GK where
  | fn (f : Nat) | cls (c : Nat) | cst (d : D)
structure Gam where
  glob : Str → Option GK
  meth : Str → Option Nat
def notStar : Expr → Bool
  | .Starred _ _ => false
  | _ => true
def notComp : Expr → Bool
  | .ListComp _ _ _ _ => false | .SetComp _ _ _ _ => false | .DictComp _ _ _ _ _ => false
  | _ => true
def notSl : Expr → Bool
  | .Slice _ _ _ _ => false
  | _ => true
def notSet : Expr → Bool
  | .Set _ _ _ => false
  | _ => true
def notSup : Expr → Bool
  | .Call (.Name _ _) [] [] _ => false
  | _ => true
/-- a test that is a value's truth -/
def plainT : Expr → Bool
  | .UnaryOp .Not _ _ => false | .BoolOp _ _ _ => false | .IfExp _ _ _ _ => false | .Compare _ _ _ _ => false
  | _ => true
def place (x : Str) : List Str → Option Nat
  | [] => none
  | y :: r => if y = x then some 0 else (place x r).map (· + 1)
def isLoc : Option NameKind → Bool
  | some .local => true | some .cell => true
  | _ => false
def isVis : Option NameKind → Bool
  | some .local => true | some .cell => true | some .free => true
  | _ => false
def isGl : Option NameKind → Bool
  | some .globalImplicit => true
  | _ => false
def okName (x : Str) : Bool := !(x == ("__debug__" : Str)) && !(x == ("__classdict__" : Str)) && !decide (x = ("__name__" : Str))
def opOf : Operator → Option Op
  | .Add => some .add | .Sub => some .sub | .Mult => some .mul | .FloorDiv => some .fdiv | .Mod => some .mod | .Pow => some .pow
  | _ => none
def cmpOf : CmpOp → Option Op
  | .Eq => some .eq | .NotEq => some .ne | .Lt => some .lt | .LtE => some .le | .Gt => some .gt | .GtE => some .ge
  | .In => some .isin | .NotIn => some .notin | .Is => some .is_ | .IsNot => some .isnot
def compL (f : Expr → Option E) : List Expr → Option E
  | [] => some .nil
  | e :: r => if notStar e = true then match f e, compL f r with
    | some a, some b => some (.cons a b)
    | _, _ => none
    else none
def compB (f : Expr → Option E) (k : E → E → E) : List Expr → Option E
  | [] => none
  | [a] => f a
  | a :: b :: r => match f a, compB f k (b :: r) with
    | some x, some y => some (k x y)
    | _, _ => none
def compN (N : List Str) (sc : Scope) : Expr → Option Nat
  | .Name x _ => if isLoc (sc.names.lookup x) = true then place x N else none
  | _ => none
def compNs (N : List Str) (sc : Scope) : List Expr → Option (List Nat)
  | [] => some []
  | e :: r => match compN N sc e, compNs N sc r with
    | some i, some is => some (i :: is)
    | _, _ => none
def compT (N : List Str) (sc : Scope) : Expr → Option (List Nat × Bool)
  | .Name x p => (compN N sc (.Name x p)).map fun i => ([i], false)
  | .Tuple es _ _ => (compNs N sc es).map fun is => (is, true)
  | _ => none
def ownOf : Expr → List Str
  | .Name x _ => [x]
  | .Tuple es _ _ => es.filterMap fun e => match e with
    | .Name x _ => some x
    | _ => none
  | _ => []
def tyOf (G : Gam) (sc : Scope) : Expr → Option Ty
  | .Name x _ => if isGl (sc.names.lookup x) = true then match G.glob x with
      | some (.cls c) => some (.own c)
      | some _ => none
      | none => if x = ("int" : Str) then some .int else if x = ("bool" : Str) then some .bool else if x = ("str" : Str) then some .str
          else if x = ("tuple" : Str) then some .tuple else if x = ("list" : Str) then some .list else if x = ("dict" : Str) then some .dict else none
    else none
  | _ => none
def biOf (x : Str) : Option Bi :=
  if x = ("len" : Str) then some .len else if x = ("max" : Str) then some .max else if x = ("min" : Str) then some .min else if x = ("int" : Str) then some .int
  else if x = ("str" : Str) then some .str else if x = ("list" : Str) then some .list else if x = ("tuple" : Str) then some .tuple else if x = ("all" : Str) then some .all
  else none
def meOf (x : Str) : Option Me :=
  if x = ("split" : Str) then some .split else if x = ("join" : Str) then some .join else if x = ("upper" : Str) then some .upper else if x = ("append" : Str) then some .append
  else none
def optE (f : Expr → Option E) : Option Expr → Option E
  | none => some .nil
  | some e => match f e with
    | some .nil => none
    | some c => some c
    | none => none
def plainIt : E → Bool
  | .rng1 _ => false | .rng2 _ _ => false | .enum _ => false | .zip _ _ => false
  | _ => true
def enOk (i : E) (tp : Bool) : Bool := match i with
  | .enum _ => tp
  | _ => true
def okIt (o : Option E) : Option E := match o with
  | some c => if plainIt c = true then some c else none
  | none => none
def compI (f : Expr → Option E) (G : Gam) (sc : Scope) : Expr → Option E
  | .Call (.Name x p) args [] pos => if isGl (sc.names.lookup x) = true ∧ okName x = true then (match G.glob x with
      | none => if x = ("range" : Str) then (match args with
          | [a] => if notStar a = true then (f a).map .rng1 else none
          | [a, b] => if notStar a = true ∧ notStar b = true then (match f a, f b with
            | some a, some b => some (.rng2 a b)
            | _, _ => none) else none
          | _ => none)
        else if x = ("enumerate" : Str) then (match args with
          | [a] => if notStar a = true then (f a).map .enum else none
          | _ => none)
        else okIt (f (.Call (.Name x p) args [] pos))
      | _ => okIt (f (.Call (.Name x p) args [] pos)))
      else none
  | e => if notSet e = true then okIt (f e) else none
def isM1 : Expr → Bool
  | .UnaryOp .USub (.Constant (.int i) _ _) _ => decide (i = 1)
  | _ => false
def compE (G : Gam) (N : List Str) : Nat → Scope → Expr → Option E
  | 0, _, _ => none
  | n + 1, sc, e => match e with
    | .Name x _ => if okName x = true then (if isVis (sc.names.lookup x) = true then (place x N).map .loc
        else if isGl (sc.names.lookup x) = true then (match G.glob x with
          | some (.cst d) => some (.cst d)
          | _ => none) else none) else none
    | .Constant c _ _ => match c with
      | .int i => some (.cst (.int i))
      | .bool b => some (.cst (.bl b))
      | .none => some (.cst .non)
      | .str x => if x.length ≤ line then some (.cst (.str x)) else none
      | _ => none
    | .BinOp a op b _ => match opOf op, compE G N n sc a, compE G N n sc b with
      | some o, some x, some y => some (.bop o x y)
      | _, _, _ => none
    | .UnaryOp op a _ => match op, compE G N n sc a with
      | .Not, some x => some (.not x)
      | .USub, some x => some (.neg x)
      | _, _ => none
    | .BoolOp op es _ => compB (compE G N n sc) (match op with | .And => E.and | .Or => E.or) es
    | .IfExp c a b _ => match compE G N n sc c, compE G N n sc a, compE G N n sc b with
      | some z, some x, some y => some (.ite z x y)
      | _, _, _ => none
    | .Compare a ops bs _ => match ops, bs with
      | [op], [b] => if behindInMarks op b = false then (match cmpOf op, compE G N n sc a, compE G N n sc b with
        | some o, some x, some y => some (.bop o x y)
        | _, _, _ => none) else none
      | [op, op'], [b, c] => if lastMarks [op, op'] [b, c] = false then (match cmpOf op, cmpOf op', compE G N n sc a, compE G N n sc b, compE G N n sc c with
        | some o, some p, some x, some y, some z => some (.cmp2 o p x y z)
        | _, _, _, _, _ => none) else none
      | _, _ => none
    | .Tuple es _ _ => (compL (compE G N n sc) es).map .tup
    | .List es _ => (compL (compE G N n sc) es).map .lst
    | .Dict [] [] _ => some (.dic .nil)
    | .Subscript a b _ => match b with
      | .Slice lo hi none _ => match compE G N n sc a, optE (compE G N n sc) lo, optE (compE G N n sc) hi with
        | some x, some l, some u => some (.slc x l u)
        | _, _, _ => none
      | .Slice lo hi (some st) _ => if isM1 st = true ∧ lo.isNone = true ∧ hi.isNone = true then (compE G N n sc a).map .rev else none
      | b => if notSl b = true then (match compE G N n sc a, compE G N n sc b with
        | some x, some y => some (.idx x y)
        | _, _ => none) else none
    | .Call f args kws cpos => match f, kws with
      | .Name x _, [] => if isGl (sc.names.lookup x) = true ∧ okName x = true then (match G.glob x with
        | some (.fn i) => (compL (compE G N n sc) args).map (.call i)
        | some _ => none
        | none => if x = ("isinstance" : Str) then (match args with
            | [a, t] => if notStar a = true ∧ notStar t = true then (match compE G N n sc a, tyOf G sc t with
              | some x, some t => if isOwn t = false then some (.isi x [t]) else none
              | _, _ => none) else none
            | _ => none)
          else match biOf x, args with
            | some b, e :: es => (compL (compE G N n sc) (e :: es)).map (.bi b)
            | _, _ => none) else none
      | .Attribute o m apos, [] => if (apos.endLine == cpos.line) = true ∧ notSup o = true ∧ args.length < 29 then (match G.meth m with
        | some _ => none
        | none => match meOf m, compE G N n sc o, compL (compE G N n sc) args with
          | some k, some x, some y => some (.me k x y)
          | _, _, _ => none) else none
      | _, _ => none
    | .ListComp elt gens scope _ => match gens with
      | [⟨tg, it, ifs, 0⟩] => match compI (compE G N n sc) G sc it, compT N scope tg, compE G N n scope elt with
        | some i, some (g, tp), some x => if blkC N sc scope ((ownOf tg).zip g) = true ∧ enOk i tp = true ∧ (ownOf tg).length = g.length then (match ifs with
            | [] => some (.lc x g tp i .nil)
            | [c] => match compE G N n scope c with
              | some .nil => none
              | some c => some (.lc x g tp i c)
              | none => none
            | _ => none) else none
        | _, _, _ => none
      | _ => none
    | _ => none
end IX
end

section
set_option Elab.async false
set_option linter.all false
set_option maxRecDepth 100000
set_option maxHeartbeats 2000000
/-! IX9: the code of an expression says what the expression does. -/
namespace IX
open PySem PySem.Spec PyProof.Rows L2

/-- what a def's call does, as a promise -/
def spF (K : PySem.W.Frag) (cl : Nat → Option Addr) (T : Tbl) (n f : Nat) : Sp := fun vs H Q E => ∃ ρ h ds, HRel K cl ρ H h ∧ Reps K ρ H ds vs ∧ WR (callF T n f ds h) (PostE K cl ρ H Q) (PostX K cl ρ H E)
noncomputable abbrev pgT (T : Tbl) (n : Nat) : Pg := ⟨callF T n, T.meth, T.init⟩
/-- the built-in names that the code may use: no name of the module is one of them -/
def isBlt (x : Str) : Bool := decide (x ∈ (["len", "max", "min", "int", "str", "list", "tuple", "all", "isinstance", "range", "enumerate", "bool", "dict"] : List Str))
/-- what is known where a text runs -/
structure Ok (X : Cx) (G : Gam) (T : Tbl) (cl : Nat → Option Addr) (n : Nat) (E : XK) : Prop where
  calm : X.calm = true
  nd : X.N.Nodup
  room : Room n X.A
  fn : ∀ x f, G.glob x = some (.fn f) → ∃ a fd ps, X.mg x = some (.ref a) ∧ PySem.W.keepIn X.K (.ref a) = true ∧ Binds X.K fd ps [] ∧ FnOk X.prog X.w X.K X.mg X.base (L2.CX X.prog X.w) n a fd ps (spF X.K cl T n f)
  cst : ∀ x d, G.glob x = some (.cst d) → ∃ u v, X.mg x = some u ∧ RelV v u ∧ ∀ ρ H, Rep X.K ρ H d v
  non : ∀ x, isBlt x = true → X.mg x = none
  pass : Passes (L2.CX X.prog X.w) X E
theorem Ok.hu {X : Cx} {G : Gam} {T : Tbl} {cl : Nat → Option Addr} {n : Nat} {E : XK} (o : Ok X G T cl n E) : X.A.units + 65 < cLine := by have := o.room.un; omega
/-- the names where a text runs are those of sc -/
structure ScOk (X : Cx) (sc : Scope) : Prop where
  loc : ∀ x, isLoc (sc.names.lookup x) = true → Loc X.env.scope x ∧ (X.fn x = true ∨ X.env.scope.names.lookup x = some .local)
  vis : ∀ x, isVis (sc.names.lookup x) = true → Vis X.env.scope x
  gl : ∀ x, isGl (sc.names.lookup x) = true → Gl X x
  fr : ∀ x, sc.names.lookup x = some .cell ∨ sc.names.lookup x = some .free → X.env.scope.names.lookup x = some .cell ∨ X.env.scope.names.lookup x = some .free
section
variable (K : PySem.W.Frag) (cl : Nat → Option Addr) (P : Pg) (E : XK)
def tE (c : IX.E) : TE := fun σ H Q => ∃ ρ τ h, SRel K ρ H τ σ ∧ HRel K cl ρ H h ∧ WR (evalE P c τ h) (PostE K cl ρ H Q) (PostX K cl ρ H E)
def tA (c : IX.E) : TA := fun σ H Q => ∃ ρ τ h, SRel K ρ H τ σ ∧ HRel K cl ρ H h ∧ WR (evalEs P c τ h) (PostA K cl ρ H Q) (PostX K cl ρ H E)
/-- a test -/
def ofTruth (x : D) (h : Hh) : R Bool := match truth x h with
  | some b => .ok b h
  | none => .bad
noncomputable def testE (c : IX.E) (τ : IX.St) (h : Hh) : R Bool := (evalE P c τ h).bind ofTruth
def tT (c : IX.E) : TT := fun σ H Q => ∃ ρ τ h, SRel K ρ H τ σ ∧ HRel K cl ρ H h ∧ WR (testE P c τ h) (fun b => PostB K cl ρ H (Q b)) (PostX K cl ρ H E)
end
theorem _root_.L2.PE.imp {X : Cx} {e : Expr} {t t' : TE} (h : PE X e t) (hi : ∀ σ H Q, t' σ H Q → t σ H Q) : PE X e t' := ⟨fun pins s σ H Q I q => h.run pins s σ H Q I (hi σ H Q q)⟩
theorem _root_.L2.PT.imp {X : Cx} {e : Expr} {t t' : TT} (h : PT X e t) (hi : ∀ σ H Q, t' σ H Q → t σ H Q) : PT X e t' := ⟨fun pins s σ H Q I q => h.run pins s σ H Q I (hi σ H Q q)⟩
theorem _root_.L2.PW.imp {X : Cx} {e : Expr} {t t' : TT} (h : PW X e t) (hi : ∀ σ H Q, t' σ H Q → t σ H Q) : PW X e t' := ⟨fun wh pins s σ H Q I q => h.run wh pins s σ H Q I (hi σ H Q q)⟩
theorem _root_.L2.PA.imp {X : Cx} {e : List Expr} {t t' : TA} (h : PA X e t) (hi : ∀ σ H Q, t' σ H Q → t σ H Q) : PA X e t' := ⟨fun pos pins s σ H Q I q => h.run pos pins s σ H Q I (hi σ H Q q)⟩
section
variable {K : PySem.W.Frag} {cl : Nat → Option Addr} {P : Pg} {E : XK} {ρ : Rho} {τ : IX.St} {σ : L2.St} {H : Hp} {h : Hh}
/-- a part is reckoned, then the rest -/
theorem ev1 {α : Type} {F : D → Hh → R α} {k : α → Hh → Prop} {c : IX.E} {Qv : VK} (s : SRel K ρ H τ σ) (hr : HRel K cl ρ H h) (w : WR ((evalE P c τ h).bind F) k (PostX K cl ρ H E))
    (go : ∀ ρ1 H1 v d h1, Keep K ρ H ρ1 H1 → HRel K cl ρ1 H1 h1 → SRel K ρ1 H1 τ σ → Rep K ρ1 H1 d v → WR (F d h1) k (PostX K cl ρ1 H1 E) → Qv v H1) : tE K cl P E c σ H Qv :=
  ⟨ρ, τ, h, s, hr, w.bnd.imp (fun d h1 w1 ρ1 H1 v kp hr1 r1 => go ρ1 H1 v d h1 kp hr1 (s.keep kp) r1 (w1.imp (fun _ _ q => q) fun _ _ _ q => q.keep kp)) fun _ _ _ q => q⟩
theorem evs {α : Type} {F : List D → Hh → R α} {k : α → Hh → Prop} {c : IX.E} {Qv : List V → Hp → Prop} (s : SRel K ρ H τ σ) (hr : HRel K cl ρ H h) (w : WR ((evalEs P c τ h).bind F) k (PostX K cl ρ H E))
    (go : ∀ ρ1 H1 v d h1, Keep K ρ H ρ1 H1 → HRel K cl ρ1 H1 h1 → SRel K ρ1 H1 τ σ → Reps K ρ1 H1 d v → WR (F d h1) k (PostX K cl ρ1 H1 E) → Qv v H1) : tA K cl P E c σ H Qv :=
  ⟨ρ, τ, h, s, hr, w.bnd.imp (fun d h1 w1 ρ1 H1 v kp hr1 r1 => go ρ1 H1 v d h1 kp hr1 (s.keep kp) r1 (w1.imp (fun _ _ q => q) fun _ _ _ q => q.keep kp)) fun _ _ _ q => q⟩
theorem evt {α : Type} {F : Bool → Hh → R α} {k : α → Hh → Prop} {c : IX.E} {Qv : Bool → Hp → Prop} (s : SRel K ρ H τ σ) (hr : HRel K cl ρ H h) (w : WR ((testE P c τ h).bind F) k (PostX K cl ρ H E))
    (go : ∀ ρ1 H1 b h1, Keep K ρ H ρ1 H1 → HRel K cl ρ1 H1 h1 → SRel K ρ1 H1 τ σ → WR (F b h1) k (PostX K cl ρ1 H1 E) → Qv b H1) : tT K cl P E c σ H Qv :=
  ⟨ρ, τ, h, s, hr, w.bnd.imp (fun d h1 w1 ρ1 H1 kp hr1 => go ρ1 H1 d h1 kp hr1 (s.keep kp) (w1.imp (fun _ _ q => q) fun _ _ _ q => q.keep kp)) fun _ _ _ q => q⟩
end
section
variable {X : Cx} {cl : Nat → Option Addr} {P : Pg} {E : XK} {a b c : Expr} {ca cb cc : IX.E} {pos : Pos}
theorem s_loc {x : Str} {i : Nat} (hN : X.N[i]? = some x) (hv : Vis X.env.scope x) (h1 : (x == ("__debug__" : Str)) = false) (h2 : (x == ("__classdict__" : Str)) = false) : PE X (.Name x pos) (tE X.K cl P E (.loc i)) := by
  refine (pe_var hN hv h1 h2).imp fun σ H Q ⟨ρ, τ, h, s, hr, w⟩ => ?_
  have w' : WR (match τ[i]? with | some (some v) => R.ok v h | _ => .bad) (PostE X.K cl ρ H Q) (PostX X.K cl ρ H E) := w
  cases q : τ[i]? with
  | none => rw [q] at w'; exact (show False from w').elim
  | some o =>
    cases o with
    | none => rw [q] at w'; exact (show False from w').elim
    | some d =>
      rw [q] at w'
      obtain ⟨v, e, r⟩ := s.at_ i d q
      exact ⟨v, e, PostE.now hr r w'⟩
theorem s_cst {e : Expr} {d : D} {v : V} (h : PE X e (tC v)) (r : ∀ ρ H, Rep X.K ρ H d v) : PE X e (tE X.K cl P E (.cst d)) := by
  refine h.imp fun σ H Q ⟨ρ, τ, h, s, hr, w⟩ => PostE.now hr (r ρ H) w
theorem s_bop {op : Operator} {o : Op} (ho : OpR X (binaryOp op) (rB X.K cl o)) (ha : PE X a (tE X.K cl P E ca)) (hb : PE X b (tE X.K cl P E cb)) : PE X (.BinOp a op b pos) (tE X.K cl P E (.bop o ca cb)) := by
  refine (pe_op ho ha hb).imp fun σ H Q ⟨ρ, τ, h, s, hr, w⟩ => ?_
  exact ev1 s hr w fun ρ1 H1 v d h1 kp hr1 s1 r1 w1 => ev1 s1 hr1 w1 fun ρ2 H2 u e h2 kp2 hr2 s2 r2 w2 => ⟨ρ2, h2, d, e, _, hr2, r1.keep kp2, r2, w2.imp (fun _ _ q => q.keep (kp.trans kp2)) fun _ _ _ q => q⟩
theorem s_cmp {op : CmpOp} {o : Op} (ho : OpR X (compareOp op) (rB X.K cl o)) (ha : PE X a (tE X.K cl P E ca)) (hb : PE X b (tE X.K cl P E cb)) (hm : behindInMarks op b = false) : PE X (.Compare a [op] [b] pos) (tE X.K cl P E (.bop o ca cb)) := by
  refine (pe_cmpR ho ha hb hm).imp fun σ H Q ⟨ρ, τ, h, s, hr, w⟩ => ?_
  exact ev1 s hr w fun ρ1 H1 v d h1 kp hr1 s1 r1 w1 => ev1 s1 hr1 w1 fun ρ2 H2 u e h2 kp2 hr2 s2 r2 w2 => ⟨ρ2, h2, d, e, _, hr2, r1.keep kp2, r2, w2.imp (fun _ _ q => q.keep (kp.trans kp2)) fun _ _ _ q => q⟩
/-- a value's truth behind a run -/
theorem truth_post {K : PySem.W.Frag} {ρ : Rho} {H : Hp} {m : R D} {Q : Bool → Hp → Prop} (w : WR (m.bind ofTruth) (fun b => PostB K cl ρ H (Q b)) (PostX K cl ρ H E)) :
    WR m (fun d h1 => ∃ b, truth d h1 = some b ∧ PostB K cl ρ H (Q b) h1) (PostX K cl ρ H E) := by
  refine w.bnd.imp (fun d h1 w1 => ?_) fun _ _ _ q => q
  unfold ofTruth at w1
  cases q : truth d h1 with
  | none => rw [q] at w1; exact (show False from w1).elim
  | some b => rw [q] at w1; exact ⟨b, rfl, w1⟩
/-- a test that is a value's truth -/
theorem s_tru (ha : PE X a (tE X.K cl P E ca)) (hp : ∀ whole, isTrue a X.env whole = (do let v ← whole; standAt a.pos; holding [v] (truthy v))) : PT X a (tT X.K cl P E ca) := by
  refine ⟨fun pins s σ H Q I hw => ?_⟩
  obtain ⟨ρ, τ, h, sr, hr, w⟩ := hw
  refine isTrue_plain (thn (ha.run pins s σ H (fun x H1 => ∃ ρ1 h1 d b, HRel X.K cl ρ1 H1 h1 ∧ Rep X.K ρ1 H1 d x ∧ truth d h1 = some b ∧ Q b H1) I ⟨ρ, τ, h, sr, hr, (truth_post w).imp (fun d h1 ⟨b, q, p⟩ ρ1 H1 v kp hr1 r1 => ⟨ρ1, h1, d, b, hr1, r1, q, p ρ1 H1 kp hr1⟩) fun _ _ _ q => q⟩) fun v s1 ⟨x, H1, I1, rx, ρ1, h1, d, b, hr1, r1, q, k⟩ => ?_) (hp _)
  exact tru_at I1 hr1 r1 rx q k
theorem s_cmpT {op : CmpOp} {o : Op} (ho : OpR X (compareOp op) (rB X.K cl o)) (hbl : ∀ x y h z h', binop o x y h = R.ok z h' → ∃ k, z = .bl k) (hne : ∀ x y h c fs h', binop o x y h ≠ R.ex c fs h') (ha : PE X a (tE X.K cl P E ca)) (hb : PE X b (tE X.K cl P E cb)) (hm : behindInMarks op b = false) : PT X (.Compare a [op] [b] pos) (tT X.K cl P E (.bop o ca cb)) := by
  refine (pt_cmpR ho ha hb hm).imp fun σ H Q ⟨ρ, τ, h, s, hr, w⟩ => ?_
  have w0 := truth_post w
  refine ev1 s hr w0 fun ρ1 H1 v d h1 kp hr1 s1 r1 w1 => ev1 s1 hr1 w1 fun ρ2 H2 u e h2 kp2 hr2 s2 r2 w2 => ⟨ρ2, h2, d, e, fun _ _ _ => False, hr2, r1.keep kp2, r2, ?_⟩
  cases q : binop o d e h2 with
  | bad => rw [q] at w2; exact (show False from w2).elim
  | ex c fs h3 => exact absurd q (hne _ _ _ _ _ _)
  | ok z h3 =>
    rw [q] at w2
    obtain ⟨k, rfl⟩ := hbl _ _ _ _ _ q
    obtain ⟨b, q2, p⟩ := (show ∃ b, truth (.bl k) h3 = some b ∧ PostB X.K cl ρ H (Q b) h3 from w2)
    cases q2
    intro ρ3 H3 v3 kp3 hr3 r3
    cases r3
    exact ⟨k, rfl, p ρ3 H3 ((kp.trans kp2).trans kp3) hr3⟩
theorem s_not (ha : PT X a (tT X.K cl P E ca)) : PT X (.UnaryOp .Not a pos) (tT X.K cl P E (.not ca)) := by
  refine (pt_not ha).imp fun σ H Q ⟨ρ, τ, h, s, hr, w⟩ => ?_
  refine ⟨ρ, τ, h, s, hr, ?_⟩
  have w1 : WR (((evalE P ca τ h).bind fun x h1 => match truth x h1 with
    | some b => R.ok (D.bl (!b)) h1
    | none => R.bad).bind ofTruth) (fun b => PostB X.K cl ρ H (Q b)) (PostX X.K cl ρ H E) := w
  show WR ((evalE P ca τ h).bind ofTruth) _ _
  cases q : evalE P ca τ h with
  | bad => rw [q] at w1; exact w1
  | ex c fs h1 => rw [q] at w1; exact w1
  | ok d h1 =>
    rw [q] at w1
    have w2 : WR ((match truth d h1 with
      | some b => R.ok (D.bl (!b)) h1
      | none => R.bad).bind ofTruth) (fun b => PostB X.K cl ρ H (Q b)) (PostX X.K cl ρ H E) := w1
    show WR (ofTruth d h1) _ _
    unfold ofTruth
    cases q2 : truth d h1 with
    | none => rw [q2] at w2; exact w2
    | some b => rw [q2] at w2; exact w2
/-- a value's truth, by the abstract heap -/
theorem truV_of {K : PySem.W.Frag} {ρ : Rho} {H : Hp} {h : Hh} {d : D} {x : V} {b : Bool} (hr : HRel K cl ρ H h) (r : Rep K ρ H d x) (q : truth d h = some b) : TruV K x H b := by
  have em : ∀ {ds : List D} {vs : List V}, Reps K ρ H ds vs → ds.isEmpty = vs.isEmpty := fun t => by cases t <;> rfl
  cases r with
  | non => cases q; rfl
  | bl c => cases q; rfl
  | int i => cases q; rfl
  | str x z => cases q; exact ⟨by rw [sizeLine_eq]; exact z, rfl⟩
  | tup s t => cases q; exact .inr (.inl ⟨_, s, by rw [em t]⟩)
  | lck s t => cases q; exact .inl ⟨_, s.sql, by rw [em t]⟩
  | @ref a p ea =>
    obtain ⟨o, eo, x⟩ := hr.get ea
    change (match h[a]? with
      | some (O.lst xs) => some (!xs.isEmpty)
      | some (O.dic kvs) => some (!kvs.isEmpty)
      | _ => none) = some b at q
    rw [eo] at q
    cases o with
    | lst ds =>
      cases q
      obtain ⟨vs, e3, t⟩ := x
      exact .inl ⟨vs, SqL.of e3, by rw [em t]⟩
    | dic ds =>
      cases q
      obtain ⟨vs, e3, t⟩ := x
      exact .inr (.inr ⟨vs, e3, by cases t <;> rfl⟩)
    | ins _ _ => cases q
theorem by_test {α : Type} (m : R D) (f g : Hh → R α) : (m.bind fun x h1 => match truth x h1 with
    | some true => f h1
    | some false => g h1
    | none => .bad) = (m.bind ofTruth).bind fun b h1 => if b = true then f h1 else g h1 := by
  cases m with
  | bad => rfl
  | ex c fs h => rfl
  | ok x h =>
    show (match truth x h with
    | some true => f h
    | some false => g h
    | none => .bad) = (ofTruth x h).bind _
    unfold ofTruth
    cases truth x h with
    | none => rfl
    | some b => cases b <;> rfl
theorem bind_assoc {α β γ : Type} (m : R α) (f : α → Hh → R β) (g : β → Hh → R γ) : (m.bind f).bind g = m.bind fun x h => (f x h).bind g := by cases m <;> rfl
theorem testE_ite (x : IX.E) (y z : IX.E) (τ : IX.St) (h : Hh) : testE P (.ite x y z) τ h = (testE P x τ h).bind fun b h1 => if b = true then testE P y τ h1 else testE P z τ h1 := by
  show ((evalE P x τ h).bind fun v h1 => match truth v h1 with
    | some true => evalE P y τ h1
    | some false => evalE P z τ h1
    | none => .bad).bind ofTruth = _
  rw [by_test, bind_assoc]
  show (testE P x τ h).bind _ = _
  congr 1
  funext b h1
  cases b <;> rfl
theorem testE_and (x y : IX.E) (τ : IX.St) (h : Hh) : testE P (.and x y) τ h = (testE P x τ h).bind fun b h1 => if b = true then testE P y τ h1 else .ok false h1 := by
  show ((evalE P x τ h).bind fun v h1 => match truth v h1 with
    | some true => evalE P y τ h1
    | some false => .ok v h1
    | none => .bad).bind ofTruth = ((evalE P x τ h).bind ofTruth).bind _
  cases evalE P x τ h with
  | bad => rfl
  | ex c fs h => rfl
  | ok v h1 =>
    show (match truth v h1 with
    | some true => evalE P y τ h1
    | some false => .ok v h1
    | none => .bad).bind ofTruth = (ofTruth v h1).bind _
    cases q : truth v h1 with
    | none => simp only [ofTruth, q]; rfl
    | some b =>
      cases b with
      | true => simp only [ofTruth, q]; rfl
      | false =>
        have e : ofTruth v h1 = .ok false h1 := by simp only [ofTruth, q]
        simp only [q]
        show ofTruth v h1 = (ofTruth v h1).bind _
        rw [e]; rfl
theorem testE_or (x y : IX.E) (τ : IX.St) (h : Hh) : testE P (.or x y) τ h = (testE P x τ h).bind fun b h1 => if b = true then .ok true h1 else testE P y τ h1 := by
  show ((evalE P x τ h).bind fun v h1 => match truth v h1 with
    | some true => R.ok v h1
    | some false => evalE P y τ h1
    | none => .bad).bind ofTruth = ((evalE P x τ h).bind ofTruth).bind _
  cases evalE P x τ h with
  | bad => rfl
  | ex c fs h => rfl
  | ok v h1 =>
    show (match truth v h1 with
    | some true => R.ok v h1
    | some false => evalE P y τ h1
    | none => .bad).bind ofTruth = (ofTruth v h1).bind _
    cases q : truth v h1 with
    | none => simp only [ofTruth, q]; rfl
    | some b =>
      cases b with
      | false => simp only [ofTruth, q]; rfl
      | true =>
        have e : ofTruth v h1 = .ok true h1 := by simp only [ofTruth, q]
        simp only [q]
        show ofTruth v h1 = (ofTruth v h1).bind _
        rw [e]; rfl
/-- a not as a value -/
theorem s_notV (ha : PE X a (tE X.K cl P E ca)) : PE X (.UnaryOp .Not a pos) (tE X.K cl P E (.not ca)) := by
  refine (pe_notT ha).imp fun σ H Q ⟨ρ, τ, h, s, hr, w⟩ => ev1 s hr w fun ρ1 H1 v d h1 kp hr1 s1 r1 w1 => ?_
  cases q : truth d h1 with
  | none => rw [q] at w1; exact (show False from w1).elim
  | some k =>
    rw [q] at w1
    exact ⟨k, truV_of hr1 r1 q, PostE.now hr1 (.bl _) ((show PostE X.K cl ρ H Q (.bl (!k)) h1 from w1).keep kp)⟩
section
variable {rest : List Expr}
theorem s_one {op : BoolOp} (ha : PE X a (tE X.K cl P E ca)) : PE X (.BoolOp op [a] pos) (tE X.K cl P E ca) := pe_one ha
theorem s_andV (ha : PE X a (tE X.K cl P E ca)) (hb : PE X (.BoolOp .And (b :: rest) pos) (tE X.K cl P E cb)) : PE X (.BoolOp .And (a :: b :: rest) pos) (tE X.K cl P E (.and ca cb)) := by
  refine (pe_andT ha hb).imp fun σ H Q ⟨ρ, τ, h, s, hr, w⟩ => ev1 s hr w fun ρ1 H1 v d h1 kp hr1 s1 r1 w1 => ?_
  cases q : truth d h1 with
  | none => rw [q] at w1; exact (show False from w1).elim
  | some k =>
    rw [q] at w1
    refine ⟨k, truV_of hr1 r1 q, ?_⟩
    cases k with
    | true => exact (if_pos rfl).mpr ⟨ρ1, τ, h1, s1, hr1, wrE ((show WR (evalE P cb τ h1) _ _ from w1).imp (fun _ _ q => q.keep kp) fun _ _ _ q => q) Keep.refl⟩
    | false => exact PostE.now hr1 r1 ((show PostE X.K cl ρ H Q d h1 from w1).keep kp)
theorem s_orV (ha : PE X a (tE X.K cl P E ca)) (hb : PE X (.BoolOp .Or (b :: rest) pos) (tE X.K cl P E cb)) : PE X (.BoolOp .Or (a :: b :: rest) pos) (tE X.K cl P E (.or ca cb)) := by
  refine (pe_orT ha hb).imp fun σ H Q ⟨ρ, τ, h, s, hr, w⟩ => ev1 s hr w fun ρ1 H1 v d h1 kp hr1 s1 r1 w1 => ?_
  cases q : truth d h1 with
  | none => rw [q] at w1; exact (show False from w1).elim
  | some k =>
    rw [q] at w1
    refine ⟨k, truV_of hr1 r1 q, ?_⟩
    cases k with
    | true => exact PostE.now hr1 r1 ((show PostE X.K cl ρ H Q d h1 from w1).keep kp)
    | false => exact ⟨ρ1, τ, h1, s1, hr1, (show WR (evalE P cb τ h1) _ _ from w1).imp (fun _ _ q => q.keep kp) fun _ _ _ q => q⟩
theorem s_andT (ha : PT X a (tT X.K cl P E ca)) (hb : PW X (.BoolOp .And (b :: rest) pos) (tT X.K cl P E cb)) : PW X (.BoolOp .And (a :: b :: rest) pos) (tT X.K cl P E (.and ca cb)) := by
  refine (pw_and ha hb).imp fun σ H Q ⟨ρ, τ, h, s, hr, w⟩ => ?_
  rw [testE_and] at w
  refine evt s hr w fun ρ1 H1 k h1 kp hr1 s1 w1 => ?_
  cases k with
  | true => exact ⟨ρ1, τ, h1, s1, hr1, (show WR (testE P cb τ h1) _ _ from w1).imp (fun _ _ q => q.keep kp) fun _ _ _ q => q⟩
  | false => exact (show PostB X.K cl ρ H (Q false) h1 from w1) ρ1 H1 kp hr1
theorem s_orT (ha : PT X a (tT X.K cl P E ca)) (hb : PW X (.BoolOp .Or (b :: rest) pos) (tT X.K cl P E cb)) : PW X (.BoolOp .Or (a :: b :: rest) pos) (tT X.K cl P E (.or ca cb)) := by
  refine (pw_or ha hb).imp fun σ H Q ⟨ρ, τ, h, s, hr, w⟩ => ?_
  rw [testE_or] at w
  refine evt s hr w fun ρ1 H1 k h1 kp hr1 s1 w1 => ?_
  cases k with
  | false => exact ⟨ρ1, τ, h1, s1, hr1, (show WR (testE P cb τ h1) _ _ from w1).imp (fun _ _ q => q.keep kp) fun _ _ _ q => q⟩
  | true => exact (show PostB X.K cl ρ H (Q true) h1 from w1) ρ1 H1 kp hr1
end
/-- a if c else b -/
theorem s_ifV (hc : PT X c (tT X.K cl P E cc)) (ha : PE X a (tE X.K cl P E ca)) (hb : PE X b (tE X.K cl P E cb)) : PE X (.IfExp c a b pos) (tE X.K cl P E (.ite cc ca cb)) := by
  refine (pe_ifExp hc ha hb).imp fun σ H Q ⟨ρ, τ, h, s, hr, w⟩ => ?_
  have w0 : WR ((evalE P cc τ h).bind fun v h1 => match truth v h1 with
    | some true => evalE P ca τ h1
    | some false => evalE P cb τ h1
    | none => .bad) (PostE X.K cl ρ H Q) (PostX X.K cl ρ H E) := w
  rw [by_test] at w0
  refine evt s hr w0 fun ρ1 H1 k h1 kp hr1 s1 w1 => ?_
  cases k with
  | true => exact ⟨ρ1, τ, h1, s1, hr1, (show WR (evalE P ca τ h1) _ _ from w1).imp (fun _ _ q => q.keep kp) fun _ _ _ q => q⟩
  | false => exact ⟨ρ1, τ, h1, s1, hr1, (show WR (evalE P cb τ h1) _ _ from w1).imp (fun _ _ q => q.keep kp) fun _ _ _ q => q⟩
theorem s_ifT (hc : PT X c (tT X.K cl P E cc)) (ha : PT X a (tT X.K cl P E ca)) (hb : PT X b (tT X.K cl P E cb)) : PT X (.IfExp c a b pos) (tT X.K cl P E (.ite cc ca cb)) := by
  refine ⟨fun pins s σ H Q I ⟨ρ, τ, h, sr, hr, w⟩ => ?_⟩
  rw [testE_ite] at w
  have t1 : tT X.K cl P E cc σ H fun k H1 => if k = true then tT X.K cl P E ca σ H1 Q else tT X.K cl P E cb σ H1 Q := by
    refine evt sr hr w fun ρ1 H1 k h1 kp hr1 s1 w1 => ?_
    cases k with
    | true => exact (⟨ρ1, τ, h1, s1, hr1, (show WR (testE P ca τ h1) _ _ from w1).imp (fun _ _ q => q.keep kp) fun _ _ _ q => q⟩ : tT X.K cl P E ca σ H1 Q)
    | false => exact (⟨ρ1, τ, h1, s1, hr1, (show WR (testE P cb τ h1) _ _ from w1).imp (fun _ _ q => q.keep kp) fun _ _ _ q => q⟩ : tT X.K cl P E cb σ H1 Q)
  refine isTrue_IfExp (thn (hc.run pins s σ H _ I t1) fun k s1 ⟨H1, I1, q1⟩ => ?_)
  cases k with
  | true => exact ha.run pins s1 σ H1 Q I1 q1
  | false => exact hb.run pins s1 σ H1 Q I1 q1
/-- -a -/
theorem s_neg (ha : PE X a (tE X.K cl P E ca)) : PE X (.UnaryOp .USub a pos) (tE X.K cl P E (.neg ca)) := by
  refine (pe_un un_neg ha).imp fun σ H Q ⟨ρ, τ, h, s, hr, w⟩ => ev1 s hr w fun ρ1 H1 v d h1 kp hr1 s1 r1 w1 => ?_
  cases r1 with
  | int i => exact ⟨i, rfl, PostE.now hr1 (.int _) ((show PostE X.K cl ρ H Q (.int (-i)) h1 from w1).keep kp)⟩
  | _ => exact (show False from w1).elim
/-- a o b p c -/
theorem chain_imp {o p : Op} {σ : L2.St} {H : Hp} {Q : VK} (t : tE X.K cl P E (.cmp2 o p ca cb cc) σ H Q) : tChain (rB X.K cl o) (rB X.K cl p) (tE X.K cl P E ca) (tE X.K cl P E cb) (tE X.K cl P E cc) σ H Q := by
  obtain ⟨ρ, τ, h, s, hr, w⟩ := t
  refine ev1 s hr w fun ρ1 H1 v d h1 kp hr1 s1 r1 w1 => ev1 s1 hr1 w1 fun ρ2 H2 u e h2 kp2 hr2 s2 r2 w2 => ⟨ρ2, h2, d, e, _, hr2, r1.keep kp2, r2, w2.bnd.imp (fun z h3 w3 ρ3 H3 v3 kp3 hr3 r3 => ?_) fun _ _ _ q => q⟩
  cases r3 with
  | bl k =>
    refine ⟨k, rfl, ?_⟩
    have kp' := (kp.trans kp2).trans kp3
    cases k with
    | true =>
      have w4 : WR ((evalE P cc τ h3).bind fun w h4 => binop p e w h4) (PostE X.K cl ρ H Q) (PostX X.K cl ρ2 H2 E) := w3
      refine (if_pos rfl).mpr (ev1 (s2.keep kp3) hr3 (w4.imp (fun _ _ q => q) fun _ _ _ q => q.keep kp3) fun ρ4 H4 v4 d4 h4 kp4 hr4 s4 r4 w5 => ⟨ρ4, h4, e, d4, _, hr4, (r2.keep kp3).keep kp4, r4, w5.imp (fun _ _ q => q.keep (kp'.trans kp4)) fun _ _ _ q => q⟩)
    | false => exact PostE.now hr3 (.bl _) ((show PostE X.K cl ρ H Q (.bl false) h3 from w3).keep kp')
  | _ => exact (show False from w3).elim
theorem s_chain {op op' : CmpOp} {o p : Op} (ho : OpR X (compareOp op) (rB X.K cl o)) (hp : OpR X (compareOp op') (rB X.K cl p)) (ha : PE X a (tE X.K cl P E ca)) (hb : PE X b (tE X.K cl P E cb)) (hc : PE X c (tE X.K cl P E cc)) (hm : lastMarks [op, op'] [b, c] = false) :
    PE X (.Compare a [op, op'] [b, c] pos) (tE X.K cl P E (.cmp2 o p ca cb cc)) := (pe_chain ho hp ha hb hc hm).imp fun _ _ _ t => chain_imp t
theorem s_chainT {op op' : CmpOp} {o p : Op} (ho : OpR X (compareOp op) (rB X.K cl o)) (hp : OpR X (compareOp op') (rB X.K cl p)) (hbl : ∀ x y h z h', binop p x y h = R.ok z h' → ∃ k, z = .bl k) (ha : PE X a (tE X.K cl P E ca)) (hb : PE X b (tE X.K cl P E cb)) (hc : PE X c (tE X.K cl P E cc)) (hm : lastMarks [op, op'] [b, c] = false) :
    PT X (.Compare a [op, op'] [b, c] pos) (tT X.K cl P E (.cmp2 o p ca cb cc)) := by
  refine (pt_chain ho hp ha hb hc hm).imp fun σ H Q ⟨ρ, τ, h, s, hr, w⟩ => chain_imp ⟨ρ, τ, h, s, hr, ?_⟩
  have w0 := truth_post w
  have bl : ∀ z h', evalE P (.cmp2 o p ca cb cc) τ h = R.ok z h' → ∃ k, z = .bl k := fun z h' q => by
    have q0 : ((evalE P ca τ h).bind fun x h1 => (evalE P cb τ h1).bind fun y h2 => (binop o x y h2).bind fun z h3 => match z with
      | .bl true => (evalE P cc τ h3).bind fun w h4 => binop p y w h4
      | .bl false => .ok (.bl false) h3
      | _ => .bad) = R.ok z h' := q
    cases q1 : evalE P ca τ h with
    | bad => rw [q1] at q0; cases q0
    | ex _ _ _ => rw [q1] at q0; cases q0
    | ok x h1 =>
      rw [q1] at q0
      change ((evalE P cb τ h1).bind _) = _ at q0
      cases q2 : evalE P cb τ h1 with
      | bad => rw [q2] at q0; cases q0
      | ex _ _ _ => rw [q2] at q0; cases q0
      | ok y h2 =>
        rw [q2] at q0
        change ((binop o x y h2).bind _) = _ at q0
        cases q3 : binop o x y h2 with
        | bad => rw [q3] at q0; cases q0
        | ex _ _ _ => rw [q3] at q0; cases q0
        | ok z1 h3 =>
          rw [q3] at q0
          cases z1 with
          | bl k =>
            cases k with
            | true =>
              change ((evalE P cc τ h3).bind fun w h4 => binop p y w h4) = _ at q0
              cases q4 : evalE P cc τ h3 with
              | bad => rw [q4] at q0; cases q0
              | ex _ _ _ => rw [q4] at q0; cases q0
              | ok w h4 => rw [q4] at q0; exact hbl _ _ _ _ _ q0
            | false => cases q0; exact ⟨_, rfl⟩
          | _ => cases q0
  cases q : evalE P (.cmp2 o p ca cb cc) τ h with
  | bad => rw [q] at w0; exact w0
  | ex c fs h1 => rw [q] at w0; exact w0
  | ok z h1 =>
    rw [q] at w0
    obtain ⟨k, rfl⟩ := bl z h1 q
    obtain ⟨b, q2, p⟩ := (show ∃ b, truth (.bl k) h1 = some b ∧ PostB X.K cl ρ H (Q b) h1 from w0)
    cases q2
    intro ρ3 H3 v3 kp3 hr3 r3
    cases r3
    exact ⟨k, rfl, p ρ3 H3 kp3 hr3⟩
/-! ### lists of arguments, displays -/
theorem star_of {e : Expr} {es : List Expr} {env : Env} (h : notStar e = true) : starEach (e :: es) env = (false, eval e env) :: starEach es env := by cases e <;> first | rfl | cases h
theorem plain_of {f : Expr → Option IX.E} {env : Env} {pos : Pos} : ∀ {es : List Expr} {c : IX.E}, compL f es = some c → (backTo pos (starEach es env)).any (·.1) = false
  | [], _, _ => rfl
  | e :: r, c, h => by
    unfold compL at h
    by_cases n : notStar e = true
    · rw [if_pos n] at h
      cases q1 : f e with
      | none => rw [q1] at h; cases h
      | some x =>
        cases q2 : compL f r with
        | none => rw [q1, q2] at h; cases h
        | some y =>
          rw [star_of n]
          have ih := plain_of (env := env) (pos := pos) q2
          unfold backTo at ih ⊢
          rw [List.map_cons, List.any_cons, ih]; rfl
    · rw [if_neg n] at h; cases h
theorem s_args {f : Expr → Option IX.E} (hf : ∀ e c, f e = some c → PE X e (tE X.K cl P E c)) : ∀ {es : List Expr} {c : IX.E}, compL f es = some c → PA X es (tA X.K cl P E c)
  | [], c, h => by
    cases h
    exact pa_nil.imp fun σ H Q ⟨ρ, τ, h, s, hr, w⟩ => (show PostA X.K cl ρ H Q [] h from w) ρ H [] Keep.refl hr .nil
  | e :: r, c, h => by
    unfold compL at h
    by_cases n : notStar e = true
    · rw [if_pos n] at h
      cases q1 : f e with
      | none => rw [q1] at h; cases h
      | some x =>
        cases q2 : compL f r with
        | none => rw [q1, q2] at h; cases h
        | some y =>
          rw [q1, q2] at h
          cases h
          refine (pa_cons (hf e x q1) (s_args hf q2) (star_of n)).imp fun σ H Q ⟨ρ, τ, h, s, hr, w⟩ => ?_
          exact ev1 s hr w fun ρ1 H1 v d h1 kp hr1 s1 r1 w1 => evs s1 hr1 w1 fun ρ2 H2 vs ds h2 kp2 hr2 s2 r2 w2 => (show PostA X.K cl ρ H Q (d :: ds) h2 from w2) ρ2 H2 (v :: vs) (kp.trans kp2) hr2 (.cons (r1.keep kp2) r2)
    · rw [if_neg n] at h; cases h
section
variable {es : List Expr} {ce : IX.E}
theorem s_tup {x1 : Nat} (h : PA X es (tA X.K cl P E ce)) : PE X (.Tuple es x1 pos) (tE X.K cl P E (.tup ce)) := by
  refine (pe_tup h).imp fun σ H Q ⟨ρ, τ, h, s, hr, w⟩ => evs s hr w fun ρ1 H1 vs ds h1 kp hr1 s1 r1 w1 => ?_
  by_cases c : ds.length ≤ line
  · rw [if_pos c] at w1
    exact ⟨by rw [← r1.length, sizeLine_eq]; exact c, fun p n => new_tup hr1 r1 ((show PostE X.K cl ρ H Q (.tup ds) h1 from w1).keep kp) p n⟩
  · rw [if_neg c] at w1; exact (show False from w1).elim
theorem s_lst (h : PA X es (tA X.K cl P E ce)) : PE X (.List es pos) (tE X.K cl P E (.lst ce)) := by
  refine (pe_lst h).imp fun σ H Q ⟨ρ, τ, h, s, hr, w⟩ => evs s hr w fun ρ1 H1 vs ds h1 kp hr1 s1 r1 w1 => ?_
  by_cases c : ds.length ≤ line
  · rw [if_pos c] at w1
    exact ⟨by rw [← r1.length, sizeLine_eq]; exact c, fun p n => new_lst (x := PostX X.K cl ρ1 H1 E) hr1 r1 (w1.imp (fun _ _ q => q.keep kp) fun _ _ _ q => q) p n⟩
  · rw [if_neg c] at w1; exact (show False from w1).elim
end
theorem s_dic0 : PE X (.Dict [] [] pos) (tE X.K cl P E (.dic .nil)) := by
  refine pe_dnewK.imp fun σ H Q ⟨ρ, τ, h, s, hr, w⟩ p n => ?_
  exact new_dic (x := PostX X.K cl ρ H E) hr .nil (show WR (R.new (.dic []) h) (PostE X.K cl ρ H Q) (PostX X.K cl ρ H E) from w) p n
/-- a[b] -/
theorem s_idx (hu : X.A.units + 1 < cLine) (ha : PE X a (tE X.K cl P E ca)) (hb : PE X b (tE X.K cl P E cb)) (hs : PlainIx b) : PE X (.Subscript a b pos) (tE X.K cl P E (.idx ca cb)) := by
  refine (pe_ix (ix_all (cl := cl) hu) ha hb hs).imp fun σ H Q ⟨ρ, τ, h, s, hr, w⟩ => ?_
  exact ev1 s hr w fun ρ1 H1 v d h1 kp hr1 s1 r1 w1 => ev1 s1 hr1 w1 fun ρ2 H2 u e h2 kp2 hr2 s2 r2 w2 => ⟨ρ2, h2, d, e, _, hr2, r1.keep kp2, r2, w2.imp (fun _ _ q => q.keep (kp.trans kp2)) fun _ _ _ q => q⟩
/-! ### slices -/
def tO (K : PySem.W.Frag) (cl : Nat → Option Addr) (P : Pg) (E : XK) (c : IX.E) : TO := fun σ H Q => ∃ ρ τ h, SRel K ρ H τ σ ∧ HRel K cl ρ H h ∧ WR (evalPt P c τ h) (fun o => PostB K cl ρ H (Q o)) (PostX K cl ρ H E)
theorem evalPt_ne {P : Pg} {c : IX.E} {τ : IX.St} {h : Hh} (n : c ≠ .nil) : evalPt P c τ h = (evalE P c τ h).bind fun x h1 => match x with
    | .int i => .ok (some i) h1
    | _ => .bad := by
  cases c <;> first | rfl | exact absurd rfl n
theorem _root_.L2.PO.imp {X : Cx} {e : Option Expr} {t t' : TO} (h : PO X e t) (hi : ∀ σ H Q, t' σ H Q → t σ H Q) : PO X e t' := ⟨fun pins s σ H Q I q => h.run pins s σ H Q I (hi σ H Q q)⟩
theorem s_opt {f : Expr → Option IX.E} (hf : ∀ e c, f e = some c → PE X e (tE X.K cl P E c)) : ∀ {e : Option Expr} {c : IX.E}, optE f e = some c → PO X e (tO X.K cl P E c)
  | none, c, h => by
    cases h
    exact po_none.imp fun σ H Q ⟨ρ, τ, h, s, hr, w⟩ => (show PostB X.K cl ρ H (Q none) h from w) ρ H Keep.refl hr
  | some e, c, h => by
    change (match f e with
      | some .nil => none
      | some c => some c
      | none => none) = some c at h
    cases q : f e with
    | none => rw [q] at h; cases h
    | some c' =>
      rw [q] at h
      have n : c' ≠ .nil := by rintro rfl; cases h
      have e2 : c' = c := by
        cases c' <;> first | exact absurd rfl n | (injection h)
      subst e2
      refine (po_some (hf e c' q)).imp fun σ H Q ⟨ρ, τ, h, s, hr, w⟩ => ?_
      rw [evalPt_ne n] at w
      refine ev1 s hr w fun ρ1 H1 v d h1 kp hr1 s1 r1 w1 => ?_
      cases r1 with
      | int i => exact ⟨i, rfl, (show PostB X.K cl ρ H (Q (some i)) h1 from w1) ρ1 H1 kp hr1⟩
      | _ => exact (show False from w1).elim
theorem evo {α : Type} {K : PySem.W.Frag} {ρ : Rho} {τ : IX.St} {σ : L2.St} {H : Hp} {h : Hh} {F : Option Int → Hh → R α} {k : α → Hh → Prop} {c : IX.E} {Qv : Option Int → Hp → Prop} (s : SRel K ρ H τ σ) (hr : HRel K cl ρ H h) (w : WR ((evalPt P c τ h).bind F) k (PostX K cl ρ H E))
    (go : ∀ ρ1 H1 b h1, Keep K ρ H ρ1 H1 → HRel K cl ρ1 H1 h1 → SRel K ρ1 H1 τ σ → WR (F b h1) k (PostX K cl ρ1 H1 E) → Qv b H1) : tO K cl P E c σ H Qv :=
  ⟨ρ, τ, h, s, hr, w.bnd.imp (fun d h1 w1 ρ1 H1 kp hr1 => go ρ1 H1 d h1 kp hr1 (s.keep kp) (w1.imp (fun _ _ q => q) fun _ _ _ q => q.keep kp)) fun _ _ _ q => q⟩
theorem s_slc {lo hi : Option Expr} {cl' ch : IX.E} {p2 : Pos} (ha : PE X a (tE X.K cl P E ca)) (hl : PO X lo (tO X.K cl P E cl')) (hh : PO X hi (tO X.K cl P E ch)) : PE X (.Subscript a (.Slice lo hi none p2) pos) (tE X.K cl P E (.slc ca cl' ch)) := by
  refine (pe_slice (sl_all (cl := cl)) ha hl hh).imp fun σ H Q ⟨ρ, τ, h, s, hr, w⟩ => ?_
  exact ev1 s hr w fun ρ1 H1 v d h1 kp hr1 s1 r1 w1 => evo s1 hr1 w1 fun ρ2 H2 l h2 kp2 hr2 s2 w2 => evo s2 hr2 w2 fun ρ3 H3 u h3 kp3 hr3 s3 w3 =>
    ⟨ρ3, h3, d, _, hr3, (r1.keep kp2).keep kp3, w3.imp (fun _ _ q => q.keep ((kp.trans kp2).trans kp3)) fun _ _ _ q => q⟩
end
end IX
end

section
set_option Elab.async false
set_option linter.all false
set_option maxRecDepth 100000
set_option maxHeartbeats 2000000
/-! IX10: operators by their signs, calls, methods. -/
namespace IX
open PySem PySem.Spec PyProof.Rows L2
section
variable {X : Cx} {cl : Nat → Option Addr} {P : Pg} {E : XK} {a b c : Expr} {ca cb cc : IX.E} {pos : Pos}
theorem op_ok {op : Operator} {o : Op} (h : opOf op = some o) : OpR X (binaryOp op) (rB X.K cl o) := by
  cases op <;> cases h
  · exact op_addB
  · exact op_subB
  · exact op_mulB
  · exact op_modB
  · exact op_powB
  · exact op_fdivB
theorem cmp_ok (hu : X.A.units + 65 < cLine) {op : CmpOp} {o : Op} (h : cmpOf op = some o) : OpR X (compareOp op) (rB X.K cl o) := by
  cases op <;> cases h
  · exact op_eqB (by omega)
  · exact op_neB (by omega)
  · exact op_ltB
  · exact op_leB
  · exact op_gtB
  · exact op_geB
  · exact op_isB
  · exact op_isnotB
  · exact op_inB hu
  · exact op_notinB hu
theorem bl_bl {o : Option Bool} {h : Hh} : (∀ z h', bl! o h = R.ok z h' → ∃ k, z = .bl k) ∧ (∀ c fs h', bl! o h ≠ R.ex c fs h') := by
  cases o with
  | none => exact ⟨fun _ _ e => (by cases e), fun _ _ _ e => (by cases e)⟩
  | some b => exact ⟨fun _ _ e => (by cases e; exact ⟨_, rfl⟩), fun _ _ _ e => (by cases e)⟩
theorem ne_bl {o : Option Bool} {h : Hh} : (∀ z h', neD o h = R.ok z h' → ∃ k, z = .bl k) ∧ (∀ c fs h', neD o h ≠ R.ex c fs h') := by
  cases o with
  | none => exact ⟨fun _ _ e => (by cases e), fun _ _ _ e => (by cases e)⟩
  | some b => exact ⟨fun _ _ e => (by cases e; exact ⟨_, rfl⟩), fun _ _ _ e => (by cases e)⟩
theorem cm_bl {p : Int → Int → Bool} {x y : D} {h : Hh} : (∀ z h', cmpD p x y h = R.ok z h' → ∃ k, z = .bl k) ∧ (∀ c fs h', cmpD p x y h ≠ R.ex c fs h') := by
  unfold cmpD
  split
  · exact ⟨fun _ _ e => (by cases e; exact ⟨_, rfl⟩), fun _ _ _ e => (by cases e)⟩
  · exact ⟨fun _ _ e => (by cases e), fun _ _ _ e => (by cases e)⟩
theorem cmp_bl {op : CmpOp} {o : Op} (h : cmpOf op = some o) : (∀ x y h z h', binop o x y h = R.ok z h' → ∃ k, z = .bl k) ∧ (∀ x y h c fs h', binop o x y h ≠ R.ex c fs h') := by
  have g : ∀ x y h, (∀ z h', binop o x y h = R.ok z h' → ∃ k, z = .bl k) ∧ (∀ c fs h', binop o x y h ≠ R.ex c fs h') := fun x y hh => by
    cases op <;> cases h <;> first | exact bl_bl | exact ne_bl | exact cm_bl
  exact ⟨fun x y h => (g x y h).1, fun x y h => (g x y h).2⟩
theorem name_of {x : Str} (h : okName x = true) : (x == ("__debug__" : Str)) = false ∧ (x == ("__classdict__" : Str)) = false ∧ x ≠ ("__name__" : Str) := by
  unfold okName at h
  simp only [Bool.and_eq_true, Bool.not_eq_true', decide_eq_false_iff_not] at h
  exact ⟨h.1.1, h.1.2, h.2⟩
/-! ### calls of defs -/
section
variable {G : Gam} {T : Tbl} {n f : Nat} {x : Str} {es : List Expr} {ce : IX.E} {p : Pos}
theorem s_call {e : Expr} (o : Ok X G T cl n E) (hg : Gl X x) (hx : G.glob x = some (.fn f)) (hd : (x == ("__debug__" : Str)) = false) (ha : PA X (e :: es) (tA X.K cl (pgT T n) E ce)) (hs : starEach (e :: es) X.env = (false, eval e X.env) :: starEach es X.env) (hpl : (backTo pos (starEach es X.env)).any (·.1) = false) :
    PE X (.Call (.Name x p) (e :: es) [] pos) (tE X.K cl (pgT T n) E (.call f ce)) := by
  obtain ⟨a, fd, ps, hm, hk, hb, F⟩ := o.fn x f hx
  refine (pe_call F o.room hg hm hk hb .nil o.pass ha hd hs hpl).imp fun σ H Q ⟨ρ, τ, h, s, hr, w⟩ => ?_
  refine evs s hr w fun ρ1 H1 vs ds h1 kp hr1 s1 r1 w1 => ?_
  rw [List.append_nil]
  exact ⟨ρ1, h1, ds, hr1, r1, (show WR (callF T n f ds h1) _ _ from w1).imp (fun _ _ q => q.keep kp) fun _ _ _ q => q⟩
theorem s_call0 (o : Ok X G T cl n E) (hg : Gl X x) (hx : G.glob x = some (.fn f)) (hd : (x == ("__debug__" : Str)) = false) :
    PE X (.Call (.Name x p) [] [] pos) (tE X.K cl (pgT T n) E (.call f .nil)) := by
  obtain ⟨a, fd, ps, hm, hk, hb, F⟩ := o.fn x f hx
  refine (pe_call0 F o.room hg hm hk hb .nil o.pass hd).imp fun σ H Q ⟨ρ, τ, h, s, hr, w⟩ => ?_
  exact ⟨ρ, h, [], hr, .nil, (show WR (callF T n f [] h) _ _ from w)⟩
end
/-! ### isinstance -/
def rIsiD (K : PySem.W.Frag) (cl : Nat → Option Addr) (t : Ty) : List V → Hp → VK → Prop := fun vs H Q => ∃ ρ h d x z, vs = [x, .ty (tyName t)] ∧ HRel K cl ρ H h ∧ Rep K ρ H d x ∧ WR (bl! (isAny d h [t]) h) (PostE K cl ρ H Q) z
theorem isi_at {t : Ty} : CallR X (.builtin "isinstance") (rIsiD X.K cl t) := by
  intro pins s σ H xs us Q I r ⟨ρ, h, d, x, z, e, hr, r1, w⟩
  obtain ⟨b, eb, q⟩ := wr_bl hr w
  have e1 : ∃ b1, isTy d h t = some b1 := by
    unfold isAny at eb
    cases q1 : isTy d h t with
    | none => rw [q1] at eb; cases eb
    | some b1 => exact ⟨b1, rfl⟩
  obtain ⟨b1, e1⟩ := e1
  have e2 : b = b1 := by
    unfold isAny isAny at eb
    rw [e1] at eb
    cases eb
    exact Bool.or_false b1
  subst e2
  obtain ⟨T, ty, k⟩ := ty_of hr r1 e1
  exact call_isi pins s σ H xs us Q I r ⟨x, .ty (tyName t), .type T, .type (tyName t), b, e, .ty _, ty, kit_ty (k t b e1).2, q⟩
theorem ty_boot {G : Gam} {sc : Scope} {e : Expr} {t : Ty} (ht : tyOf G sc e = some t) : isOwn t = true ∨ ∃ x p, e = .Name x p ∧ isGl (sc.names.lookup x) = true ∧ isBlt x = true ∧ bootBuiltins x = some (.type (tyName t)) ∧ x ≠ ("__name__" : Str) ∧ (x == ("__debug__" : Str)) = false := by
  cases e with
  | Name x p =>
    simp only [tyOf] at ht
    by_cases hg : isGl (sc.names.lookup x) = true
    · rw [if_pos hg] at ht
      cases hx : G.glob x with
      | some k =>
        rw [hx] at ht
        cases k with
        | cls c => cases ht; exact .inl rfl
        | fn _ => cases ht
        | cst _ => cases ht
      | none =>
        rw [hx] at ht
        refine .inr ⟨x, p, rfl, hg, ?_⟩
        by_cases h1 : x = ("int" : Str)
        · rw [if_pos h1] at ht; cases ht; subst h1; exact ⟨by decide, by decide +kernel, by decide, by decide⟩
        rw [if_neg h1] at ht
        by_cases h2 : x = ("bool" : Str)
        · rw [if_pos h2] at ht; cases ht; subst h2; exact ⟨by decide, by decide +kernel, by decide, by decide⟩
        rw [if_neg h2] at ht
        by_cases h3 : x = ("str" : Str)
        · rw [if_pos h3] at ht; cases ht; subst h3; exact ⟨by decide, by decide +kernel, by decide, by decide⟩
        rw [if_neg h3] at ht
        by_cases h4 : x = ("tuple" : Str)
        · rw [if_pos h4] at ht; cases ht; subst h4; exact ⟨by decide, by decide +kernel, by decide, by decide⟩
        rw [if_neg h4] at ht
        by_cases h5 : x = ("list" : Str)
        · rw [if_pos h5] at ht; cases ht; subst h5; exact ⟨by decide, by decide +kernel, by decide, by decide⟩
        rw [if_neg h5] at ht
        by_cases h6 : x = ("dict" : Str)
        · rw [if_pos h6] at ht; cases ht; subst h6; exact ⟨by decide, by decide +kernel, by decide, by decide⟩
        rw [if_neg h6] at ht; cases ht
    · rw [if_neg hg] at ht; cases ht
  | _ => cases ht
theorem s_isi {G : Gam} {T : Tbl} {n : Nat} {sc : Scope} {e : Expr} {t : Ty} {p : Pos} (o : Ok X G T cl n E) (S : ScOk X sc) (hg : Gl X "isinstance") (hm : X.mg "isinstance" = none) (ht : tyOf G sc e = some t) (ho : isOwn t = false) (ha : PE X a (tE X.K cl P E ca)) (h1 : notStar a = true) (h2 : notStar e = true) :
    PE X (.Call (.Name "isinstance" p) [a, e] [] pos) (tE X.K cl P E (.isi ca [t])) := by
  rcases ty_boot ht with ho2 | ⟨x, px, rfl, g, gx, hv, hn, hd⟩
  · rw [ho] at ho2; cases ho2
  · have hc : PE X (.Name x px) (tC (.ty (tyName t))) := pe_bltn (S.gl x g) (o.non x gx) hv rfl hn hd
    refine (pe_callB (isi_at (cl := cl) (t := t)) hg hm (by decide +kernel) (pa_cons ha (pa_cons hc pa_nil (star_of h2)) (star_of h1)) (by decide) (by decide) (star_of h1) rfl).imp fun σ H Q ⟨ρ, τ, h, s, hr, w⟩ => ?_
    exact ev1 s hr w fun ρ1 H1 v d h1 kp hr1 s1 r1 w1 => ⟨ρ1, h1, d, v, PostX X.K cl ρ1 H1 E, rfl, hr1, r1, w1.imp (fun _ _ q => q.keep kp) fun _ _ _ q => q⟩
end
end IX
end

section
set_option Elab.async false
set_option linter.all false
set_option maxRecDepth 100000
set_option maxHeartbeats 2000000
/-! IX11: built-in functions and methods in the text. -/
namespace IX
open PySem PySem.Spec PyProof.Rows L2
section
variable {X : Cx} {cl : Nat → Option Addr} {P : Pg} {E : XK} {a b c : Expr} {ca cb cc : IX.E} {pos : Pos}
theorem bi_blt {x : Str} {b : Bi} (h : biOf x = some b) : isBlt x = true := by
  unfold biOf at h
  by_cases h1 : x = ("len" : Str)
  · subst h1; decide
  rw [if_neg h1] at h
  by_cases h1 : x = ("max" : Str)
  · subst h1; decide
  rw [if_neg h1] at h
  by_cases h1 : x = ("min" : Str)
  · subst h1; decide
  rw [if_neg h1] at h
  by_cases h1 : x = ("int" : Str)
  · subst h1; decide
  rw [if_neg h1] at h
  by_cases h1 : x = ("str" : Str)
  · subst h1; decide
  rw [if_neg h1] at h
  by_cases h1 : x = ("list" : Str)
  · subst h1; decide
  rw [if_neg h1] at h
  by_cases h1 : x = ("tuple" : Str)
  · subst h1; decide
  rw [if_neg h1] at h
  by_cases h1 : x = ("all" : Str)
  · subst h1; decide
  rw [if_neg h1] at h; cases h
theorem bi_ok (hc : X.calm = true) {x : Str} {b : Bi} (h : biOf x = some b) : (∃ id, bootBuiltins x = some (.builtin id) ∧ CallR X (.builtin id) (rBi X.K cl b)) ∨ ∃ t, bootBuiltins x = some (.type t) ∧ CallR X (.type t) (rBi X.K cl b) := by
  unfold biOf at h
  by_cases h1 : x = ("len" : Str)
  · rw [if_pos h1] at h; cases h; subst h1; exact .inl ⟨"len", by decide +kernel, bi_len⟩
  rw [if_neg h1] at h
  by_cases h1 : x = ("max" : Str)
  · rw [if_pos h1] at h; cases h; subst h1; exact .inl ⟨"max", by decide +kernel, bi_max hc⟩
  rw [if_neg h1] at h
  by_cases h1 : x = ("min" : Str)
  · rw [if_pos h1] at h; cases h; subst h1; exact .inl ⟨"min", by decide +kernel, bi_min hc⟩
  rw [if_neg h1] at h
  by_cases h1 : x = ("int" : Str)
  · rw [if_pos h1] at h; cases h; subst h1; exact .inr ⟨"int", by decide +kernel, bi_int⟩
  rw [if_neg h1] at h
  by_cases h1 : x = ("str" : Str)
  · rw [if_pos h1] at h; cases h; subst h1; exact .inr ⟨"str", by decide +kernel, bi_str⟩
  rw [if_neg h1] at h
  by_cases h1 : x = ("list" : Str)
  · rw [if_pos h1] at h; cases h; subst h1; exact .inr ⟨"list", by decide +kernel, bi_list⟩
  rw [if_neg h1] at h
  by_cases h1 : x = ("tuple" : Str)
  · rw [if_pos h1] at h; cases h; subst h1; exact .inr ⟨"tuple", by decide +kernel, bi_tuple⟩
  rw [if_neg h1] at h
  by_cases h1 : x = ("all" : Str)
  · rw [if_pos h1] at h; cases h; subst h1; exact .inl ⟨"all", by decide +kernel, bi_all hc⟩
  rw [if_neg h1] at h; cases h
theorem s_bi {x : Str} {k : Bi} {e : Expr} {es : List Expr} {ce : IX.E} {p : Pos} (hc : X.calm = true) (hk : biOf x = some k) (hg : Gl X x) (hm : X.mg x = none) (hn : x ≠ ("__name__" : Str)) (hd : (x == ("__debug__" : Str)) = false) (ha : PA X (e :: es) (tA X.K cl P E ce))
    (hs : starEach (e :: es) X.env = (false, eval e X.env) :: starEach es X.env) (hpl : (backTo pos (starEach es X.env)).any (·.1) = false) : PE X (.Call (.Name x p) (e :: es) [] pos) (tE X.K cl P E (.bi k ce)) := by
  have go : ∀ σ H Q, tE X.K cl P E (.bi k ce) σ H Q → tCB (rBi X.K cl k) (tA X.K cl P E ce) σ H Q := fun σ H Q ⟨ρ, τ, h, s, hr, w⟩ =>
    evs s hr w fun ρ1 H1 vs ds h1 kp hr1 s1 r1 w1 => ⟨ρ1, h1, ds, PostX X.K cl ρ1 H1 E, hr1, r1, w1.imp (fun _ _ q => q.keep kp) fun _ _ _ q => q⟩
  rcases bi_ok (cl := cl) hc hk with ⟨id, hv, hr⟩ | ⟨t, hv, hr⟩
  · exact (pe_callB hr hg hm hv ha hn hd hs hpl).imp go
  · exact (pe_callTy hr hg hm hv ha hn hd hs hpl).imp go
/-! ### methods -/
theorem me_ok {m : Str} {k : Me} (h : meOf m = some k) : ∃ T id, PlainAttrs T ∧ Slot T m id ∧ typeOf (.builtin id) = pure (.type "method_descriptor") ∧ MtR X id (rMe X.K cl k) ∧
    ∀ ρ H h d x, HRel X.K cl ρ H h → Rep X.K ρ H d x → meTy k d h = true → tyV X.K T x H := by
  have st : ∀ (ρ : Rho) (H : Hp) (h : Hh) (d : D) (x : V), Rep X.K ρ H d x → (match d with | .str _ => true | _ => false) = true → tyV X.K "str" x H := fun ρ H h d x r q => by
    cases r with
    | str x z => exact rfl
    | _ => cases q
  unfold meOf at h
  by_cases h1 : m = ("split" : Str)
  · rw [if_pos h1] at h; cases h; subst h1
    exact ⟨"str", "str.split", PySem.F.plainAttrs_str, PySem.F.slot_str_split, PySem.F.type_str_split, me_split, fun ρ H h d x _ r q => st ρ H h d x r q⟩
  rw [if_neg h1] at h
  by_cases h1 : m = ("join" : Str)
  · rw [if_pos h1] at h; cases h; subst h1
    exact ⟨"str", "str.join", PySem.F.plainAttrs_str, PySem.F.slot_str_join, PySem.F.type_str_join, me_join, fun ρ H h d x _ r q => st ρ H h d x r q⟩
  rw [if_neg h1] at h
  by_cases h1 : m = ("upper" : Str)
  · rw [if_pos h1] at h; cases h; subst h1
    exact ⟨"str", "str.upper", PySem.F.plainAttrs_str, PySem.F.slot_str_upper, PySem.F.type_str_upper, me_upper, fun ρ H h d x _ r q => st ρ H h d x r q⟩
  rw [if_neg h1] at h
  by_cases h1 : m = ("append" : Str)
  · rw [if_pos h1] at h; cases h; subst h1
    refine ⟨"list", "list.append", PySem.F.plainAttrs_list, PySem.F.slot_list_append, PySem.F.type_list_append, me_append, fun ρ H h d x hr r q => ?_⟩
    cases r with
    | @ref a p ea =>
      simp only [meTy] at q
      cases eo : h[a]? with
      | none => rw [eo] at q; cases q
      | some o =>
        rw [eo] at q
        cases o with
        | lst ds =>
          obtain ⟨vs, e3, _⟩ := obj_lst hr ea eo
          exact .inl ⟨rfl, vs, SqL.of e3⟩
        | _ => cases q
    | _ => cases q
  rw [if_neg h1] at h; cases h
theorem base_of {o : Expr} {m : Str} {env : Env} {w : Sem Value} (h : notSup o = true) : attributeBase o m env w = w := by
  cases o <;> try rfl
  rename_i f args kws p
  cases f <;> try rfl
  cases args <;> try rfl
  cases kws <;> try rfl
  cases h
theorem few_of {es : List Expr} {env : Env} {pos : Pos} (h : (backTo pos (starEach es env)).any (·.1) = false) : (backTo pos (starEach es env)).all (fun x => !x.1) = true := by
  have : ∀ l : List (Bool × Sem Value), l.any (·.1) = false → l.all (fun x => !x.1) = true := fun l hl => by
    induction l with
    | nil => rfl
    | cons y r ih =>
      rw [List.any_cons, Bool.or_eq_false_iff] at hl
      rw [List.all_cons, ih hl.2, hl.1]; rfl
  exact this _ h
theorem s_me0 {o : Expr} {co : IX.E} {m : Str} {k : Me} {apos cpos : Pos} (hk : meOf m = some k) (ho : PE X o (tE X.K cl P E co)) (hb : notSup o = true) (hl : (apos.endLine == cpos.line) = true) : PE X (.Call (.Attribute o m apos) [] [] cpos) (tE X.K cl P E (.me k co .nil)) := by
  obtain ⟨T, id, pa, sl, ty, hm, tv⟩ := me_ok (X := X) (cl := cl) hk
  refine (pe_bm0 pa sl ty hm ho (base_of hb) hl).imp fun σ H Q ⟨ρ, τ, h, s, hr, w⟩ => ?_
  refine ev1 s hr w fun ρ1 H1 v d h1 kp hr1 s1 r1 w1 => ?_
  by_cases q : meTy k d h1 = true
  · rw [if_pos q] at w1
    exact ⟨tv ρ1 H1 h1 d v hr1 r1 q, ρ1, h1, d, [], _, hr1, r1, .nil, (show WR (meD k d [] h1) _ (PostX X.K cl ρ1 H1 E) from w1).imp (fun _ _ q => q.keep kp) fun _ _ _ q => q⟩
  · rw [if_neg q] at w1; exact (show False from w1).elim
theorem s_me {o e : Expr} {es : List Expr} {co ce : IX.E} {m : Str} {k : Me} {apos cpos : Pos} (hk : meOf m = some k) (ho : PE X o (tE X.K cl P E co)) (ha : PA X (e :: es) (tA X.K cl P E ce)) (hb : notSup o = true) (hl : (apos.endLine == cpos.line) = true)
    (hlen : (e :: es).length < 29) (hs : starEach (e :: es) X.env = (false, eval e X.env) :: starEach es X.env) (hpl0 : (backTo cpos (starEach (e :: es) X.env)).any (·.1) = false) (hpl : (backTo cpos (starEach es X.env)).any (·.1) = false) :
    PE X (.Call (.Attribute o m apos) (e :: es) [] cpos) (tE X.K cl P E (.me k co ce)) := by
  obtain ⟨T, id, pa, sl, ty, hm, tv⟩ := me_ok (X := X) (cl := cl) hk
  have hfew : ((backTo cpos (starEach (e :: es) X.env)).all (fun x => !x.1) && (backToKw cpos (keywordEach [] X.env)).all (fun x => x.1.isSome)
      && decide ((e :: es).length + ([] : List Keyword).length + (if ([] : List Keyword).isEmpty then 0 else 1) < 30)) = true := by
    rw [few_of hpl0]
    show (true && decide ((e :: es).length + 0 + 0 < 30)) = true
    rw [decide_eq_true (by omega)]; rfl
  refine (pe_bm pa sl ty hm ho ha (base_of hb) hfew hl hs hpl).imp fun σ H Q ⟨ρ, τ, h, s, hr, w⟩ => ?_
  refine ev1 s hr w fun ρ1 H1 v d h1 kp hr1 s1 r1 w1 => ?_
  by_cases q : meTy k d h1 = true
  · rw [if_pos q] at w1
    refine ⟨tv ρ1 H1 h1 d v hr1 r1 q, evs s1 hr1 w1 fun ρ2 H2 vs ds h2 kp2 hr2 s2 r2 w2 => ?_⟩
    exact ⟨ρ2, h2, d, ds, _, hr2, r1.keep kp2, r2, (show WR (meD k d ds h2) _ (PostX X.K cl ρ2 H2 E) from w2).imp (fun _ _ q => q.keep (kp.trans kp2)) fun _ _ _ q => q⟩
  · rw [if_neg q] at w1; exact (show False from w1).elim
/-! ### targets -/
def tG (K : PySem.W.Frag) (cl : Nat → Option Addr) (g : List Nat) (tp : Bool) : TG := fun v σ H Q => ∃ ρ τ h d, SRel K ρ H τ σ ∧ HRel K cl ρ H h ∧ Rep K ρ H d v ∧ ∃ τ', target g tp d τ h = some τ' ∧
  ∀ σ', SRel K ρ H τ' σ' → (∀ vs : List Nat, (∀ i ∈ g, i ∈ vs) → wipe σ' vs = wipe σ vs) → Q σ' H
theorem wipe_in {σ : L2.St} {i : Nat} : ∀ {vs : List Nat}, i ∈ vs → (wipe σ vs)[i]? = σ[i]?.map fun _ => none
  | v :: vs, h => by
    unfold wipe
    by_cases e : v = i
    · subst e
      by_cases z : v < (wipe σ vs).length
      · rw [List.getElem?_set_self z]
        have z2 : v < σ.length := by rw [wipe_length] at z; exact z
        rw [List.getElem?_eq_getElem z2]; rfl
      · rw [List.getElem?_eq_none (by rw [List.length_set]; omega)]
        rw [wipe_length] at z
        rw [List.getElem?_eq_none (by omega)]; rfl
    · rw [List.getElem?_set_ne e]
      rcases List.mem_cons.mp h with h | h
      · exact absurd h.symm e
      · exact wipe_in h
theorem wipe_set {σ : L2.St} {i : Nat} {v : Option V} {vs : List Nat} (h : i ∈ vs) : wipe (σ.set i v) vs = wipe σ vs := by
  apply List.ext_getElem?
  intro j
  by_cases hj : j ∈ vs
  · rw [wipe_in hj, wipe_in hj]
    by_cases e : i = j
    · subst e
      by_cases z : i < σ.length
      · rw [List.getElem?_set_self z, List.getElem?_eq_getElem z]; rfl
      · rw [List.getElem?_eq_none (by rw [List.length_set]; omega), List.getElem?_eq_none (by omega)]
    · rw [List.getElem?_set_ne e]
  · rw [wipe_out hj, wipe_out hj, List.getElem?_set_ne (fun e : i = j => hj (e ▸ h))]
def setV : List Nat → List V → L2.St → L2.St
  | i :: is, v :: vs, σ => setV is vs (σ.set i (some v))
  | _, _, σ => σ
theorem setV_rel {K : PySem.W.Frag} {ρ : Rho} {H : Hp} : ∀ {g : List Nat} {ds : List D} {vs : List V} {τ τ' : IX.St} {σ : L2.St}, SRel K ρ H τ σ → Reps K ρ H ds vs → setAll g ds τ = some τ' → vs.length = g.length ∧ SRel K ρ H τ' (setV g vs σ) ∧ ∀ ws : List Nat, (∀ i ∈ g, i ∈ ws) → wipe (setV g vs σ) ws = wipe σ ws
  | [], [], _, τ, τ', σ, s, .nil, e => by cases e; exact ⟨rfl, s, fun _ _ => rfl⟩
  | [], _ :: _, _, τ, τ', σ, s, .cons _ _, e => by cases e
  | _ :: _, [], _, τ, τ', σ, s, .nil, e => by cases e
  | i :: g, d :: ds, _, τ, τ', σ, s, .cons a r, e => by
    obtain ⟨h1, h2, h3⟩ := setV_rel (s.set a i) r e
    refine ⟨congrArg Nat.succ h1, h2, fun ws hw => ?_⟩
    exact (h3 ws fun j hj => hw j (List.mem_cons_of_mem _ hj)).trans (wipe_set (hw i List.mem_cons_self))
theorem place_ix : ∀ {N : List Str} {x : Str} {i : Nat}, place x N = some i → N[i]? = some x
  | [], x, i, h => by cases h
  | y :: r, x, i, h => by
    unfold place at h
    by_cases e : y = x
    · rw [if_pos e] at h; cases h; exact congrArg some e
    · rw [if_neg e] at h
      cases q : place x r with
      | none => rw [q] at h; cases h
      | some j => rw [q] at h; cases h; exact (show r[j]? = some x from place_ix q)
theorem compN_ok {N : List Str} {sc : Scope} {e : Expr} {i : Nat} (h : compN N sc e = some i) : ∃ x p, e = .Name x p ∧ isLoc (sc.names.lookup x) = true ∧ N[i]? = some x := by
  cases e with
  | Name x p =>
    simp only [compN] at h
    by_cases l : isLoc (sc.names.lookup x) = true
    · rw [if_pos l] at h; exact ⟨x, p, rfl, l, place_ix h⟩
    · rw [if_neg l] at h; cases h
  | _ => cases h
def gNames (is : List Nat) : TGs := fun vs σ H Q => vs.length = is.length ∧ Q (setV is vs σ) H
theorem pgs_names {sc : Scope} (hN : X.N.Nodup) (S : ScOk X sc) : ∀ {es : List Expr} {is : List Nat}, compNs X.N sc es = some is → PGs X es (gNames is) ∧ (assignEach es X.env).length = is.length ∧ (assignEach es X.env).findIdx? (·.1) = none
  | [], is, h => by
    cases h
    refine ⟨⟨fun pins s σ H vs us Q I r ⟨e, q⟩ => pgs_nil.run pins s σ H vs us Q I r ⟨List.length_eq_zero_iff.mp e, ?_⟩⟩, rfl, rfl⟩
    have : setV [] vs σ = σ := by cases vs <;> rfl
    rw [this] at q; exact q
  | e :: es, is, h => by
    unfold compNs at h
    cases q1 : compN X.N sc e with
    | none => rw [q1] at h; cases h
    | some i =>
      cases q2 : compNs X.N sc es with
      | none => rw [q1, q2] at h; cases h
      | some is' =>
        rw [q1, q2] at h
        cases h
        obtain ⟨x, p, rfl, l, hx⟩ := compN_ok q1
        obtain ⟨g, g1, g2⟩ := pgs_names hN S q2
        have hl := S.loc x l
        refine ⟨⟨fun pins s σ H vs us Q I r ⟨e, q⟩ => (pgs_cons (pg_name hN hx hl.1 hl.2) g rfl).run pins s σ H vs us Q I r ?_⟩, congrArg Nat.succ g1, ?_⟩
        · cases vs with
          | nil => cases e
          | cons v vs => exact ⟨v, vs, rfl, Nat.succ.inj e, q⟩
        · show List.findIdx? _ ((false, assign (.Name x p) X.env) :: assignEach es X.env) = none
          rw [List.findIdx?_cons, g2]; rfl
theorem s_tg {sc : Scope} {tg : Expr} {g : List Nat} {tp : Bool} (hc : X.calm = true) (hN : X.N.Nodup) (S : ScOk X sc) (h : compT X.N sc tg = some (g, tp)) : PG X tg (tG X.K cl g tp) := by
  cases tg with
  | Name x p =>
    simp only [compT] at h
    cases q : compN X.N sc (.Name x p) with
    | none => rw [q] at h; cases h
    | some i =>
      rw [q] at h
      cases h
      obtain ⟨y, p', e, l, hx⟩ := compN_ok q
      cases e
      have hl := S.loc x l
      refine ⟨fun pins s σ H v u Q I r ⟨ρ, τ, h, d, sr, hr, rp, τ', ht, k⟩ => (pg_name hN hx hl.1 hl.2).run pins s σ H v u Q I r ?_⟩
      have e1 : τ' = τ.set i (some d) := by cases ht; rfl
      subst e1
      exact k _ (sr.set rp i) fun vs hv => wipe_set (hv i List.mem_cons_self)
  | Tuple es k p =>
    simp only [compT] at h
    cases q : compNs X.N sc es with
    | none => rw [q] at h; cases h
    | some is =>
      rw [q] at h
      cases h
      obtain ⟨G, g1, g2⟩ := pgs_names hN S q
      refine ⟨fun pins s σ H v u Q I r ⟨ρ, τ, h, d, sr, hr, rp, τ', ht, k⟩ => ?_⟩
      cases rp with
      | @tup p2 ds vs s1 t1 =>
        obtain ⟨h1, h2, h3⟩ := setV_rel sr t1 (show setAll g ds τ = some τ' from ht)
        exact (pg_tup hc G g1 g2).run pins s σ H _ u Q I r ⟨p2, vs, rfl, s1, h1, h1, k _ h2 h3⟩
      | @ref a p2 ea =>
        simp only [target] at ht
        cases eo : h[a]? with
        | none => rw [eo] at ht; cases ht
        | some o =>
          rw [eo] at ht
          cases o with
          | lst ds =>
            obtain ⟨vs, e3, t1⟩ := obj_lst hr ea eo
            obtain ⟨h1, h2, h3⟩ := setV_rel sr t1 (show setAll g ds τ = some τ' from ht)
            exact (pg_lst (k := 0) hc G g1 g2).run pins s σ H _ u Q I r ⟨p2, vs, rfl, SqL.of e3, h1, h1, k _ h2 h3⟩
          | _ => cases ht
      | _ => cases ht
  | _ => cases h
end
end IX
end

section
set_option Elab.async false
set_option linter.all false
set_option maxRecDepth 100000
set_option maxHeartbeats 2000000
/-! IX12: what is walked; comprehensions. -/
namespace IX
open PySem PySem.Spec PyProof.Rows L2
/-- the walk J yields the items of t -/
structure ItRel (K : PySem.W.Frag) (cl : Nat → Option Addr) (ρ0 : Rho) (H0 : Hp) (t : IX.Its) (J : It) : Prop where
  go : ∀ (i : Nat) (ρ : Rho) (H : Hp) (h : Hh), Keep K ρ0 H0 ρ H → HRel K cl ρ H h → t.stands h → i < t.xs.length → J.go i H
  stop : ∀ (i : Nat) (ρ : Rho) (H : Hp) (h : Hh), Keep K ρ0 H0 ρ H → HRel K cl ρ H h → t.stands h → t.xs.length ≤ i → J.stop i H
  yld : ∀ (i : Nat) (ρ : Rho) (H : Hp) (h : Hh) (x : V) (H' : Hp), Keep K ρ0 H0 ρ H → HRel K cl ρ H h → t.stands h → i < t.xs.length → J.yld i H x H' → ∃ d, t.xs[i]? = some d ∧ Keep K ρ H ρ H' ∧ HRel K cl ρ H' h ∧ Rep K ρ H' d x
section
variable {K : PySem.W.Frag} {cl : Nat → Option Addr} {ρ0 : Rho} {H0 : Hp}
theorem Reps.nth {ρ : Rho} {H : Hp} {ds : List D} {vs : List V} {i : Nat} (r : Reps K ρ H ds vs) (h : i < ds.length) : ∃ d v, ds[i]? = some d ∧ vs[i]? = some v ∧ Rep K ρ H d v := by
  obtain ⟨v, e, q⟩ := r.get (List.getElem?_eq_getElem h)
  exact ⟨_, v, List.getElem?_eq_getElem h, e, q⟩
theorem it_tup {p : Addr} {ds : List D} {vs : List V} (s : SqT K H0 p vs) (r : Reps K ρ0 H0 ds vs) : ItRel K cl ρ0 H0 ⟨ds, none⟩ (Itt K p) where
  go i ρ H h k hr st hi := by
    obtain ⟨d, v, e1, e2, q⟩ := (r.keep k).nth hi
    exact ⟨vs, v, k.tup _ _ s, e2⟩
  stop i ρ H h k hr st hi := ⟨vs, k.tup _ _ s, by rw [← r.length]; exact hi⟩
  yld i ρ H h x H' k hr st hi y := by
    obtain ⟨rfl, y⟩ := y
    obtain ⟨d, v, e1, e2, q⟩ := (r.keep k).nth hi
    have e3 := y vs (k.tup _ _ s)
    rw [e2] at e3
    cases e3
    exact ⟨d, e1, Keep.refl, hr, q⟩
theorem it_lck {p : Addr} {ds : List D} {vs : List V} (s : SqF K H0 p vs) (r : Reps K ρ0 H0 ds vs) : ItRel K cl ρ0 H0 ⟨ds, none⟩ (Itl K p) where
  go i ρ H h k hr st hi := by
    obtain ⟨d, v, e1, e2, q⟩ := (r.keep k).nth hi
    exact ⟨vs, v, (k.lck _ _ s).sql, e2⟩
  stop i ρ H h k hr st hi := ⟨vs, (k.lck _ _ s).sql, by rw [← r.length]; exact hi⟩
  yld i ρ H h x H' k hr st hi y := by
    obtain ⟨rfl, y⟩ := y
    obtain ⟨d, v, e1, e2, q⟩ := (r.keep k).nth hi
    have e3 := y vs (k.lck _ _ s).sql
    rw [e2] at e3
    cases e3
    exact ⟨d, e1, Keep.refl, hr, q⟩
theorem it_lst {a : Nat} {p : Addr} {ds : List D} (ea : ρ0[a]? = some p) : ItRel K cl ρ0 H0 ⟨ds, some (a, .lst ds)⟩ (Itl K p) where
  go i ρ H h k hr st hi := by
    obtain ⟨vs, e, r⟩ := obj_lst hr (k.rho _ _ ea) (show h[a]? = some (.lst ds) from st)
    obtain ⟨d, v, e1, e2, q⟩ := r.nth hi
    exact ⟨vs, v, SqL.of e, e2⟩
  stop i ρ H h k hr st hi := by
    obtain ⟨vs, e, r⟩ := obj_lst hr (k.rho _ _ ea) (show h[a]? = some (.lst ds) from st)
    exact ⟨vs, SqL.of e, by rw [← r.length]; exact hi⟩
  yld i ρ H h x H' k hr st hi y := by
    obtain ⟨rfl, y⟩ := y
    obtain ⟨vs, e, r⟩ := obj_lst hr (k.rho _ _ ea) (show h[a]? = some (.lst ds) from st)
    obtain ⟨d, v, e1, e2, q⟩ := r.nth hi
    have e3 := y vs (SqL.of e)
    rw [e2] at e3
    cases e3
    exact ⟨d, e1, Keep.refl, hr, q⟩
theorem it_str {x : Str} : ItRel K cl ρ0 H0 ⟨x.cps.toList.map fun c => .str ⟨#[c]⟩, none⟩ (L2.Its x) where
  go i ρ H h k hr st hi := (show i < x.cps.size by simpa using hi)
  stop i ρ H h k hr st hi := (show x.cps.size ≤ i by simpa using hi)
  yld i ρ H h v H' k hr st hi y := by
    obtain ⟨rfl, c, e, rfl⟩ := y
    refine ⟨.str ⟨#[c]⟩, ?_, Keep.refl, hr, .str _ (by show 1 ≤ line; decide)⟩
    rw [List.getElem?_map, Array.getElem?_toList, e]; rfl
theorem rangeL_len (lo : Int) (n : Nat) : (rangeL lo n).length = n := by
  induction n generalizing lo with
  | zero => rfl
  | succ n ih => exact congrArg Nat.succ (ih _)
theorem rangeL_get (lo : Int) (n i : Nat) (h : i < n) : (rangeL lo n)[i]? = some (.int (lo + i)) := by
  induction n generalizing lo i with
  | zero => omega
  | succ n ih =>
    cases i with
    | zero => show some (D.int lo) = _; simp
    | succ i =>
      show (rangeL (lo + 1) n)[i]? = _
      rw [ih (lo + 1) i (by omega)]
      congr 2
      omega
theorem it_rng {lo : Int} {n : Nat} : ItRel K cl ρ0 H0 ⟨rangeL lo n, none⟩ (Itr lo n) where
  go i ρ H h k hr st hi := by
    have e := rangeL_len lo n
    exact (show i < n by rw [← e]; exact hi)
  stop i ρ H h k hr st hi := by
    have e := rangeL_len lo n
    exact (show n ≤ i by rw [← e]; exact hi)
  yld i ρ H h v H' k hr st hi y := by
    obtain ⟨rfl, rfl⟩ := y
    have e := rangeL_len lo n
    exact ⟨_, rangeL_get lo n i (by rw [← e]; exact hi), Keep.refl, hr, .int _⟩
theorem enum_len (j : Nat) (xs : List D) : (enumFrom j xs).length = xs.length := by
  induction xs generalizing j with
  | nil => rfl
  | cons x r ih => exact congrArg Nat.succ (ih _)
theorem enum_get (j : Nat) (xs : List D) (i : Nat) {d : D} (h : xs[i]? = some d) : (enumFrom j xs)[i]? = some (.tup [.int ((j + i : Nat) : Int), d]) := by
  induction xs generalizing j i with
  | nil => simp at h
  | cons x r ih =>
    cases i with
    | zero => simp at h; subst h; rfl
    | succ i =>
      have := ih (j + 1) i (by simpa using h)
      show (enumFrom (j + 1) r)[i]? = _
      rw [this]
      congr 4
      omega
theorem it_enum {t : IX.Its} {a : Addr} {ds : List D} {k0 : Option (Nat × O)} (b : ItRel K cl ρ0 H0 ⟨ds, k0⟩ (Itl K a)) : ItRel K cl ρ0 H0 ⟨enumFrom 0 ds, k0⟩ (Ite K a) where
  go i ρ H h k hr st hi := b.go i ρ H h k hr st (by rw [← enum_len 0 ds]; exact hi)
  stop i ρ H h k hr st hi := b.stop i ρ H h k hr st (by rw [← enum_len 0 ds]; exact hi)
  yld i ρ H h v H' k hr st hi y := by
    obtain ⟨T, x, rfl, n, rfl, y⟩ := y
    obtain ⟨d, e, _, _, q⟩ := b.yld i ρ H h x H k hr st (by rw [← enum_len 0 ds]; exact hi) ⟨rfl, y⟩
    have kp : Keep K ρ H ρ (upd H T (.tup [.int (i : Nat), x])) := Keep.new n
    refine ⟨.tup [.int (i : Nat), d], ?_, kp, hr.beside n, .tup (SqT.of upd_same) (.cons (.int _) (.cons (q.keep kp) .nil))⟩
    rw [enum_get 0 ds i e, Nat.zero_add]
end
def iE (K : PySem.W.Frag) (cl : Nat → Option Addr) (P : Pg) (E : XK) (c : IX.E) : TI := fun σ H R => ∃ ρ τ h, SRel K ρ H τ σ ∧ HRel K cl ρ H h ∧
  WR (evalIt P c τ h) (fun t h1 => ∀ ρ' H' J, Keep K ρ H ρ' H' → HRel K cl ρ' H' h1 → ItRel K cl ρ' H' t J → R J H') (PostX K cl ρ H E)
section
variable {X : Cx} {cl : Nat → Option Addr} {P : Pg} {E : XK} {a b c tg : Expr} {ca cb cc : IX.E} {pos : Pos}
theorem evalIt_plain {c : IX.E} {τ : IX.St} {h : Hh} (hp : plainIt c = true) : evalIt P c τ h = (evalE P c τ h).bind fun x h1 => match itemsD x h1 with
    | some (xs, k) => .ok ⟨xs, k⟩ h1
    | none => .bad := by cases c <;> first | rfl | cases hp
theorem _root_.L2.PI.imp {X : Cx} {tg e : Expr} {t t' : TI} (h : PI X tg e t) (hi : ∀ σ H Q, t' σ H Q → t σ H Q) : PI X tg e t' := ⟨fun pins s σ H Q I q => h.run pins s σ H Q I (hi σ H Q q)⟩
theorem at_list {pins : List (Addr × Obj)} {σ : L2.St} {H : Hp} {s : Shared} {R : It → Hp → Prop} {a : Addr} {xs : List V} (I : Inv X pins σ H s) (hq : SqL X.K H a xs) (q : R (Itl X.K a) H) : wpAny (model X.prog X.w) X.A (pyIter (.ref a)) (PIE X pins σ tg R) X.xe s := by
  obtain ⟨its, rv, p, hz⟩ := I.list hq
  refine wpAny_pyIter_list p.isList ?_
  refine ⟨s.heap.objs.size, [s.heap.objs.size], _, _, H, rfl, I.kept (t' := s.toks) fun b o e => Heap.get?_push_of_some _ e, turn_list a _, ⟨_, Heap.get?_push_size _ rfl, rfl, rfl⟩, fun b hb => ?_, q⟩
  have e : b = s.heap.objs.size := by simpa using hb
  subst e
  exact I.fpOk (Nat.le_refl _) (I.hok.fresh (Nat.le_refl _))
theorem at_tup {pins : List (Addr × Obj)} {σ : L2.St} {H : Hp} {s : Shared} {R : It → Hp → Prop} {a : Addr} {xs : List V} (I : Inv X pins σ H s) (hq : SqT X.K H a xs) (q : R (Itt X.K a) H) : wpAny (model X.prog X.w) X.A (pyIter (.ref a)) (PIE X pins σ tg R) X.xe s := by
  obtain ⟨its, rv, p, hz⟩ := I.tuple hq
  refine wpAny_pyIter_tuple (show s.heap.IsTuple a its.toArray from p) ?_
  refine ⟨s.heap.objs.size, [s.heap.objs.size], _, _, H, rfl, I.kept (t' := s.toks) fun b o e => Heap.get?_push_of_some _ e, turn_tuple a _, ⟨_, Heap.get?_push_size _ rfl, rfl, rfl⟩, fun b hb => ?_, q⟩
  have e : b = s.heap.objs.size := by simpa using hb
  subst e
  exact I.fpOk (Nat.le_refl _) (I.hok.fresh (Nat.le_refl _))
theorem at_str {pins : List (Addr × Obj)} {σ : L2.St} {H : Hp} {s : Shared} {R : It → Hp → Prop} {x : Str} {v : Value} (I : Inv X pins σ H s) (rv : RelV (.str x) v) (q : R (L2.Its x) H) : wpAny (model X.prog X.w) X.A (pyIter v) (PIE X pins σ tg R) X.xe s := by
  obtain ⟨t, rfl⟩ := rv
  cases ha : x.cps.all (· < 128)
  · exact wpAny_pyIter_wide ha (pi_one (tk := s.toks) I _ (turn_str _ x t "str_iterator" (.inr rfl)) ⟨_, Heap.get?_push_size _ rfl, rfl, rfl⟩ q)
  · exact wpAny_pyIter_ascii ha (pi_one (tk := s.toks) I _ (turn_str _ x t "str_ascii_iterator" (.inl rfl)) ⟨_, Heap.get?_push_size _ rfl, rfl, rfl⟩ q)
theorem s_it (ha : PE X a (tE X.K cl P E ca)) (hp : plainIt ca = true) : PI X tg a (iE X.K cl P E ca) := by
  refine ⟨fun pins s σ H R I ⟨ρ, τ, h, sr, hr, w⟩ => ?_⟩
  rw [evalIt_plain hp] at w
  have t1 : tE X.K cl P E ca σ H fun x H1 => ∃ ρ1 h1 d xs k, HRel X.K cl ρ1 H1 h1 ∧ Rep X.K ρ1 H1 d x ∧ itemsD d h1 = some (xs, k) ∧ ∀ J, ItRel X.K cl ρ1 H1 ⟨xs, k⟩ J → R J H1 :=
    ev1 sr hr w fun ρ1 H1 v d h1 kp hr1 s1 r1 w1 => by
      cases q : itemsD d h1 with
      | none => rw [q] at w1; exact (show False from w1).elim
      | some y =>
        rw [q] at w1
        exact ⟨ρ1, h1, d, y.1, y.2, hr1, r1, q, fun J ir => (show ∀ ρ' H' J, Keep X.K ρ H ρ' H' → HRel X.K cl ρ' H' h1 → ItRel X.K cl ρ' H' ⟨y.1, y.2⟩ J → R J H' from w1) ρ1 H1 J kp hr1 ir⟩
  refine thn (ha.run pins s σ H _ I t1) fun v s1 ⟨x, H1, I1, rx, ρ1, h1, d, xs, k, hr1, r1, q, go⟩ => ?_
  cases r1 with
  | tup s2 t2 => cases q; cases rx; exact at_tup I1 s2 (go _ (it_tup s2 t2))
  | lck s2 t2 => cases q; cases rx; exact at_list I1 s2.sql (go _ (it_lck s2 t2))
  | str x2 z => cases q; exact at_str I1 rx (go _ it_str)
  | @ref a2 p ea =>
    simp only [itemsD] at q
    cases eo : h1[a2]? with
    | none => rw [eo] at q; cases q
    | some o =>
      rw [eo] at q
      cases o with
      | lst ds =>
        cases q
        cases rx
        obtain ⟨vs, e3, _⟩ := obj_lst hr1 ea eo
        exact at_list I1 (SqL.of e3) (go _ (it_lst ea))
      | _ => cases q
  | _ => cases q
theorem small_of {i : Int} (h : small i = true) : -(2 ^ 62) ≤ i ∧ i < 2 ^ 62 := by
  unfold small at h
  rw [Bool.and_eq_true] at h
  exact ⟨of_decide_eq_true h.1, of_decide_eq_true h.2⟩
theorem s_rng1 {p : Pos} (hg : Gl X "range") (hm : X.mg "range" = none) (ha : PE X a (tE X.K cl P E ca)) (h1 : notStar a = true) : PI X tg (.Call (.Name "range" p) [a] [] pos) (iE X.K cl P E (.rng1 ca)) := by
  refine (pi_range1 hg hm (pa_cons ha pa_nil (star_of h1)) (star_of h1)).imp fun σ H R ⟨ρ, τ, h, sr, hr, w⟩ => ?_
  refine ev1 sr hr w fun ρ1 H1 v d h1 kp hr1 s1 r1 w1 => ?_
  cases r1 with
  | int j =>
    by_cases q : small j = true
    · have w2 : WR (if small j = true then IX.R.ok (⟨rangeL 0 j.toNat, none⟩ : IX.Its) h1 else .bad) (fun t h1 => ∀ ρ' H' J, Keep X.K ρ H ρ' H' → HRel X.K cl ρ' H' h1 → ItRel X.K cl ρ' H' t J → R J H') (PostX X.K cl ρ1 H1 E) := w1
      rw [if_pos q] at w2
      exact ⟨j, rfl, (small_of q).1, (small_of q).2, w2 ρ1 H1 _ kp hr1 it_rng⟩
    · have w2 : WR (if small j = true then IX.R.ok (⟨rangeL 0 j.toNat, none⟩ : IX.Its) h1 else .bad) (fun t h1 => ∀ ρ' H' J, Keep X.K ρ H ρ' H' → HRel X.K cl ρ' H' h1 → ItRel X.K cl ρ' H' t J → R J H') (PostX X.K cl ρ1 H1 E) := w1
      rw [if_neg q] at w2
      exact (show False from w2).elim
  | _ => exact (show False from w1).elim
theorem s_rng2 {p : Pos} (hg : Gl X "range") (hm : X.mg "range" = none) (ha : PE X a (tE X.K cl P E ca)) (hb : PE X b (tE X.K cl P E cb)) (h1 : notStar a = true) (h2 : notStar b = true) : PI X tg (.Call (.Name "range" p) [a, b] [] pos) (iE X.K cl P E (.rng2 ca cb)) := by
  refine (pi_range2 hg hm (pa_cons ha (pa_cons hb pa_nil (star_of h2)) (star_of h1)) (by rw [star_of h1, star_of h2]; rfl) (star_of h2)).imp fun σ H R ⟨ρ, τ, h, sr, hr, w⟩ => ?_
  refine ev1 sr hr w fun ρ1 H1 v d h1 kp hr1 s1 r1 w1 => ev1 s1 hr1 w1 fun ρ2 H2 u e h2 kp2 hr2 s2 r2 w2 => ?_
  cases r1 with
  | int i =>
    cases r2 with
    | int j =>
      have w3 : WR (if small i = true ∧ small j = true then IX.R.ok (⟨rangeL i (j - i).toNat, none⟩ : IX.Its) h2 else .bad) (fun t h1 => ∀ ρ' H' J, Keep X.K ρ H ρ' H' → HRel X.K cl ρ' H' h1 → ItRel X.K cl ρ' H' t J → R J H') (PostX X.K cl ρ2 H2 E) := w2
      by_cases q : small i = true ∧ small j = true
      · rw [if_pos q] at w3
        exact ⟨i, j, rfl, ⟨(small_of q.1).1, (small_of q.1).2, (small_of q.2).1, (small_of q.2).2⟩, w3 ρ2 H2 _ (kp.trans kp2) hr2 it_rng⟩
      · rw [if_neg q] at w3
        exact (show False from w3).elim
    | _ => exact (show False from w2).elim
  | _ => cases r2 <;> exact (show False from w2).elim
theorem s_enum {p tpos : Pos} {elts : List Expr} {kk : Nat} (hg : Gl X "enumerate") (hm : X.mg "enumerate" = none) (ha : PE X a (tE X.K cl P E ca)) (h1 : notStar a = true) : PI X (.Tuple elts kk tpos) (.Call (.Name "enumerate" p) [a] [] pos) (iE X.K cl P E (.enum ca)) := by
  refine (pi_enum hg hm (pa_cons ha pa_nil (star_of h1)) (star_of h1)).imp fun σ H R ⟨ρ, τ, h, sr, hr, w⟩ => ?_
  refine ev1 sr hr w fun ρ1 H1 v d h1 kp hr1 s1 r1 w1 => ?_
  cases q : enumD d h1 with
  | none => rw [q] at w1; exact (show False from w1).elim
  | some y =>
    rw [q] at w1
    have go := show ∀ ρ' H' J, Keep X.K ρ H ρ' H' → HRel X.K cl ρ' H' h1 → ItRel X.K cl ρ' H' ⟨enumFrom 0 y.1, y.2⟩ J → R J H' from w1
    cases r1 with
    | lck s2 t2 => cases q; exact ⟨_, _, rfl, s2.sql, go ρ1 H1 _ kp hr1 (it_enum (t := ⟨[], none⟩) (it_lck s2 t2))⟩
    | @ref a2 p ea =>
      simp only [enumD] at q
      cases eo : h1[a2]? with
      | none => rw [eo] at q; cases q
      | some o =>
        rw [eo] at q
        cases o with
        | lst ds =>
          cases q
          obtain ⟨vs, e3, _⟩ := obj_lst hr1 ea eo
          exact ⟨_, _, rfl, SqL.of e3, go ρ1 H1 _ kp hr1 (it_enum (t := ⟨[], none⟩) (it_lst ea))⟩
        | _ => cases q
    | _ => cases q
theorem fold_of {e : Expr} {env : Env} (h : notSet e = true) : ∀ x, foldedSetIterable e env x = pure x := by
  intro x
  cases e <;> first | rfl | cases h
end
end IX
end

section
set_option Elab.async false
set_option linter.all false
set_option maxRecDepth 100000
set_option maxHeartbeats 2000000
/-! IX13: comprehensions. -/
namespace IX
open PySem PySem.Spec PyProof.Rows L2
section
variable {K : PySem.W.Frag} {cl : Nat → Option Addr}
theorem Kp.grow {ρ : Rho} {H : Hp} {p : Addr} : Kp K ρ H (ρ ++ [p]) H := ⟨fun a q e => by rw [List.getElem?_append_left (List.getElem?_eq_some_iff.mp e).1]; exact e, fun _ _ e => e, fun _ _ e => e⟩
theorem wipeD_len (τ : IX.St) : ∀ vs : List Nat, (wipeD τ vs).length = τ.length
  | [] => rfl
  | v :: vs => by unfold wipeD; rw [List.length_set, wipeD_len τ vs]
theorem SRel.wiped {ρ : Rho} {H : Hp} {τ : IX.St} {σ : L2.St} (s : SRel K ρ H τ σ) : ∀ vs : List Nat, SRel K ρ H (wipeD τ vs) (wipe σ vs)
  | [] => s
  | v :: vs => by
    have ih := s.wiped vs
    refine ⟨by rw [wipeD_len, wipe_length]; exact s.len, fun i d e => ?_⟩
    unfold wipeD at e
    unfold wipe
    by_cases hv : v = i
    · subst hv
      by_cases z : v < (wipeD τ vs).length
      · rw [List.getElem?_set_self z] at e; cases e
      · rw [List.getElem?_eq_none (by rw [List.length_set]; omega)] at e; cases e
    · rw [List.getElem?_set_ne hv] at e ⊢
      exact ih.at_ i d e
theorem wipe_wipe (σ : L2.St) (vs : List Nat) : wipe (wipe σ vs) vs = wipe σ vs := by
  apply List.ext_getElem?
  intro j
  by_cases hj : j ∈ vs
  · rw [wipe_in hj, wipe_in hj, Option.map_map]; rfl
  · rw [wipe_out hj]
/-- one turn whose item is kept -/
theorem turn_yes {m : R (List D)} {y : D} {acc : List D} {k : D → Hh → Prop} {x : Nat → List (Str × D) → Hh → Prop} (w : WR ((m.bind fun ys h2 => R.ok (y :: ys) h2).calm.bind fun ys h5 => R.new (.lst (acc ++ ys)) h5) k x) :
    WR (m.calm.bind fun ys h5 => R.new (.lst ((acc ++ [y]) ++ ys)) h5) k x := by
  cases m with
  | bad => exact w
  | ex _ _ _ => exact w
  | ok ys h => exact (show WR (R.new (.lst ((acc ++ [y]) ++ ys)) h) k x by rw [List.append_assoc]; exact w)
theorem turn_no {m : R (List D)} {acc : List D} {k : D → Hh → Prop} {x : Nat → List (Str × D) → Hh → Prop} (w : WR ((m.bind fun ys h2 => R.ok ys h2).calm.bind fun ys h5 => R.new (.lst (acc ++ ys)) h5) k x) :
    WR (m.calm.bind fun ys h5 => R.new (.lst (acc ++ ys)) h5) k x := by
  cases m with
  | bad => exact w
  | ex _ _ _ => exact w
  | ok ys h => exact w
/-- a turn's first half, nothing raised -/
theorem turn_fst {α : Type} {m : R α} {f : α → Hh → R (List D)} {g : List D → Hh → R D} {k : D → Hh → Prop} {x z : Nat → List (Str × D) → Hh → Prop} (w : WR ((m.bind f).calm.bind g) k x) : WR m (fun a h => WR ((f a h).calm.bind g) k x) z := by
  cases m with
  | bad => exact w
  | ex _ _ _ => exact (show False from w).elim
  | ok a h => exact w
theorem turn_if {α : Type} {m : R D} {f g : Hh → R α} {J : α → Hh → R (List D)} {G : List D → Hh → R D} {k : D → Hh → Prop} {x z : Nat → List (Str × D) → Hh → Prop} (w : WR (((m.bind fun v h3 => match truth v h3 with
    | some true => f h3
    | some false => g h3
    | none => .bad).bind J).calm.bind G) k x) : WR (m.bind ofTruth) (fun b h3 => WR (((if b = true then f h3 else g h3).bind J).calm.bind G) k x) z := by
  cases m with
  | bad => exact (show False from w).elim
  | ex _ _ _ => exact (show False from w).elim
  | ok v h =>
    change WR (((match truth v h with
    | some true => f h
    | some false => g h
    | none => R.bad).bind J).calm.bind G) k x at w
    show WR (ofTruth v h) _ z
    unfold ofTruth
    cases q : truth v h with
    | none => rw [q] at w; exact (show False from w).elim
    | some b => rw [q] at w; cases b <;> exact w
end
section
variable {X : Cx} {cl : Nat → Option Addr} {P : Pg} {E : XK} {elt tg iter : Expr} {ifs : List Expr} {ci cx cc : IX.E} {pos : Pos}
/-- a clause's tests -/
def tIfs (K : PySem.W.Frag) (cl : Nat → Option Addr) (P : Pg) (E : XK) (c : IX.E) : TT := if c.isNil = true then tYes else tT K cl P E c
open Classical in
theorem s_lc {scope : Scope} {own : List (Str × Nat)} {g : List Nat} {tp : Bool} (hc : X.calm = true) (hN : X.N.Nodup) (hi : PI X tg iter (iE X.K cl P E ci)) (ok : BlkOk X.N X.env.scope scope own) (hg : own.map (·.2) = g)
    (ht : ∀ (s : Shared) (H : Hp) (C : Addr) (cs : List (Str × Addr)) (fp : List Addr), PG (X.blk s H scope (compEnvC scope cs C X.env) fp) tg (tG X.K cl g tp)) (hif : ∀ (s : Shared) (H : Hp) (C : Addr) (cs : List (Str × Addr)) (fp : List Addr), PTs (X.blk s H scope (compEnvC scope cs C X.env) fp) ifs (tIfs X.K cl P E0 cc))
    (he : ∀ (s : Shared) (H : Hp) (C : Addr) (cs : List (Str × Addr)) (fp : List Addr), PE (X.blk s H scope (compEnvC scope cs C X.env) fp) elt (tE X.K cl P E0 cx)) (hs : ∀ x, foldedSetIterable iter X.env x = pure x) :
    (∀ σ H Q, tE X.K cl P E (.lc cx g tp ci cc) σ H Q → tLc (iE X.K cl P E ci) (tG X.K cl g tp) (tIfs X.K cl P E0 cc) (tE X.K cl P E0 cx) g σ H Q) := by
  intro σ H Q ⟨ρ, τ, h, s, hr, w⟩
  have w0 : WR ((evalIt P ci τ h).bind fun t h1 => if t.xs.length ≤ line then (turns (fun x h2 => match target g tp x (wipeD τ g) h2 with
      | some σ2 => if cc.isNil = true then (evalE P cx σ2 h2).bind fun y h4 => .ok (some y) h4
        else (evalE P cc σ2 h2).bind fun z h3 => match truth z h3 with
          | some true => (evalE P cx σ2 h3).bind fun y h4 => .ok (some y) h4
          | some false => .ok none h3
          | none => .bad
      | none => .bad) t t.xs h1).calm.bind fun ys h5 => R.new (.lst ys) h5 else .bad) (PostE X.K cl ρ H Q) (PostX X.K cl ρ H E) := w
  generalize hF : (fun (x : D) (h2 : Hh) => match target g tp x (wipeD τ g) h2 with
      | some σ2 => if cc.isNil = true then (evalE P cx σ2 h2).bind fun y h4 => R.ok (some y) h4
        else (evalE P cc σ2 h2).bind fun z h3 => match truth z h3 with
          | some true => (evalE P cx σ2 h3).bind fun y h4 => .ok (some y) h4
          | some false => .ok none h3
          | none => .bad
      | none => .bad) = F at w0
  refine ⟨ρ, τ, h, s, hr, w0.bnd.imp (fun t h1 w1 ρ1 H1 J kp hr1 ir Dl nD => ?_) fun _ _ _ q => q⟩
  by_cases hlen : t.xs.length ≤ line
  case neg => rw [if_neg hlen] at w1; exact (show False from w1).elim
  rw [if_pos hlen] at w1
  have W0 : ∀ (x : Nat → List (Str × D) → Hh → Prop) ys h5, WR (R.new (.lst ys) h5) (PostE X.K cl ρ H Q) x → WR (R.new (.lst ([] ++ ys)) h5) (PostE X.K cl ρ H Q) x := fun _ _ _ q => q
  refine ⟨fun i m Hc => m = t.xs.length - i ∧ i ≤ t.xs.length ∧ ∃ ρc hh acc dacc, HRel X.K cl ρc Hc hh ∧ Keep X.K ρ1 H1 ρc Hc ∧ Hc Dl = some (.lst acc) ∧ (∀ a : Nat, ρc[a]? ≠ some Dl) ∧ acc.length ≤ i ∧ Reps X.K ρc Hc dacc acc ∧
    WR ((turns F t (t.xs.drop i) hh).calm.bind fun ys h5 => R.new (.lst (dacc ++ ys)) h5) (PostE X.K cl ρ H Q) (PostX X.K cl ρ H E), ⟨t.xs.length, by simp, Nat.zero_le _, ρ1, h1, [], [], hr1.beside nD, Keep.new nD, upd_same, hr1.notin nD, Nat.le_refl _, .nil, w1⟩, ?_⟩
  rintro i m Hc ⟨rfl, hi2, ρc, hh, acc, dacc, hrc, kc, eD, fD, la, ra, wc⟩
  have sD : Soft Hc Dl := Soft.lst eD
  by_cases hlt : i < t.xs.length
  · refine .inr ?_
    rw [List.drop_eq_getElem_cons hlt] at wc
    have wc1 : WR ((if t.stands hh then (F t.xs[i] hh).bind fun y h1 => (turns F t (t.xs.drop (i + 1)) h1).bind fun ys h2 => match y with
      | some v => R.ok (v :: ys) h2
      | none => .ok ys h2
      else .bad).calm.bind fun ys h5 => R.new (.lst (dacc ++ ys)) h5) (PostE X.K cl ρ H Q) (PostX X.K cl ρ H E) := wc
    by_cases st : t.stands hh
    case neg => rw [if_neg st] at wc1; exact (show False from wc1).elim
    rw [if_pos st] at wc1
    refine ⟨ir.go i ρc Hc hh kc hrc st hlt, fun H' => t.xs.length - (i + 1) = t.xs.length - (i + 1) ∧ i + 1 ≤ t.xs.length ∧ ∃ ρc hh acc dacc, HRel X.K cl ρc H' hh ∧ Keep X.K ρ1 H1 ρc H' ∧ H' Dl = some (.lst acc) ∧ (∀ a : Nat, ρc[a]? ≠ some Dl) ∧ acc.length ≤ i + 1 ∧ Reps X.K ρc H' dacc acc ∧
      WR ((turns F t (t.xs.drop (i + 1)) hh).calm.bind fun ys h5 => R.new (.lst (dacc ++ ys)) h5) (PostE X.K cl ρ H Q) (PostX X.K cl ρ H E), fun H' n => ⟨t.xs.length - (i + 1), by omega, n⟩, fun x H' y => ?_⟩
    obtain ⟨d, ed, ky, hry, ry⟩ := ir.yld i ρc Hc hh x H' kc hrc st hlt y
    have ed2 : t.xs[i] = d := by
      rw [List.getElem?_eq_getElem hlt] at ed
      exact Option.some.inj ed
    rw [ed2] at wc1
    have sr : SRel X.K ρc H' (wipeD τ g) (wipe σ g) := (((s.keep kp).keep kc).keep ky).wiped g
    have oD := ky.other Dl (by rw [eD]; exact fun z => nomatch z) fD
    -- the target
    have tgt : ∃ τ', target g tp d (wipeD τ g) hh = some τ' := by
      cases q : target g tp d (wipeD τ g) hh with
      | some τ' => exact ⟨τ', rfl⟩
      | none =>
        rw [← hF] at wc1
        simp only [q] at wc1
        exact (show False from wc1).elim
    obtain ⟨τ', et⟩ := tgt
    have hFd : F d hh = if cc.isNil = true then (evalE P cx τ' hh).bind fun y h4 => R.ok (some y) h4
        else (evalE P cc τ' hh).bind fun z h3 => match truth z h3 with
          | some true => (evalE P cx τ' h3).bind fun y h4 => .ok (some y) h4
          | some false => .ok none h3
          | none => .bad := by
      rw [← hF]; simp only [et]
    rw [hFd] at wc1
    clear hFd
    refine ⟨ρc, wipeD τ g, hh, d, sr, hry, ry, τ', et, fun σ' sr' wp => ⟨?_, ?_⟩⟩
    · exact (wp g (fun i h => h)).trans (wipe_wipe σ g)
    -- the element, from any later moment
    have tail : ∀ ρ3 H3 h3, Keep X.K ρc H' ρ3 H3 → HRel X.K cl ρ3 H3 h3 → WR ((((evalE P cx τ' h3).bind fun y h4 => R.ok (some y) h4).bind fun y h1 => (turns F t (t.xs.drop (i + 1)) h1).bind fun ys h2 => match y with
      | some v => R.ok (v :: ys) h2
      | none => .ok ys h2).calm.bind fun ys h5 => R.new (.lst (dacc ++ ys)) h5) (PostE X.K cl ρ H Q) (PostX X.K cl ρ H E) → tE X.K cl P E0 cx σ' H3 (fun y H4 => ∃ acc, H4 Dl = some (.lst acc) ∧ acc.length < sizeLine ∧ (fun H' => t.xs.length - (i + 1) = t.xs.length - (i + 1) ∧ i + 1 ≤ t.xs.length ∧ ∃ ρc hh acc dacc, HRel X.K cl ρc H' hh ∧ Keep X.K ρ1 H1 ρc H' ∧ H' Dl = some (.lst acc) ∧ (∀ a : Nat, ρc[a]? ≠ some Dl) ∧ acc.length ≤ i + 1 ∧ Reps X.K ρc H' dacc acc ∧
      WR ((turns F t (t.xs.drop (i + 1)) hh).calm.bind fun ys h5 => R.new (.lst (dacc ++ ys)) h5) (PostE X.K cl ρ H Q) (PostX X.K cl ρ H E)) (upd H4 Dl (.lst (acc ++ [y])))) := by
      intro ρ3 H3 h3 k3 hr3 w3
      rw [bind_assoc] at w3
      refine ⟨ρ3, τ', h3, sr'.keep k3, hr3, (turn_fst w3).imp (fun y h4 w4 ρ4 H4 v k4 hr4 r4 => ?_) fun _ _ _ z => z⟩
      have kk : Keep X.K ρc Hc ρ4 H4 := (ky.trans k3).trans k4
      have o4 := kk.other Dl (by rw [eD]; exact fun z => nomatch z) fD
      have e4 : H4 Dl = some (.lst acc) := o4.1.trans eD
      have s4 : Soft H4 Dl := Soft.lst e4
      refine ⟨acc, e4, by rw [sizeLine_eq]; have hl : line = 16777216 := rfl; omega, rfl, hlt, ρ4, h4, acc ++ [v], dacc ++ [y], hr4.side o4.2 s4, (kc.trans kk).side nD s4, upd_same, o4.2, by rw [List.length_append]; exact Nat.succ_le_succ la, ?_, ?_⟩
      · exact ((ra.keep kk).append (.cons r4 .nil)).kp (Kp.side s4)
      · exact turn_yes w4
    by_cases hn : cc.isNil = true
    · rw [if_pos hn] at wc1
      have e0 : tIfs X.K cl P E0 cc = tYes := if_pos hn
      rw [e0]
      exact tail ρc H' hh Keep.refl hry wc1
    · rw [if_neg hn] at wc1
      have e0 : tIfs X.K cl P E0 cc = tT X.K cl P E0 cc := if_neg hn
      rw [e0]
      refine ⟨ρc, τ', hh, sr', hry, (turn_if wc1).imp (fun b h3 w3 ρ3 H3 k3 hr3 => ?_) fun _ _ _ z => z⟩
      cases b with
      | true => exact tail ρ3 H3 h3 k3 hr3 w3
      | false =>
        have kk : Keep X.K ρc Hc ρ3 H3 := ky.trans k3
        have o4 := kk.other Dl (by rw [eD]; exact fun z => nomatch z) fD
        have w4 : WR (((turns F t (t.xs.drop (i + 1)) h3).bind fun ys h2 => R.ok ys h2).calm.bind fun ys h5 => R.new (.lst (dacc ++ ys)) h5) (PostE X.K cl ρ H Q) (PostX X.K cl ρ H E) := w3
        exact ⟨rfl, hlt, ρ3, h3, acc, dacc, hr3, kc.trans kk, o4.1.trans eD, o4.2, Nat.le_succ_of_le la, ra.keep kk, turn_no w4⟩
  · have ei : t.xs.drop i = [] := List.drop_eq_nil_of_le (by omega)
    rw [ei] at wc
    have wc1 : WR ((if t.stands hh then R.ok [] hh else .bad).calm.bind fun ys h5 => R.new (.lst (dacc ++ ys)) h5) (PostE X.K cl ρ H Q) (PostX X.K cl ρ H E) := wc
    by_cases st : t.stands hh
    case neg => rw [if_neg st] at wc1; exact (show False from wc1).elim
    rw [if_pos st] at wc1
    refine .inl ⟨ir.stop i ρc Hc hh kc hrc st (by omega), ?_⟩
    have w2 : WR (R.new (.lst (dacc ++ [])) hh) (PostE X.K cl ρ H Q) (PostX X.K cl ρ H E) := wc1
    rw [List.append_nil] at w2
    refine (show PostE X.K cl ρ H Q (.ref hh.length) (hh ++ [.lst dacc]) from w2) (ρc ++ [Dl]) Hc (.ref Dl) (kp.trans (kc.take nD)) (hrc.take fD ⟨acc, eD, ra.kp Kp.grow⟩) (.ref ?_)
    rw [← hrc.len, List.getElem?_append_right (Nat.le_refl _), Nat.sub_self]; rfl
end
end IX
end

section
set_option Elab.async false
set_option linter.all false
set_option maxRecDepth 100000
set_option maxHeartbeats 4000000
/-! IX14: every expression's code is right. -/
namespace IX
open PySem PySem.Spec PyProof.Rows L2
theorem plain_tru {e : Expr} (h : plainT e = true) (env : Env) (whole : Sem Value) : isTrue e env whole = (do let v ← whole; standAt e.pos; holding [v] (truthy v)) := by
  cases e with
  | UnaryOp op a p => cases op <;> first | rfl | cases h
  | _ => first | rfl | cases h
theorem plainIx_of {b : Expr} (h : notSl b = true) : PlainIx b := by
  intro o i
  cases b <;> first | rfl | cases h
theorem okIt_of {o : Option IX.E} {c : IX.E} (h : okIt o = some c) : o = some c ∧ plainIt c = true := by
  cases o with
  | none => cases h
  | some y =>
    have h' : (if plainIt y = true then some y else none) = some c := h
    by_cases q : plainIt y = true
    · rw [if_pos q] at h'; cases h'; exact ⟨rfl, q⟩
    · rw [if_neg q] at h'; cases h'
section
variable {X : Cx} {G : Gam} {T : Tbl} {cl : Nat → Option Addr} {n : Nat} {E : XK} {sc : Scope}
abbrev Both (X : Cx) (T : Tbl) (cl : Nat → Option Addr) (n : Nat) (E : XK) (e : Expr) (c : IX.E) : Prop := PE X e (tE X.K cl (pgT T n) E c) ∧ PT X e (tT X.K cl (pgT T n) E c)
theorem both_plain {e : Expr} {c : IX.E} (h : PE X e (tE X.K cl (pgT T n) E c)) (p : plainT e = true) : Both X T cl n E e c := ⟨h, s_tru h fun w => plain_tru p _ w⟩
theorem and_ok {f : Expr → Option IX.E} (hf : ∀ e c, f e = some c → Both X T cl n E e c) {pos : Pos} : ∀ {es : List Expr} {c : IX.E}, compB f IX.E.and es = some c → PE X (.BoolOp .And es pos) (tE X.K cl (pgT T n) E c) ∧ PW X (.BoolOp .And es pos) (tT X.K cl (pgT T n) E c)
  | [], c, h => by cases h
  | [a], c, h => ⟨s_one (hf a c h).1, pw_and1 (hf a c h).2⟩
  | a :: b :: r, c, h => by
    have h' : (match f a, compB f IX.E.and (b :: r) with
    | some x, some y => some (IX.E.and x y)
    | _, _ => none) = some c := h
    cases q1 : f a with
    | none => rw [q1] at h'; cases h'
    | some x =>
      cases q2 : compB f IX.E.and (b :: r) with
      | none => rw [q1, q2] at h'; cases h'
      | some y =>
        rw [q1, q2] at h'
        cases h'
        have i2 := and_ok hf (pos := pos) q2
        exact ⟨s_andV (hf a x q1).1 i2.1, s_andT (hf a x q1).2 i2.2⟩
theorem or_ok {f : Expr → Option IX.E} (hf : ∀ e c, f e = some c → Both X T cl n E e c) {pos : Pos} : ∀ {es : List Expr} {c : IX.E}, compB f IX.E.or es = some c → PE X (.BoolOp .Or es pos) (tE X.K cl (pgT T n) E c) ∧ PW X (.BoolOp .Or es pos) (tT X.K cl (pgT T n) E c)
  | [], c, h => by cases h
  | [a], c, h => ⟨s_one (hf a c h).1, pw_or1 (hf a c h).2⟩
  | a :: b :: r, c, h => by
    have h' : (match f a, compB f IX.E.or (b :: r) with
    | some x, some y => some (IX.E.or x y)
    | _, _ => none) = some c := h
    cases q1 : f a with
    | none => rw [q1] at h'; cases h'
    | some x =>
      cases q2 : compB f IX.E.or (b :: r) with
      | none => rw [q1, q2] at h'; cases h'
      | some y =>
        rw [q1, q2] at h'
        cases h'
        have i2 := or_ok hf (pos := pos) q2
        exact ⟨s_orV (hf a x q1).1 i2.1, s_orT (hf a x q1).2 i2.2⟩
/-- a comprehension's block -/
theorem Ok.blk (o : Ok X G T cl n E) (s : Shared) (H : Hp) (scope : Scope) (cenv : Env) (fp : List Addr) : Ok (X.blk s H scope cenv fp) G T cl n E0 := ⟨o.calm, o.nd, o.room, o.fn, o.cst, o.non, passL⟩
theorem lookup_free {sc : Scope} : ∀ {names : List (Str × NameKind)} {x : Str}, names.lookup x = some .free →
    (names.map fun (n, k) => if (k == NameKind.free && sc.kind == .function && sc.names.lookup n == some .cell) then (n, NameKind.cell) else (n, k)).lookup x = some .free ∨ (names.map fun (n, k) => if (k == NameKind.free && sc.kind == .function && sc.names.lookup n == some .cell) then (n, NameKind.cell) else (n, k)).lookup x = some .cell
  | [], _, h => by simp at h
  | (m, k) :: r, x, h => by
    have ih := @lookup_free sc r x
    show List.lookup x ((if (k == NameKind.free && sc.kind == .function && sc.names.lookup m == some .cell) = true then (m, NameKind.cell) else (m, k)) :: (r.map _)) = some .free ∨ List.lookup x ((if (k == NameKind.free && sc.kind == .function && sc.names.lookup m == some .cell) = true then (m, NameKind.cell) else (m, k)) :: (r.map _)) = some .cell
    cases hx : x == m with
    | true =>
      simp only [List.lookup_cons, hx] at h
      cases h
      by_cases hc : (NameKind.free == NameKind.free && sc.kind == .function && sc.names.lookup m == some .cell) = true
      · rw [if_pos hc]; simp only [List.lookup_cons, hx]; exact .inr trivial
      · rw [if_neg hc]; simp only [List.lookup_cons, hx]; exact .inl trivial
    | false =>
      simp only [List.lookup_cons, hx] at h
      by_cases hc : (k == NameKind.free && sc.kind == .function && sc.names.lookup m == some .cell) = true
      · rw [if_pos hc]; simp only [List.lookup_cons, hx]; exact ih h
      · rw [if_neg hc]; simp only [List.lookup_cons, hx]; exact ih h
theorem ScOk.blk (s : Shared) (H : Hp) (scope : Scope) (C : Addr) (cs : List (Str × Addr)) (fp : List Addr) : ScOk (X.blk s H scope (compEnvC scope cs C X.env) fp) scope where
  loc x h := by
    cases q : scope.names.lookup x with
    | none => rw [q] at h; cases h
    | some k =>
      rw [q] at h
      cases k <;> first | (cases h; done) | skip
      · have e := lookup_relS_keep (sc := X.env.scope) (by decide) q
        exact ⟨.inl e, .inr e⟩
      · have e := lookup_relS_keep (sc := X.env.scope) (by decide) q
        exact ⟨.inr e, .inl (by show (scope.names.lookup x == some .cell) = true; rw [q]; rfl)⟩
  vis x h := by
    cases q : scope.names.lookup x with
    | none => rw [q] at h; cases h
    | some k =>
      rw [q] at h
      cases k <;> first | (cases h; done) | skip
      · exact .inl (lookup_relS_keep (sc := X.env.scope) (by decide) q)
      · exact .inr (.inl (lookup_relS_keep (sc := X.env.scope) (by decide) q))
      · rcases lookup_free (sc := X.env.scope) q with e | e
        · exact .inr (.inr e)
        · exact .inr (.inl e)
  gl x h := by
    cases q : scope.names.lookup x with
    | none => rw [q] at h; cases h
    | some k =>
      rw [q] at h
      cases k <;> first | (cases h; done) | skip
      exact lookup_relS_keep (sc := X.env.scope) (by decide) q
  fr x h := by
    rcases h with h | h
    · exact .inl (lookup_relS_keep (sc := X.env.scope) (by decide) h)
    · exact (lookup_free (sc := X.env.scope) h).symm
theorem ScOk.blkOk (S : ScOk X sc) {scope : Scope} {own : List (Str × Nat)} (h : blkC X.N sc scope own = true) : BlkOk X.N X.env.scope scope own := by
  have b := blkOk_by h
  exact ⟨b.kind, b.uniq, b.ix, fun y hy e => S.fr y.1 (b.free y hy e), b.own⟩
theorem compI_ok {f : Expr → Option IX.E} (o : Ok X G T cl n E) (S : ScOk X sc) (hf : ∀ e c, f e = some c → PE X e (tE X.K cl (pgT T n) E c)) {e tg : Expr} {c : IX.E} (h : compI f G sc e = some c) (ht : (∃ a, c = .enum a) → ∃ elts k p, tg = .Tuple elts k p) :
    PI X tg e (iE X.K cl (pgT T n) E c) ∧ notSet e = true := by
  have dflt : notSet e = true → okIt (f e) = some c → PI X tg e (iE X.K cl (pgT T n) E c) ∧ notSet e = true := fun h1 h2 => ⟨s_it (hf e c (okIt_of h2).1) (okIt_of h2).2, h1⟩
  have rest : (if notSet e = true then okIt (f e) else none) = some c → PI X tg e (iE X.K cl (pgT T n) E c) ∧ notSet e = true := fun h2 => by
    by_cases q : notSet e = true
    · rw [if_pos q] at h2; exact dflt q h2
    · rw [if_neg q] at h2; cases h2
  cases e with
  | Call fx args kws pos =>
    cases fx with
    | Name x p =>
      cases kws with
      | cons _ _ => exact rest h
      | nil =>
        have h1 : (if isGl (sc.names.lookup x) = true ∧ okName x = true then (match (generalizing := false) G.glob x with
          | none => if x = ("range" : Str) then (match (generalizing := false) args with
              | [a] => if notStar a = true then (f a).map .rng1 else none
              | [a, b] => if notStar a = true ∧ notStar b = true then (match (generalizing := false) f a, f b with
                | some a, some b => some (.rng2 a b)
                | _, _ => none) else none
              | _ => none)
            else if x = ("enumerate" : Str) then (match (generalizing := false) args with
              | [a] => if notStar a = true then (f a).map .enum else none
              | _ => none)
            else okIt (f (.Call (.Name x p) args [] pos))
          | _ => okIt (f (.Call (.Name x p) args [] pos)))
          else none) = some c := h
        by_cases hg : isGl (sc.names.lookup x) = true ∧ okName x = true
        case neg => rw [if_neg hg] at h1; cases h1
        rw [if_pos hg] at h1
        cases q : G.glob x with
        | some k => rw [q] at h1; exact dflt rfl h1
        | none =>
          rw [q] at h1
          have h2 : (if x = ("range" : Str) then (match (generalizing := false) args with
              | [a] => if notStar a = true then (f a).map .rng1 else none
              | [a, b] => if notStar a = true ∧ notStar b = true then (match (generalizing := false) f a, f b with
                | some a, some b => some (.rng2 a b)
                | _, _ => none) else none
              | _ => none)
            else if x = ("enumerate" : Str) then (match (generalizing := false) args with
              | [a] => if notStar a = true then (f a).map .enum else none
              | _ => none)
            else okIt (f (.Call (.Name x p) args [] pos))) = some c := h1
          by_cases hx : x = ("range" : Str)
          · rw [if_pos hx] at h2
            subst hx
            match args, h2 with
            | [a], h2 =>
              have h2 : (if notStar a = true then (f a).map IX.E.rng1 else none) = some c := h2
              by_cases na : notStar a = true
              case neg => rw [if_neg na] at h2; cases h2
              rw [if_pos na] at h2
              cases q1 : f a with
              | none => rw [q1] at h2; cases h2
              | some ca => rw [q1] at h2; cases h2; exact ⟨s_rng1 (S.gl _ hg.1) (o.non _ (by decide)) (hf a ca q1) na, rfl⟩
            | [a, b], h2 =>
              have h2 : (if notStar a = true ∧ notStar b = true then (match (generalizing := false) f a, f b with
                | some a, some b => some (IX.E.rng2 a b)
                | _, _ => none) else none) = some c := h2
              by_cases na : notStar a = true ∧ notStar b = true
              case neg => rw [if_neg na] at h2; cases h2
              rw [if_pos na] at h2
              cases q1 : f a with
              | none => rw [q1] at h2; cases h2
              | some ca =>
                cases q2 : f b with
                | none => rw [q1, q2] at h2; cases h2
                | some cb => rw [q1, q2] at h2; cases h2; exact ⟨s_rng2 (S.gl _ hg.1) (o.non _ (by decide)) (hf a ca q1) (hf b cb q2) na.1 na.2, rfl⟩
            | [], h2 => cases h2
            | _ :: _ :: _ :: _, h2 => cases h2
          · rw [if_neg hx] at h2
            by_cases hx : x = ("enumerate" : Str)
            · rw [if_pos hx] at h2
              subst hx
              match args, h2 with
              | [a], h2 =>
                have h2 : (if notStar a = true then (f a).map IX.E.enum else none) = some c := h2
                by_cases na : notStar a = true
                case neg => rw [if_neg na] at h2; cases h2
                rw [if_pos na] at h2
                cases q1 : f a with
                | none => rw [q1] at h2; cases h2
                | some ca =>
                  rw [q1] at h2; cases h2
                  obtain ⟨elts, k, p, rfl⟩ := ht ⟨ca, rfl⟩
                  exact ⟨s_enum (S.gl _ hg.1) (o.non _ (by decide)) (hf a ca q1) na, rfl⟩
              | [], h2 => cases h2
              | _ :: _ :: _, h2 => cases h2
            · rw [if_neg hx] at h2; exact dflt rfl h2
    | _ => exact rest h
  | _ => exact rest h
end
end IX
end

section
set_option Elab.async false
set_option linter.all false
set_option maxRecDepth 100000
set_option maxHeartbeats 2000000
/-! IXr: x[::-1] of tuples and lists. -/
namespace IX
open PySem PySem.Spec PyProof.Rows L2
section
variable {prog : Program} {w : World} {A : Around} {E : Value → Shared → Prop} {s : Shared}
theorem applied_rev {sl : Addr} {vl vu vs : Value} {n : Nat} {Q : Int × Int × Nat → Shared → Prop} (hs : s.heap.IsSliceOf sl vl vu vs) (pl : IsPart vl none) (pu : IsPart vu none) (ps : IsPart vs (some (-1)))
    (h : Q ((n : Int) - 1, -1, n) s) : wpAny (model prog w) A (Builtin.Slice.sliceApplied (.ref sl) (pure (n : Int))) Q E s := by
  obtain ⟨os, hos, hcs, hds⟩ := id hs
  unfold Builtin.Slice.sliceApplied Builtin.Slice.sliceFields
  refine wpAny_bind (wpAny_bind (wpAny_field hos hds (x := vl) rfl (wpAny_bind (wpAny_field hos hds (x := vu) rfl (wpAny_bind (wpAny_field hos hds (x := vs) rfl (wpAny_pure ?_)))))))
  refine wpAny_bind (HT.slicePart_ ps ?_)
  show wpAny _ _ (if ((-1 : Int) == 0) = true then _ else _) _ _ s
  rw [if_neg (by decide)]
  refine wpAny_bind (HT.slicePart_ pl (wpAny_bind (HT.slicePart_ pu (wpAny_bind (wpAny_pure ?_)))))
  have e1 : Builtin.Slice.sliceAdjust none none (-1) (n : Int) = ((n : Int) - 1, -1) := rfl
  have e2 : Builtin.Slice.slicePlaces ((n : Int) - 1) (-1) (-1) = n := by
    unfold Builtin.Slice.slicePlaces
    rw [if_neg (by decide)]
    by_cases z : (n : Int) - 1 > -1
    · rw [if_pos z, show (- -1 : Int) = 1 by decide, Int.ediv_one]; omega
    · rw [if_neg z]; omega
  show wpAny _ _ (match Builtin.Slice.sliceAdjust none none (-1) (n : Int) with | (lo, hi) => pure (lo, (-1 : Int), Builtin.Slice.slicePlaces lo hi (-1))) _ _ s
  rw [e1]
  show wpAny _ _ (pure ((n : Int) - 1, (-1 : Int), Builtin.Slice.slicePlaces ((n : Int) - 1) (-1) (-1))) _ _ s
  rw [e2]
  exact wpAny_pure h
theorem fm_congr {α β : Type} {f g : α → Option β} : ∀ {l : List α}, (∀ x ∈ l, f x = g x) → l.filterMap f = l.filterMap g
  | [], _ => rfl
  | x :: r, h => by
    rw [List.filterMap_cons, List.filterMap_cons, h x List.mem_cons_self, fm_congr fun y hy => h y (List.mem_cons_of_mem _ hy)]
theorem places_rev (xs : Array Value) : ((List.range xs.size).filterMap fun (m : Nat) => xs[(((xs.size : Int) - 1) + (m : Int) * -1).toNat]?) = xs.toList.reverse := by
  have e : ((List.range xs.size).filterMap fun (m : Nat) => xs[(((xs.size : Int) - 1) + (m : Int) * -1).toNat]?) = ((List.range xs.size).map fun k => xs.size - 1 - k).filterMap (xs[·]?) := by
    rw [List.filterMap_map]
    apply fm_congr
    intro m hm
    have := List.mem_range.mp hm
    have e : (((xs.size : Int) - 1) + (m : Int) * -1).toNat = xs.size - 1 - m := by omega
    rw [e]; rfl
  rw [e, PySem.W.krv_range, List.filterMap_reverse, PySem.W.krv_all]
theorem getItem_tuple_rev {t sl : Addr} {items : Array Value} {vl vu vs : Value} {Q : Value → Shared → Prop} (ht : IsTup s.heap t items) (hs : s.heap.IsSliceOf sl vl vu vs) (pl : IsPart vl none) (pu : IsPart vu none) (ps : IsPart vs (some (-1)))
    (h : Q (.ref s.heap.objs.size) { s with heap := s.heap.push { cls := .type "tuple", data := .seq items.toList.reverse.toArray } })
    (hsz : items.size ≤ sizeLine) : wpAny (model prog w) A (getItem (.ref t) (.ref sl)) Q E s := by
  have htake : sizeOk (.seq items.toList.reverse.toArray) := by
    show items.toList.reverse.toArray.size ≤ sizeLine
    rw [List.size_toArray, List.length_reverse, Array.length_toList]
    exact hsz
  obtain ⟨os, hos, hcs, hds⟩ := id hs
  have hTs : s.TypeIs (.ref sl) "slice" := ⟨os, hos, hcs⟩
  unfold getItem
  try with_reducible refine wpAny_holding ?_
  first | refine wpAny_bind (wpAny_pure ?_) | skip
  refine wpAny_bind (wpAny_sequenceKey ht.typeIs (by decide) ?_)
  refine wpAny_bind (wpAny_callSpecial?_slot (name := Str.ofString "__getitem__") ht.typeIs PyProof.Rows.slot_tuple_getitem
    (wpAny_call_entry PyProof.Rows.slot_tuple_getitem ht.typeIs entry_tuple_getitem ?_ (args_tuple_getitem _ _)))
  show wpAny _ _ (Builtin.Tuple.tupleItemsOf (.ref t) >>= _) _ _ s
  refine wpAny_bind (tupleItemsOf_ ht ?_)
  refine wpAny_bind (wpAny_typeOf hTs ?_)
  rw [if_pos (by decide)]
  refine wpAny_bind (applied_rev hs pl pu ps ?_)
  have hno : ¬ ((((items.size : Int) - 1) == 0 && (-1 : Int) == 1 && items.size == items.size) = true) := by
    rw [show ((-1 : Int) == 1) = false from rfl, Bool.and_false, Bool.false_and]
    exact Bool.false_ne_true
  show wpAny _ _ (if (((items.size : Int) - 1) == 0 && (-1 : Int) == 1 && items.size == items.size) = true then _ else _) _ _ s
  rw [if_neg hno, places_rev]
  first
    | exact wpAny_bind (m := Builtin.Tuple.tupleExact _) (wpAny_newObj_type (wpAny_pure ⟨_, rfl, wpAny_pure h⟩) htake)
    | exact wpAny_bind (m := Builtin.Tuple.tupleExact _) (wpAny_newObj_type (wpAny_bind (wpAny_pure (wpAny_pure ⟨_, rfl, wpAny_pure h⟩))) htake)
    | exact wpAny_bind (wpAny_bind (m := Builtin.Tuple.tupleExact _) (wpAny_newObj_type (wpAny_pure (wpAny_pure ⟨_, rfl, wpAny_pure h⟩)) htake))
    | exact wpAny_bind (wpAny_bind (m := Builtin.Tuple.tupleExact _) (wpAny_newObj_type (wpAny_pure ⟨_, rfl, wpAny_pure h⟩) htake))
end
section
variable {X : Cx} {cl : Nat → Option Addr} {P : Pg} {E : XK} {e : Expr} {ca : IX.E}
theorem s_rev {k : Nat} {p1 p2 p3 pos : Pos} (he : PE X e (tE X.K cl P E ca)) : PE X (.Subscript e (.Slice none none (some (.UnaryOp .USub (.Constant (.int 1) k p1) p2)) p3) pos) (tE X.K cl P E (.rev ca)) := by
  refine ⟨fun pins s σ H Q I ⟨ρ, τ, h, sr, hr, w⟩ => ?_⟩
  have t1 : tE X.K cl P E ca σ H fun x H1 => ∃ a, x = .ref a ∧ ((∃ xs, SqL X.K H1 a xs ∧ ∀ p, H1 p = none → Q (.ref p) (upd H1 p (.lst xs.reverse))) ∨ ∃ xs, SqT X.K H1 a xs ∧ ∀ p, H1 p = none → Q (.ref p) (upd H1 p (.tup xs.reverse))) :=
    ev1 sr hr w fun ρ1 H1 v d h1 kp hr1 s1 r1 w1 => by
      have byList : ∀ xs, listD d h1 = some xs → WR (R.new (.lst xs.reverse) h1) (PostE X.K cl ρ H Q) (PostX X.K cl ρ1 H1 E) → ∃ a, v = .ref a ∧ ((∃ xs, SqL X.K H1 a xs ∧ ∀ p, H1 p = none → Q (.ref p) (upd H1 p (.lst xs.reverse))) ∨ ∃ xs, SqT X.K H1 a xs ∧ ∀ p, H1 p = none → Q (.ref p) (upd H1 p (.tup xs.reverse))) := fun xs ex w2 => by
        obtain ⟨a, vs, rfl, s2, t2⟩ := listD_rel hr1 r1 ex
        exact ⟨a, rfl, .inl ⟨vs, s2, fun p n => new_lst (x := PostX X.K cl ρ1 H1 E) hr1 t2.reverse (w2.imp (fun _ _ q => q.keep kp) fun _ _ _ q => q) p n⟩⟩
      cases r1 with
      | @tup p ds vs s2 t2 => exact ⟨p, rfl, .inr ⟨vs, s2, fun p n => new_tup hr1 t2.reverse ((show PostE X.K cl ρ H Q (.tup ds.reverse) h1 from w1).keep kp) p n⟩⟩
      | @lck p ds vs s2 t2 => exact byList ds rfl w1
      | @ref a p ea =>
        have w2 : WR (match listD (.ref a) h1 with
          | some xs => R.new (.lst xs.reverse) h1
          | none => .bad) (PostE X.K cl ρ H Q) (PostX X.K cl ρ1 H1 E) := w1
        cases q : listD (.ref a) h1 with
        | none => rw [q] at w2; exact (show False from w2).elim
        | some xs => rw [q] at w2; exact byList xs q w2
      | _ => exact (show False from w1).elim
  refine Subscript_ (thn (he.run pins s σ H _ I t1) fun v s1 ⟨x, H1, I1, r1, a, ex, q1⟩ => ?_)
  subst ex
  cases r1
  have hst : PO X (some (.UnaryOp .USub (.Constant (.int 1) k p1) p2)) (tPart (tUn (rU fun i => .int (-i)) (tC (.int 1)))) := po_some (pe_un un_neg pe_int)
  refine wpAny_Slice (thn (po_none.run pins s1 σ H1 (fun o H2 => o = none ∧ H2 = H1) I1 ⟨rfl, rfl⟩) fun vl s2 ⟨l, H2, I2, pl, el, e2⟩ => ?_)
  subst el e2
  refine thn (po_none.run pins s2 σ H2 (fun o H3 => o = none ∧ H3 = H2) I2 ⟨rfl, rfl⟩) fun vu s3 ⟨u, H3, I3, pu, eu, e3⟩ => ?_
  subst eu e3
  refine thn (hst.run pins s3 σ H3 (fun o H4 => o = some (-1) ∧ H4 = H3) I3 ⟨1, rfl, -1, rfl, rfl, rfl⟩) fun vs s4 ⟨o, H4, I4, ps, eo, e4⟩ => ?_
  subst eo e4
  have I5 : Inv X pins σ H4 { s4 with heap := s4.heap.push { cls := .type "slice", data := .fields #[vl, vu, vs] } } := I4.kept (t' := s4.toks) fun b ob q => Heap.get?_push_of_some _ q
  show wpAny (model X.prog X.w) X.A (subscriptTail e (.Slice none none (some (.UnaryOp .USub (.Constant (.int 1) k p1) p2)) p3) (.ref a) (.ref s4.heap.objs.size)) (EP X pins σ Q) X.xe { s4 with heap := s4.heap.push { cls := .type "slice", data := .fields #[vl, vu, vs] } }
  rcases q1 with ⟨xs, hx, q⟩ | ⟨xs, hx, q⟩
  · obtain ⟨its, r, ht, hz⟩ := I5.list hx
    have hlen := r.length
    refine tail_any (ops := [.ref a, .ref s4.heap.objs.size]) ht.isList.typeIs (PySem.slot_list_getitem.lookup) ?_ (by with_unfolding_all rfl)
    refine wpAny_getItem_list_slice ht.isList (Heap.IsSliceOf.new _ vl vu vs) pl pu ps (by decide) ?_ (by rw [List.size_toArray]; omega)
    rw [PySem.W.krv_pick]
    refine ⟨.ref _, _, I5.laid (t' := s4.toks) (o := .lst xs.reverse) (fun b ob q => Heap.get?_push_of_some _ q) (Nat.le_refl _) ?_, rfl, q _ (I5.hok.fresh (Nat.le_refl _))⟩
    exact ⟨by rw [List.length_reverse]; exact hz, _, 0, r.reverse, Heap.get?_push_size _ rfl⟩
  · obtain ⟨its, r, ht, hz⟩ := I5.tuple hx
    have hlen := r.length
    refine tail_any (ops := [.ref a, .ref s4.heap.objs.size]) ht.typeIs PyProof.Rows.slot_tuple_getitem.lookup ?_ (by with_unfolding_all rfl)
    refine getItem_tuple_rev ht (Heap.IsSliceOf.new _ vl vu vs) pl pu ps ?_ (by rw [List.size_toArray]; omega)
    refine ⟨.ref _, _, I5.laid (t' := s4.toks) (o := .tup xs.reverse) (fun b ob q => Heap.get?_push_of_some _ q) (Nat.le_refl _) ?_, rfl, q _ (I5.hok.fresh (Nat.le_refl _))⟩
    exact ⟨by rw [List.length_reverse]; exact hz, _, r.reverse, IsTup.new _ _⟩
end
end IX
end

section
set_option Elab.async false
set_option linter.all false
set_option maxRecDepth 100000
set_option maxHeartbeats 4000000
/-! IX15: every expression's code is right, whole. -/
namespace IX
open PySem PySem.Spec PyProof.Rows L2
theorem tg_tuple {N : List Str} {sc : Scope} {tg : Expr} {g : List Nat} (h : compT N sc tg = some (g, true)) : ∃ elts k p, tg = .Tuple elts k p := by
  cases tg with
  | Tuple es k p => exact ⟨es, k, p, rfl⟩
  | Name x p =>
    simp only [compT] at h
    cases q : compN N sc (.Name x p) with
    | none => rw [q] at h; cases h
    | some i => rw [q] at h; cases h
  | _ => cases h
theorem zip_snd {α β : Type} : ∀ {xs : List α} {ys : List β}, xs.length = ys.length → (xs.zip ys).map (·.2) = ys
  | [], [], _ => rfl
  | _ :: xs, _ :: ys, h => congrArg (_ :: ·) (zip_snd (Nat.succ.inj h))
section
variable {X : Cx} {G : Gam} {T : Tbl} {cl : Nat → Option Addr} {n : Nat} {E : XK} {sc : Scope}
theorem call_ok {f : Expr → Option IX.E} (o : Ok X G T cl n E) (S : ScOk X sc) (hf : ∀ e c, f e = some c → PE X e (tE X.K cl (pgT T n) E c)) {x : Str} {p pos : Pos} {args : List Expr} {c : IX.E}
    (h : (if isGl (sc.names.lookup x) = true ∧ okName x = true then (match G.glob x with
        | some (.fn i) => (compL f args).map (.call i)
        | some _ => none
        | none => if x = ("isinstance" : Str) then (match (generalizing := false) args with
            | [a, t] => if notStar a = true ∧ notStar t = true then (match (generalizing := false) f a, tyOf G sc t with
              | some x, some t => if isOwn t = false then some (.isi x [t]) else none
              | _, _ => none) else none
            | _ => none)
          else match (generalizing := false) biOf x, args with
            | some b, e :: es => (compL f (e :: es)).map (.bi b)
            | _, _ => none) else none) = some c) : PE X (.Call (.Name x p) args [] pos) (tE X.K cl (pgT T n) E c) := by
  by_cases hg : isGl (sc.names.lookup x) = true ∧ okName x = true
  case neg => rw [if_neg hg] at h; cases h
  rw [if_pos hg] at h
  obtain ⟨n1, n2, n3⟩ := name_of hg.2
  have gl := S.gl x hg.1
  cases q : G.glob x with
  | some k =>
    rw [q] at h
    cases k with
    | fn i =>
      cases q2 : compL f args with
      | none => rw [q2] at h; cases h
      | some ce =>
        rw [q2] at h
        cases h
        cases args with
        | nil => cases q2; exact s_call0 o gl q n1
        | cons e es =>
          have q3 := q2
          unfold compL at q3
          by_cases ns : notStar e = true
          case neg => rw [if_neg ns] at q3; cases q3
          rw [if_pos ns] at q3
          cases q4 : f e with
          | none => rw [q4] at q3; cases q3
          | some ce0 =>
            cases q5 : compL f es with
            | none => rw [q4, q5] at q3; cases q3
            | some ce1 => exact s_call o gl q n1 (s_args hf q2) (star_of ns) (plain_of q5)
    | _ => cases h
  | none =>
    rw [q] at h
    have h1 : (if x = ("isinstance" : Str) then (match (generalizing := false) args with
            | [a, t] => if notStar a = true ∧ notStar t = true then (match (generalizing := false) f a, tyOf G sc t with
              | some x, some t => if isOwn t = false then some (IX.E.isi x [t]) else none
              | _, _ => none) else none
            | _ => none)
          else match (generalizing := false) biOf x, args with
            | some b, e :: es => (compL f (e :: es)).map (IX.E.bi b)
            | _, _ => none) = some c := h
    by_cases hx : x = ("isinstance" : Str)
    · rw [if_pos hx] at h1
      subst hx
      match args, h1 with
      | [a, t], h1 =>
        have h2 : (if notStar a = true ∧ notStar t = true then (match (generalizing := false) f a, tyOf G sc t with
              | some x, some t => if isOwn t = false then some (IX.E.isi x [t]) else none
              | _, _ => none) else none) = some c := h1
        by_cases ns : notStar a = true ∧ notStar t = true
        case neg => rw [if_neg ns] at h2; cases h2
        rw [if_pos ns] at h2
        cases q1 : f a with
        | none => rw [q1] at h2; cases h2
        | some ca =>
          cases q2 : tyOf G sc t with
          | none => rw [q1, q2] at h2; cases h2
          | some ty =>
            rw [q1, q2] at h2
            have h3 : (if isOwn ty = false then some (IX.E.isi ca [ty]) else none) = some c := h2
            by_cases ow : isOwn ty = false
            case neg => rw [if_neg ow] at h3; cases h3
            rw [if_pos ow] at h3
            cases h3
            exact s_isi o S gl (o.non _ (by decide)) q2 ow (hf a ca q1) ns.1 ns.2
      | [], h1 => cases h1
      | [_], h1 => cases h1
      | _ :: _ :: _ :: _, h1 => cases h1
    · rw [if_neg hx] at h1
      cases q1 : biOf x with
      | none => rw [q1] at h1; cases h1
      | some b =>
        rw [q1] at h1
        cases args with
        | nil => cases h1
        | cons e es =>
          have h2 : (compL f (e :: es)).map (IX.E.bi b) = some c := h1
          cases q2 : compL f (e :: es) with
          | none => rw [q2] at h2; cases h2
          | some ce =>
            rw [q2] at h2
            cases h2
            have q3 := q2
            unfold compL at q3
            by_cases ns : notStar e = true
            case neg => rw [if_neg ns] at q3; cases q3
            rw [if_pos ns] at q3
            cases q4 : f e with
            | none => rw [q4] at q3; cases q3
            | some ce0 =>
              cases q5 : compL f es with
              | none => rw [q4, q5] at q3; cases q3
              | some ce1 => exact s_bi o.calm q1 gl (o.non x (bi_blt q1)) n3 n1 (s_args hf q2) (star_of ns) (plain_of q5)
theorem meth_ok {f : Expr → Option IX.E} (hf : ∀ e c, f e = some c → PE X e (tE X.K cl (pgT T n) E c)) {o : Expr} {m : Str} {apos cpos : Pos} {args : List Expr} {c : IX.E}
    (h : (if (apos.endLine == cpos.line) = true ∧ notSup o = true ∧ args.length < 29 then (match G.meth m with
        | some _ => none
        | none => match (generalizing := false) meOf m, f o, compL f args with
          | some k, some x, some y => some (IX.E.me k x y)
          | _, _, _ => none) else none) = some c) : PE X (.Call (.Attribute o m apos) args [] cpos) (tE X.K cl (pgT T n) E c) := by
  by_cases hg : (apos.endLine == cpos.line) = true ∧ notSup o = true ∧ args.length < 29
  case neg => rw [if_neg hg] at h; cases h
  rw [if_pos hg] at h
  cases q0 : G.meth m with
  | some _ => rw [q0] at h; cases h
  | none =>
    rw [q0] at h
    have h1 : (match (generalizing := false) meOf m, f o, compL f args with
          | some k, some x, some y => some (IX.E.me k x y)
          | _, _, _ => none) = some c := h
    cases q1 : meOf m with
    | none => rw [q1] at h1; cases h1
    | some k =>
      cases q2 : f o with
      | none => rw [q1, q2] at h1; cases h1
      | some co =>
        cases q3 : compL f args with
        | none => rw [q1, q2, q3] at h1; cases h1
        | some ce =>
          rw [q1, q2, q3] at h1
          cases h1
          cases args with
          | nil => cases q3; exact s_me0 q1 (hf o co q2) hg.2.1 hg.1
          | cons e es =>
            have q4 := q3
            unfold compL at q4
            by_cases ns : notStar e = true
            case neg => rw [if_neg ns] at q4; cases q4
            rw [if_pos ns] at q4
            cases q5 : f e with
            | none => rw [q5] at q4; cases q4
            | some ce0 =>
              cases q6 : compL f es with
              | none => rw [q5, q6] at q4; cases q4
              | some ce1 => exact s_me q1 (hf o co q2) (s_args hf q3) hg.2.1 hg.1 hg.2.2 (star_of ns) (plain_of q3) (plain_of q6)
theorem compE_ok : ∀ (k : Nat) {X : Cx} {E : XK} {sc : Scope} {e : Expr} {c : IX.E}, Ok X G T cl n E → ScOk X sc → compE G X.N k sc e = some c → Both X T cl n E e c
  | 0, X, E, sc, e, c, o, S, h => by cases h
  | k + 1, X, E, sc, e, c, o, S, h => by
    have ih : ∀ e c, compE G X.N k sc e = some c → Both X T cl n E e c := fun e c q => compE_ok k o S q
    have ihE : ∀ e c, compE G X.N k sc e = some c → PE X e (tE X.K cl (pgT T n) E c) := fun e c q => (ih e c q).1
    have hu := o.hu
    generalize hf : compE G X.N k sc = f at ih ihE
    cases e with
    | Name x p =>
      refine both_plain ?_ rfl
      have h1 : (if okName x = true then (if isVis (sc.names.lookup x) = true then (place x X.N).map IX.E.loc
        else if isGl (sc.names.lookup x) = true then (match G.glob x with
          | some (.cst d) => some (.cst d)
          | _ => none) else none) else none) = some c := h
      by_cases hn : okName x = true
      case neg => rw [if_neg hn] at h1; cases h1
      rw [if_pos hn] at h1
      obtain ⟨n1, n2, n3⟩ := name_of hn
      by_cases hv : isVis (sc.names.lookup x) = true
      · rw [if_pos hv] at h1
        cases q : place x X.N with
        | none => rw [q] at h1; cases h1
        | some i => rw [q] at h1; cases h1; exact s_loc (place_ix q) (S.vis x hv) n1 n2
      · rw [if_neg hv] at h1
        by_cases hg : isGl (sc.names.lookup x) = true
        case neg => rw [if_neg hg] at h1; cases h1
        rw [if_pos hg] at h1
        cases q : G.glob x with
        | none => rw [q] at h1; cases h1
        | some g =>
          rw [q] at h1
          cases g with
          | cst d =>
            cases h1
            obtain ⟨u, v, m, r, rep⟩ := o.cst x d q
            exact s_cst (pe_glob (S.gl x hg) m r n1) rep
          | _ => cases h1
    | Constant cc j p =>
      refine both_plain ?_ rfl
      cases cc with
      | int i => cases h; exact s_cst pe_int fun _ _ => .int i
      | bool b => cases h; exact s_cst pe_bl fun _ _ => .bl b
      | none => cases h; exact s_cst pe_non fun _ _ => .non
      | str x =>
        have h1 : (if x.length ≤ line then some (IX.E.cst (.str x)) else none) = some c := h
        by_cases z : x.length ≤ line
        · rw [if_pos z] at h1; cases h1; exact s_cst pe_str fun _ _ => .str x z
        · rw [if_neg z] at h1; cases h1
      | _ => cases h
    | BinOp a op b p =>
      refine both_plain ?_ rfl
      have h1 : (match (generalizing := false) opOf op, compE G X.N k sc a, compE G X.N k sc b with
        | some o, some x, some y => some (IX.E.bop o x y)
        | _, _, _ => none) = some c := h
      rw [hf] at h1
      cases q1 : opOf op with
      | none => rw [q1] at h1; cases h1
      | some o' =>
        cases q2 : f a with
        | none => rw [q1, q2] at h1; cases h1
        | some x =>
          cases q3 : f b with
          | none => rw [q1, q2, q3] at h1; cases h1
          | some y => rw [q1, q2, q3] at h1; cases h1; exact s_bop (op_ok q1) (ihE a x q2) (ihE b y q3)
    | UnaryOp op a p =>
      have h1 : (match (generalizing := false) op, compE G X.N k sc a with
        | .Not, some x => some (IX.E.not x)
        | .USub, some x => some (.neg x)
        | _, _ => none) = some c := h
      rw [hf] at h1
      cases q : f a with
      | none => rw [q] at h1; cases op <;> cases h1
      | some x =>
        rw [q] at h1
        cases op <;> first | (cases h1; done) | skip
        · cases h1; exact ⟨s_notV (ih a x q).1, s_not (ih a x q).2⟩
        · cases h1; exact both_plain (s_neg (ih a x q).1) rfl
    | BoolOp op es p =>
      cases op with
      | And =>
        have h1 : compB (compE G X.N k sc) IX.E.and es = some c := h
        rw [hf] at h1
        have a := and_ok ih (pos := p) h1
        exact ⟨a.1, a.2.pt⟩
      | Or =>
        have h1 : compB (compE G X.N k sc) IX.E.or es = some c := h
        rw [hf] at h1
        have a := or_ok ih (pos := p) h1
        exact ⟨a.1, a.2.pt⟩
    | IfExp cd a b p =>
      have h1 : (match (generalizing := false) compE G X.N k sc cd, compE G X.N k sc a, compE G X.N k sc b with
        | some z, some x, some y => some (IX.E.ite z x y)
        | _, _, _ => none) = some c := h
      rw [hf] at h1
      cases q1 : f cd with
      | none => rw [q1] at h1; cases h1
      | some z =>
        cases q2 : f a with
        | none => rw [q1, q2] at h1; cases h1
        | some x =>
          cases q3 : f b with
          | none => rw [q1, q2, q3] at h1; cases h1
          | some y => rw [q1, q2, q3] at h1; cases h1; exact ⟨s_ifV (ih cd z q1).2 (ihE a x q2) (ihE b y q3), s_ifT (ih cd z q1).2 (ih a x q2).2 (ih b y q3).2⟩
    | Compare a ops bs p =>
      match ops, bs, h with
      | [op], [b], h =>
        have h1 : (if behindInMarks op b = false then (match (generalizing := false) cmpOf op, compE G X.N k sc a, compE G X.N k sc b with
          | some o, some x, some y => some (IX.E.bop o x y)
          | _, _, _ => none) else none) = some c := h
        rw [hf] at h1
        by_cases hm : behindInMarks op b = false
        case neg => rw [if_neg hm] at h1; cases h1
        rw [if_pos hm] at h1
        cases q1 : cmpOf op with
        | none => rw [q1] at h1; cases h1
        | some o' =>
          cases q2 : f a with
          | none => rw [q1, q2] at h1; cases h1
          | some x =>
            cases q3 : f b with
            | none => rw [q1, q2, q3] at h1; cases h1
            | some y => rw [q1, q2, q3] at h1; cases h1; exact ⟨s_cmp (cmp_ok hu q1) (ihE a x q2) (ihE b y q3) hm, s_cmpT (cmp_ok hu q1) (cmp_bl q1).1 (cmp_bl q1).2 (ihE a x q2) (ihE b y q3) hm⟩
      | [op, op'], [b, d], h =>
        have h1 : (if lastMarks [op, op'] [b, d] = false then (match (generalizing := false) cmpOf op, cmpOf op', compE G X.N k sc a, compE G X.N k sc b, compE G X.N k sc d with
          | some o, some p, some x, some y, some z => some (IX.E.cmp2 o p x y z)
          | _, _, _, _, _ => none) else none) = some c := h
        rw [hf] at h1
        by_cases hm : lastMarks [op, op'] [b, d] = false
        case neg => rw [if_neg hm] at h1; cases h1
        rw [if_pos hm] at h1
        cases q1 : cmpOf op with
        | none => rw [q1] at h1; cases h1
        | some o1 =>
          cases q1' : cmpOf op' with
          | none => rw [q1, q1'] at h1; cases h1
          | some o2 =>
            cases q2 : f a with
            | none => rw [q1, q1', q2] at h1; cases h1
            | some x =>
              cases q3 : f b with
              | none => rw [q1, q1', q2, q3] at h1; cases h1
              | some y =>
                cases q4 : f d with
                | none => rw [q1, q1', q2, q3, q4] at h1; cases h1
                | some z =>
                  rw [q1, q1', q2, q3, q4] at h1; cases h1
                  exact ⟨s_chain (cmp_ok hu q1) (cmp_ok hu q1') (ihE a x q2) (ihE b y q3) (ihE d z q4) hm, s_chainT (cmp_ok hu q1) (cmp_ok hu q1') (cmp_bl q1').1 (ihE a x q2) (ihE b y q3) (ihE d z q4) hm⟩
      | [], bs, h => cases bs <;> cases h
      | [_], [], h => cases h
      | [_], _ :: _ :: _, h => cases h
      | [_, _], [], h => cases h
      | [_, _], [_], h => cases h
      | [_, _], _ :: _ :: _ :: _, h => cases h
      | _ :: _ :: _ :: _, bs, h => cases h
    | Tuple es x1 p =>
      refine both_plain ?_ rfl
      have h1 : (compL (compE G X.N k sc) es).map IX.E.tup = some c := h
      rw [hf] at h1
      cases q : compL f es with
      | none => rw [q] at h1; cases h1
      | some ce => rw [q] at h1; cases h1; exact s_tup (s_args ihE q)
    | List es p =>
      refine both_plain ?_ rfl
      have h1 : (compL (compE G X.N k sc) es).map IX.E.lst = some c := h
      rw [hf] at h1
      cases q : compL f es with
      | none => rw [q] at h1; cases h1
      | some ce => rw [q] at h1; cases h1; exact s_lst (s_args ihE q)
    | Dict ks vs p =>
      refine both_plain ?_ rfl
      cases ks with
      | cons _ _ => cases h
      | nil =>
        cases vs with
        | cons _ _ => cases h
        | nil => cases h; exact s_dic0
    | Subscript a b p =>
      refine both_plain ?_ rfl
      have key : notSl b = true → (match (generalizing := false) compE G X.N k sc a, compE G X.N k sc b with
        | some x, some y => some (IX.E.idx x y)
        | _, _ => none) = some c → PE X (.Subscript a b p) (tE X.K cl (pgT T n) E c) := fun hs h1 => by
        rw [hf] at h1
        cases q1 : f a with
        | none => rw [q1] at h1; cases h1
        | some x =>
          cases q2 : f b with
          | none => rw [q1, q2] at h1; cases h1
          | some y => rw [q1, q2] at h1; cases h1; exact s_idx (by omega) (ihE a x q1) (ihE b y q2) (plainIx_of hs)
      cases b with
      | Slice lo hi st p2 =>
        cases st with
        | some st =>
          have h1 : (if isM1 st = true ∧ lo.isNone = true ∧ hi.isNone = true then (compE G X.N k sc a).map IX.E.rev else none) = some c := h
          by_cases hm : isM1 st = true ∧ lo.isNone = true ∧ hi.isNone = true
          case neg => rw [if_neg hm] at h1; cases h1
          rw [if_pos hm, hf] at h1
          cases q : f a with
          | none => rw [q] at h1; cases h1
          | some x =>
            rw [q] at h1
            cases h1
            obtain ⟨h2, h3, h4⟩ := hm
            cases lo with
            | some _ => cases h3
            | none =>
              cases hi with
              | some _ => cases h4
              | none =>
                unfold isM1 at h2
                split at h2
                · have e := of_decide_eq_true h2
                  subst e
                  exact s_rev (ihE a x q)
                · cases h2
        | none =>
          have h1 : (match (generalizing := false) compE G X.N k sc a, optE (compE G X.N k sc) lo, optE (compE G X.N k sc) hi with
            | some x, some l, some u => some (IX.E.slc x l u)
            | _, _, _ => none) = some c := h
          rw [hf] at h1
          cases q1 : f a with
          | none => rw [q1] at h1; cases h1
          | some x =>
            cases q2 : optE f lo with
            | none => rw [q1, q2] at h1; cases h1
            | some l =>
              cases q3 : optE f hi with
              | none => rw [q1, q2, q3] at h1; cases h1
              | some u => rw [q1, q2, q3] at h1; cases h1; exact s_slc (ihE a x q1) (s_opt ihE q2) (s_opt ihE q3)
      | _ => exact key rfl h
    | Call fx args kws cpos =>
      refine both_plain ?_ rfl
      cases kws with
      | cons _ _ => cases fx <;> cases h
      | nil =>
        cases fx with
        | Name x p => exact call_ok o S (f := compE G X.N k sc) (by rw [hf]; exact ihE) h
        | Attribute ob m apos => exact meth_ok (G := G) (f := compE G X.N k sc) (by rw [hf]; exact ihE) h
        | _ => cases h
    | ListComp elt gens scope p =>
      refine both_plain ?_ rfl
      match gens, h with
      | [⟨tg, it, ifs, 0⟩], h =>
        have h1 : (match (generalizing := false) compI (compE G X.N k sc) G sc it, compT X.N scope tg, compE G X.N k scope elt with
          | some i, some (g, tp), some x => if blkC X.N sc scope ((ownOf tg).zip g) = true ∧ enOk i tp = true ∧ (ownOf tg).length = g.length then (match (generalizing := false) ifs with
              | [] => some (IX.E.lc x g tp i .nil)
              | [c] => match (generalizing := false) compE G X.N k scope c with
                | some .nil => none
                | some c => some (.lc x g tp i c)
                | none => none
              | _ => none) else none
          | _, _, _ => none) = some c := h
        rw [hf] at h1
        cases q1 : compI f G sc it with
        | none => rw [q1] at h1; cases h1
        | some ci =>
          cases q2 : compT X.N scope tg with
          | none => rw [q1, q2] at h1; cases h1
          | some gt =>
            obtain ⟨g, tp⟩ := gt
            cases q3 : compE G X.N k scope elt with
            | none => rw [q1, q2, q3] at h1; cases h1
            | some cx =>
              rw [q1, q2, q3] at h1
              have h2 : (if blkC X.N sc scope ((ownOf tg).zip g) = true ∧ enOk ci tp = true ∧ (ownOf tg).length = g.length then (match (generalizing := false) ifs with
                | [] => some (IX.E.lc cx g tp ci .nil)
                | [c] => match (generalizing := false) compE G X.N k scope c with
                  | some .nil => none
                  | some c => some (.lc cx g tp ci c)
                  | none => none
                | _ => none) else none) = some c := h1
              by_cases hb : blkC X.N sc scope ((ownOf tg).zip g) = true ∧ enOk ci tp = true ∧ (ownOf tg).length = g.length
              case neg => rw [if_neg hb] at h2; cases h2
              rw [if_pos hb] at h2
              have ip := compI_ok o S ihE (tg := tg) q1 (fun ⟨a, e⟩ => by
                subst e
                have e2 : tp = true := hb.2.1
                subst e2
                exact tg_tuple q2)
              have bk := S.blkOk hb.1
              have zs := zip_snd hb.2.2
              have ht : ∀ (s : Shared) (H : Hp) (C : Addr) (cs : List (Str × Addr)) (fp : List Addr), PG (X.blk s H scope (compEnvC scope cs C X.env) fp) tg (tG X.K cl g tp) := fun s H C cs fp => s_tg (X := X.blk s H scope (compEnvC scope cs C X.env) fp) o.calm o.nd (ScOk.blk s H scope C cs fp) q2
              have he : ∀ (s : Shared) (H : Hp) (C : Addr) (cs : List (Str × Addr)) (fp : List Addr), PE (X.blk s H scope (compEnvC scope cs C X.env) fp) elt (tE X.K cl (pgT T n) E0 cx) := fun s H C cs fp => (compE_ok k (X := X.blk s H scope (compEnvC scope cs C X.env) fp) (o.blk s H scope _ fp) (ScOk.blk s H scope C cs fp) q3).1
              have fin : ∀ cc, (∀ (s : Shared) (H : Hp) (C : Addr) (cs : List (Str × Addr)) (fp : List Addr), PTs (X.blk s H scope (compEnvC scope cs C X.env) fp) ifs (tIfs X.K cl (pgT T n) E0 cc)) → PE X (.ListComp elt [⟨tg, it, ifs, 0⟩] scope p) (tE X.K cl (pgT T n) E (.lc cx g tp ci cc)) := fun cc hif => by
                have r := pe_lc (pos := p) o.calm o.nd ip.1 bk ht hif he (fold_of ip.2)
                rw [zs] at r
                exact r.imp (s_lc o.calm o.nd ip.1 bk zs ht hif he (fold_of ip.2))
              match ifs, h2, fin with
              | [], h2, fin => cases h2; exact fin .nil fun s H C cs fp => pts_nil
              | [cd], h2, fin =>
                have h3 : (match (generalizing := false) compE G X.N k scope cd with
                  | some .nil => none
                  | some c => some (IX.E.lc cx g tp ci c)
                  | none => none) = some c := h2
                cases q4 : compE G X.N k scope cd with
                | none => rw [q4] at h3; cases h3
                | some cc =>
                  have nn : cc.isNil = false := by
                    cases cc <;> first | rfl | (rw [q4] at h3; cases h3)
                  have e5 : some (IX.E.lc cx g tp ci cc) = some c := by
                    rw [q4] at h3
                    cases cc <;> first | exact h3 | cases nn
                  cases e5
                  refine fin cc fun s H C cs fp => ?_
                  have e6 : tIfs X.K cl (pgT T n) E0 cc = tT X.K cl (pgT T n) E0 cc := by unfold tIfs; rw [nn]; rfl
                  rw [e6]
                  exact pts_one (compE_ok k (X := X.blk s H scope (compEnvC scope cs C X.env) fp) (o.blk s H scope _ fp) (ScOk.blk s H scope C cs fp) q4).2
              | _ :: _ :: _, h2, fin => cases h2
      | [], h => cases h
      | [⟨_, _, _, Int.ofNat (_ + 1)⟩], h => cases h
      | [⟨_, _, _, Int.negSucc _⟩], h => cases h
      | _ :: _ :: _, h => simp [compE] at h
    | _ => cases h
end
end IX
end

section
set_option Elab.async false
set_option linter.all false
set_option maxRecDepth 100000
set_option maxHeartbeats 4000000
/-! IX16: statements: from the text to the code; readings. -/
namespace IX
open PySem PySem.Spec PyProof.Rows L2

def compSs (f : Stmt → Option S) : List Stmt → Option S
  | [] => some .skip
  | s :: r => match f s, compSs f r with
    | some a, some b => some (.seq a b)
    | _, _ => none
def notTup : Expr → Bool
  | .Tuple _ _ _ => false
  | _ => true
def isStrC : Expr → Bool
  | .Constant (.str _) _ _ => true
  | _ => false
/-- a, b = x, y whose stores are exchanged -/
def swapC (sc : Scope) (x y : Str) (px py : Pos) (vs : List Expr) : Bool :=
  (sc.names.lookup x == some .local) && (sc.names.lookup y == some .local) && decide (x ≠ y) && (py.line == px.line) && !(vs.all (foldedForSure 8)) && !(vs.all (constantsAlone 8))
def compPar (f : Expr → Option IX.E) (N : List Str) (sc : Scope) : List Expr → List Expr → Option S
  | [.Name x px, .Name y py], [a, b] => if swapC sc x y px py [a, b] = true ∧ notStar a = true ∧ notStar b = true then (match place x N, place y N, f a, f b with
    | some i, some j, some ca, some cb => some (.unp [i, j] (.tup (.cons ca (.cons cb .nil))))
    | _, _, _, _ => none) else none
  | _, _ => none
def compS (G : Gam) (N : List Str) : Nat → Scope → Stmt → Option S
  | 0, _, _ => none
  | k + 1, sc, s => match s with
    | .Pass _ => some .skip
    | .Expr e _ => if isStrC e = true then some .skip else if notComp e = true then (compE G N k sc e).map .exp else none
    | .Return none _ => some (.ret (.cst .non))
    | .Return (some e) _ => (compE G N k sc e).map .ret
    | .Assign [tg] e _ => match tg with
      | .Name x p => match compN N sc (.Name x p), compE G N k sc e with
        | some i, some c => some (.set i c)
        | _, _ => none
      | .Tuple es _ _ => if notTup e = true then (match compNs N sc es, compE G N k sc e with
          | some is, some c => some (.unp is c)
          | _, _ => none)
        else match e with
          | .Tuple vs _ _ => compPar (compE G N k sc) N sc es vs
          | _ => none
      | .Subscript a i _ => if notSl i = true then (match compE G N k sc a, compE G N k sc i, compE G N k sc e with
        | some x, some y, some z => some (.seti x y z)
        | _, _, _ => none) else none
      | _ => none
    | .If c a b _ => match compE G N k sc c, compSs (compS G N k sc) a, compSs (compS G N k sc) b with
      | some x, some y, some z => some (.ite x y z)
      | _, _, _ => none
    | .While c b els _ => match els, compE G N k sc c, compSs (compS G N k sc) b with
      | [], some x, some y => some (.whl x y)
      | _, _, _ => none
    | .For tg it b els _ => match els, compI (compE G N k sc) G sc it, compT N sc tg, compSs (compS G N k sc) b with
      | [], some i, some (g, tp), some y => if enOk i tp = true then some (.loop g tp i y) else none
      | _, _, _, _ => none
    | .Break _ => some .brk
    | .Continue _ => some .cnt
    | _ => none
/-- what is wanted behind a statement -/
def PostF (K : PySem.W.Frag) (cl : Nat → Option Addr) (ρ : Rho) (H : Hp) (D : Ends) (fl : Fl) (h' : Hh) : Prop := ∀ (ρ' : Rho) (H' : Hp), Keep K ρ H ρ' H' → HRel K cl ρ' H' h' → match fl with
  | .nx τ => ∀ σ', SRel K ρ' H' τ σ' → D.nx σ' H'
  | .bk τ => ∀ σ', SRel K ρ' H' τ σ' → D.bk σ' H'
  | .ct τ => ∀ σ', SRel K ρ' H' τ σ' → D.ct σ' H'
  | .rt d => ∀ v, Rep K ρ' H' d v → D.rt v H'
theorem PostF.keep {K : PySem.W.Frag} {cl : Nat → Option Addr} {ρ ρ1 : Rho} {H H1 : Hp} {D : Ends} {fl : Fl} {h' : Hh} (p : PostF K cl ρ H D fl h') (k : Keep K ρ H ρ1 H1) : PostF K cl ρ1 H1 D fl h' := fun ρ' H' k' r => p ρ' H' (k.trans k') r
def tS (K : PySem.W.Frag) (cl : Nat → Option Addr) (P : Pg) (E : XK) (c : IX.S) : TS := fun D σ H => ∃ ρ τ h, SRel K ρ H τ σ ∧ HRel K cl ρ H h ∧ WR (exec P c τ h) (PostF K cl ρ H D) (PostX K cl ρ H E)
theorem _root_.L2.PS.imp {X : Cx} {s : Stmt} {t t' : TS} (h : PS X s t) (hi : ∀ D σ H, t' D σ H → t D σ H) : PS X s t' := ⟨fun pins s σ H D I q => h.run pins s σ H D I (hi D σ H q)⟩
theorem _root_.L2.PSs.imp {X : Cx} {s : List Stmt} {t t' : TS} (h : PSs X s t) (hi : ∀ D σ H, t' D σ H → t D σ H) : PSs X s t' := ⟨fun pins s σ H D I q => h.run pins s σ H D I (hi D σ H q)⟩
/-- what is known at a def's body -/
structure StOk (X : Cx) (sc : Scope) : Prop where
  ok : ScOk X sc
  eq : X.env.scope = sc
  own : PassesOwn (model X.prog X.w) X.A X.env X.xe
theorem any2 {P : Expr → Bool} {a b : Expr} (h : ∀ e, notStar e = true → P e = false) (na : notStar a = true) (nb : notStar b = true) : ¬ ([a, b].any P = true) := by
  rw [List.any_cons, List.any_cons, h a na, h b nb]; exact fun z => nomatch z
theorem swap_ok {env : Env} {x y : Str} {px py pt pt2 : Pos} {kt k2 : Nat} {a b : Expr} (na : notStar a = true) (nb : notStar b = true) (kx : env.kindOf x = some .local) (ky : env.kindOf y = some .local) (bk : env.blockKind = .function) (ne : x ≠ y) (lp : py.line = px.line) (f1 : [a,b].all (foldedForSure 8) = false) (f2 : [a,b].all (constantsAlone 8) = false) :
  swappedStores [.Tuple [.Name x px, .Name y py] kt pt] (.Tuple [a, b] k2 pt2) env = pure (some [x, y]) := by
  unfold swappedStores
  dsimp only
  rw [bk, if_neg (fun z => nomatch z), if_neg (any2 (fun e h => by cases e <;> first | rfl | cases h) na nb)]
  rw [f1, f2]
  simp only [List.filterMap, kx, ky, lp, Expr.pos, List.head?, Option.map, Option.getD]
  have c : (some NameKind.local == some NameKind.local && px.line == px.line) = true := by simp
  have cl : ([x, y] : List Str).eraseDups.length = 2 := by
    have : (y == x) = false := by simpa using fun z => ne z.symm
    simp [List.eraseDups_cons, this]
  simp only [c, if_true]
  rw [cl]
  rfl
section
variable {X : Cx} {cl : Nat → Option Addr} {P : Pg} {E : XK} {a b c e : Expr} {ca cb cc : IX.E} {pos : Pos}
theorem wr_test {α : Type} {m : R D} {f g : Hh → R α} {k : α → Hh → Prop} {x : Nat → List (Str × D) → Hh → Prop} (w : WR (m.bind fun v h1 => match truth v h1 with
    | some true => f h1
    | some false => g h1
    | none => .bad) k x) : WR ((m.bind ofTruth).bind fun b h1 => if b = true then f h1 else g h1) k x := by
  cases m with
  | bad => exact w
  | ex _ _ _ => exact w
  | ok v h =>
    change WR (match truth v h with
    | some true => f h
    | some false => g h
    | none => R.bad) k x at w
    show WR ((ofTruth v h).bind fun b h1 => if b = true then f h1 else g h1) k x
    unfold ofTruth
    cases q : truth v h with
    | none => rw [q] at w; exact w
    | some b => rw [q] at w; cases b <;> exact w
theorem s_skip {s : Stmt} (h : PS X s tNext) : PS X s (tS X.K cl P E .skip) := h.imp fun D σ H ⟨ρ, τ, h, sr, hr, w⟩ => (show PostF X.K cl ρ H D (.nx τ) h from w) ρ H Keep.refl hr σ sr
theorem s_nil : PSs X [] (tS X.K cl P E .skip) := pss_nil.imp fun D σ H ⟨ρ, τ, h, sr, hr, w⟩ => (show PostF X.K cl ρ H D (.nx τ) h from w) ρ H Keep.refl hr σ sr
theorem s_exp (he : PE X e (tE X.K cl P E ca)) (hn : notComp e = true) : PS X (.Expr e pos) (tS X.K cl P E (.exp ca)) := by
  have hs : swapsWith e none pos.line X.env = pure false := by cases e <;> first | rfl | cases hn
  refine (ps_expr he hs).imp fun D σ H ⟨ρ, τ, h, sr, hr, w⟩ => ?_
  exact ev1 sr hr w fun ρ1 H1 v d h1 kp hr1 s1 r1 w1 => (show PostF X.K cl ρ H D (.nx τ) h1 from w1) ρ1 H1 kp hr1 σ s1
theorem s_ret (he : PE X e (tE X.K cl P E ca)) : PS X (.Return (some e) pos) (tS X.K cl P E (.ret ca)) := by
  refine (ps_ret he).imp fun D σ H ⟨ρ, τ, h, sr, hr, w⟩ => ?_
  exact ev1 sr hr w fun ρ1 H1 v d h1 kp hr1 s1 r1 w1 => (show PostF X.K cl ρ H D (.rt d) h1 from w1) ρ1 H1 kp hr1 v r1
theorem s_ret0 : PS X (.Return none pos) (tS X.K cl P E (.ret (.cst .non))) := by
  refine ps_retN.imp fun D σ H ⟨ρ, τ, h, sr, hr, w⟩ => ?_
  exact (show PostF X.K cl ρ H D (.rt .non) h from w) ρ H Keep.refl hr .non .non
theorem s_brk : PS X (.Break pos) (tS X.K cl P E .brk) := by
  refine ps_break.imp fun D σ H ⟨ρ, τ, h, sr, hr, w⟩ => ?_
  exact (show PostF X.K cl ρ H D (.bk τ) h from w) ρ H Keep.refl hr σ sr
theorem s_cnt : PS X (.Continue pos) (tS X.K cl P E .cnt) := by
  refine ps_continue.imp fun D σ H ⟨ρ, τ, h, sr, hr, w⟩ => ?_
  exact (show PostF X.K cl ρ H D (.ct τ) h from w) ρ H Keep.refl hr σ sr
theorem s_seq {s : Stmt} {r : List Stmt} {x y : IX.S} (h1 : PS X s (tS X.K cl P E x)) (h2 : PSs X r (tS X.K cl P E y)) : PSs X (s :: r) (tS X.K cl P E (.seq x y)) := by
  refine (pss_cons h1 h2).imp fun D σ H ⟨ρ, τ, h, sr, hr, w⟩ => ⟨ρ, τ, h, sr, hr, ?_⟩
  have w1 : WR ((exec P x τ h).bind fun fl h1 => match fl with
    | .nx σ1 => exec P y σ1 h1
    | fl => .ok fl h1) (PostF X.K cl ρ H D) (PostX X.K cl ρ H E) := w
  refine w1.bnd.imp (fun fl h1 w2 ρ1 H1 kp hr1 => ?_) fun _ _ _ q => q
  cases fl with
  | nx τ1 => exact fun σ1 s1 => ⟨ρ1, τ1, h1, s1, hr1, (show WR (exec P y τ1 h1) _ _ from w2).imp (fun _ _ q => q.keep kp) fun _ _ _ q => q.keep kp⟩
  | bk τ1 => exact (show PostF X.K cl ρ H D (.bk τ1) h1 from w2) ρ1 H1 kp hr1
  | ct τ1 => exact (show PostF X.K cl ρ H D (.ct τ1) h1 from w2) ρ1 H1 kp hr1
  | rt d => exact (show PostF X.K cl ρ H D (.rt d) h1 from w2) ρ1 H1 kp hr1
theorem s_if {p q : List Stmt} {x y : IX.S} (hc : PT X c (tT X.K cl P E cc)) (hp : PSs X p (tS X.K cl P E x)) (hq : PSs X q (tS X.K cl P E y)) : PS X (.If c p q pos) (tS X.K cl P E (.ite cc x y)) := by
  refine (ps_if hc hp hq).imp fun D σ H ⟨ρ, τ, h, sr, hr, w⟩ => ?_
  have w0 : WR ((evalE P cc τ h).bind fun v h1 => match truth v h1 with
    | some true => exec P x τ h1
    | some false => exec P y τ h1
    | none => .bad) (PostF X.K cl ρ H D) (PostX X.K cl ρ H E) := w
  refine evt sr hr (wr_test w0) fun ρ1 H1 k h1 kp hr1 s1 w1 => ?_
  cases k with
  | true => exact ⟨ρ1, τ, h1, s1, hr1, (show WR (exec P x τ h1) _ _ from w1).imp (fun _ _ q => q.keep kp) fun _ _ _ q => q⟩
  | false => exact ⟨ρ1, τ, h1, s1, hr1, (show WR (exec P y τ h1) _ _ from w1).imp (fun _ _ q => q.keep kp) fun _ _ _ q => q⟩
theorem s_while {body : List Stmt} {x : IX.S} (hp : PassesOwn (model X.prog X.w) X.A X.env X.xe) (hc : PT X c (tT X.K cl P E cc)) (hb : PSs X body (tS X.K cl P E x)) : PS X (.While c body [] pos) (tS X.K cl P E (.whl cc x)) := by
  refine (ps_while hp hc hb).imp fun D σ H ⟨ρ, τ, h, sr, hr, w⟩ => ?_
  refine ⟨fun m σ' H' => ∃ ρc τc hc, SRel X.K ρc H' τc σ' ∧ HRel X.K cl ρc H' hc ∧ Keep X.K ρ H ρc H' ∧ WR (whileF (evalE P cc) (exec P x) m τc hc) (PostF X.K cl ρ H D) (PostX X.K cl ρc H' E), ⟨rounds, ρ, τ, h, sr, hr, Keep.refl, w⟩, ?_⟩
  rintro m σ' H' ⟨ρc, τc, hc', sr', hr', kp', w'⟩
  cases m with
  | zero => exact (show False from w').elim
  | succ m =>
    have w0 : WR ((evalE P cc τc hc').bind fun v h0 => match truth v h0 with
      | some true => (exec P x τc h0).bind fun fl h1 => match fl with
        | .nx σ1 => whileF (evalE P cc) (exec P x) m σ1 h1
        | .ct σ1 => whileF (evalE P cc) (exec P x) m σ1 h1
        | .bk σ1 => .ok (.nx σ1) h1
        | .rt d => .ok (.rt d) h1
      | some false => .ok (.nx τc) h0
      | none => .bad) (PostF X.K cl ρ H D) (PostX X.K cl ρc H' E) := w'
    refine evt sr' hr' (wr_test w0) fun ρ1 H1 k h1 kp hr1 s1 w1 => ?_
    have kk := kp'.trans kp
    cases k with
    | false => exact (show PostF X.K cl ρ H D (.nx τc) h1 from w1) ρ1 H1 kk hr1 σ' s1
    | true =>
      have w2 : WR ((exec P x τc h1).bind fun fl h1 => match fl with
        | .nx σ1 => whileF (evalE P cc) (exec P x) m σ1 h1
        | .ct σ1 => whileF (evalE P cc) (exec P x) m σ1 h1
        | .bk σ1 => .ok (.nx σ1) h1
        | .rt d => .ok (.rt d) h1) (PostF X.K cl ρ H D) (PostX X.K cl ρ1 H1 E) := w1
      refine ⟨fun σ2 H2 => ∃ ρc τc hc, SRel X.K ρc H2 τc σ2 ∧ HRel X.K cl ρc H2 hc ∧ Keep X.K ρ H ρc H2 ∧ WR (whileF (evalE P cc) (exec P x) m τc hc) (PostF X.K cl ρ H D) (PostX X.K cl ρc H2 E), fun σ2 H2 n => ⟨m, Nat.lt_succ_self m, n⟩, ρ1, τc, h1, s1, hr1, ?_⟩
      refine w2.bnd.imp (fun fl h2 w3 ρ2 H2 kp2 hr2 => ?_) fun _ _ _ q => q
      cases fl with
      | nx τ2 => exact fun σ2 s2 => ⟨ρ2, τ2, h2, s2, hr2, kk.trans kp2, (show WR (whileF (evalE P cc) (exec P x) m τ2 h2) _ _ from w3).imp (fun _ _ q => q) fun _ _ _ q => q.keep kp2⟩
      | ct τ2 => exact fun σ2 s2 => ⟨ρ2, τ2, h2, s2, hr2, kk.trans kp2, (show WR (whileF (evalE P cc) (exec P x) m τ2 h2) _ _ from w3).imp (fun _ _ q => q) fun _ _ _ q => q.keep kp2⟩
      | bk τ2 => exact (show PostF X.K cl ρ H D (.nx τ2) h2 from w3) ρ2 H2 (kk.trans kp2) hr2
      | rt d => exact (show PostF X.K cl ρ H D (.rt d) h2 from w3) ρ2 H2 (kk.trans kp2) hr2
open Classical in
theorem s_for {tg iter : Expr} {body : List Stmt} {ci : IX.E} {x : IX.S} {g : List Nat} {tp : Bool} (hp : PassesOwn (model X.prog X.w) X.A X.env X.xe) (hc : X.calm = true) (hi : PI X tg iter (iE X.K cl P E ci)) (hg : PG X tg (tG X.K cl g tp)) (hb : PSs X body (tS X.K cl P E x))
    (hs : ∀ x, foldedSetIterable iter X.env x = pure x) : PS X (.For tg iter body [] pos) (tS X.K cl P E (.loop g tp ci x)) := by
  refine (ps_for hp hc hi hg hb hs).imp fun D σ H ⟨ρ, τ, h, sr, hr, w⟩ => ?_
  have w0 : WR ((evalIt P ci τ h).bind fun t h1 => loopF (fun y σ2 h2 => match target g tp y σ2 h2 with
      | some σ3 => exec P x σ3 h2
      | none => .bad) t t.xs τ h1) (PostF X.K cl ρ H D) (PostX X.K cl ρ H E) := w
  generalize hF : (fun (y : IX.D) (σ2 : IX.St) (h2 : Hh) => match target g tp y σ2 h2 with
      | some σ3 => exec P x σ3 h2
      | none => R.bad) = F at w0
  refine ⟨ρ, τ, h, sr, hr, w0.bnd.imp (fun t h1 w1 ρ1 H1 J kp hr1 ir => ?_) fun _ _ _ q => q⟩
  refine ⟨fun i m σc Hc => m = t.xs.length - i ∧ i ≤ t.xs.length ∧ ∃ ρc τc hh, SRel X.K ρc Hc τc σc ∧ HRel X.K cl ρc Hc hh ∧ Keep X.K ρ1 H1 ρc Hc ∧ WR (loopF F t (t.xs.drop i) τc hh) (PostF X.K cl ρ H D) (PostX X.K cl ρc Hc E),
    ⟨t.xs.length, by simp, Nat.zero_le _, ρ1, τ, h1, sr.keep kp, hr1, Keep.refl, (show WR (loopF F t t.xs τ h1) _ _ from w1).imp (fun _ _ q => q) fun _ _ _ q => q.keep kp⟩, ?_⟩
  rintro i m σc Hc ⟨rfl, hi2, ρc, τc, hh, src, hrc, kc, wc⟩
  by_cases hlt : i < t.xs.length
  · refine .inr ?_
    rw [List.drop_eq_getElem_cons hlt] at wc
    have wc1 : WR (if t.stands hh then (F t.xs[i] τc hh).bind fun fl h1 => match fl with
      | .nx σ1 => loopF F t (t.xs.drop (i + 1)) σ1 h1
      | .ct σ1 => loopF F t (t.xs.drop (i + 1)) σ1 h1
      | .bk σ1 => .ok (.nx σ1) h1
      | .rt d => .ok (.rt d) h1
      else .bad) (PostF X.K cl ρ H D) (PostX X.K cl ρc Hc E) := wc
    by_cases st : t.stands hh
    case neg => rw [if_neg st] at wc1; exact (show False from wc1).elim
    rw [if_pos st] at wc1
    refine ⟨ir.go i ρc Hc hh kc hrc st hlt, fun σ2 H2 => t.xs.length - (i + 1) = t.xs.length - (i + 1) ∧ i + 1 ≤ t.xs.length ∧ ∃ ρc τc hh, SRel X.K ρc H2 τc σ2 ∧ HRel X.K cl ρc H2 hh ∧ Keep X.K ρ1 H1 ρc H2 ∧ WR (loopF F t (t.xs.drop (i + 1)) τc hh) (PostF X.K cl ρ H D) (PostX X.K cl ρc H2 E),
      fun σ2 H2 n => ⟨t.xs.length - (i + 1), by omega, n⟩, fun y H' yl => ?_⟩
    obtain ⟨d, ed, ky, hry, ry⟩ := ir.yld i ρc Hc hh y H' kc hrc st hlt yl
    have ed2 : t.xs[i] = d := by
      rw [List.getElem?_eq_getElem hlt] at ed
      exact Option.some.inj ed
    rw [ed2] at wc1
    have tgt : ∃ τ', target g tp d τc hh = some τ' := by
      cases q : target g tp d τc hh with
      | some τ' => exact ⟨τ', rfl⟩
      | none =>
        rw [← hF] at wc1
        simp only [q] at wc1
        exact (show False from wc1).elim
    obtain ⟨τ', et⟩ := tgt
    have hFd : F d τc hh = exec P x τ' hh := by
      rw [← hF]; simp only [et]
    rw [hFd] at wc1
    refine ⟨ρc, τc, hh, d, src.keep ky, hry, ry, τ', et, fun σ' sr' _ => ⟨ρc, τ', hh, sr', hry, wc1.bnd.imp (fun fl h2 w3 ρ2 H2 kp2 hr2 => ?_) fun _ _ _ q => q.keep ky⟩⟩
    have kk := (kc.trans ky).trans kp2
    cases fl with
    | nx τ2 => exact fun σ2 s2 => ⟨rfl, hlt, ρ2, τ2, h2, s2, hr2, kk, (show WR (loopF F t (t.xs.drop (i + 1)) τ2 h2) _ _ from w3).imp (fun _ _ q => q) fun _ _ _ q => q.keep (ky.trans kp2)⟩
    | ct τ2 => exact fun σ2 s2 => ⟨rfl, hlt, ρ2, τ2, h2, s2, hr2, kk, (show WR (loopF F t (t.xs.drop (i + 1)) τ2 h2) _ _ from w3).imp (fun _ _ q => q) fun _ _ _ q => q.keep (ky.trans kp2)⟩
    | bk τ2 => exact (show PostF X.K cl ρ H D (.nx τ2) h2 from w3) ρ2 H2 (kp.trans kk) hr2
    | rt d => exact (show PostF X.K cl ρ H D (.rt d) h2 from w3) ρ2 H2 (kp.trans kk) hr2
  · refine .inl ?_
    have ei : t.xs.drop i = [] := List.drop_eq_nil_of_le (by omega)
    rw [ei] at wc
    have wc1 : WR (if t.stands hh then R.ok (.nx τc) hh else .bad) (PostF X.K cl ρ H D) (PostX X.K cl ρc Hc E) := wc
    by_cases st : t.stands hh
    case neg => rw [if_neg st] at wc1; exact (show False from wc1).elim
    rw [if_pos st] at wc1
    exact ⟨ir.stop i ρc Hc hh kc hrc st (by omega), (show PostF X.K cl ρ H D (.nx τc) hh from wc1) ρc Hc (kp.trans kc) hrc σc src⟩
/-! ### stores -/
theorem s_set {x : Str} {p : Pos} {i : Nat} (hN : X.N.Nodup) (hi : X.N[i]? = some x) (hl : Loc X.env.scope x ∧ (X.fn x = true ∨ X.env.scope.names.lookup x = some .local)) (he : PE X e (tE X.K cl P E ca)) (hs : swapsWith e (some (.Name x p)) pos.line X.env = pure false) :
    PS X (.Assign [.Name x p] e pos) (tS X.K cl P E (.set i ca)) := by
  refine (ps_set hN hi hl.1 he hs hl.2).imp fun D σ H ⟨ρ, τ, h, sr, hr, w⟩ => ?_
  exact ev1 sr hr w fun ρ1 H1 v d h1 kp hr1 s1 r1 w1 => (show PostF X.K cl ρ H D (.nx (τ.set i (some d))) h1 from w1) ρ1 H1 kp hr1 _ (s1.set r1 i)
theorem s_unp {sc : Scope} {es : List Expr} {k : Nat} {p : Pos} {is : List Nat} (hc : X.calm = true) (hN : X.N.Nodup) (S : ScOk X sc) (h : compNs X.N sc es = some is) (he : PE X e (tE X.K cl P E ca)) (hn : notTup e = true) :
    PS X (.Assign [.Tuple es k p] e pos) (tS X.K cl P E (.unp is ca)) := by
  have hg : PG X (.Tuple es k p) (tG X.K cl is true) := s_tg hc hN S (by simp only [compT, h]; rfl)
  have hs : swapsWithSole [.Tuple es k p] e pos.line X.env = pure false := by cases e <;> rfl
  have hw : swappedStores [.Tuple es k p] e X.env = pure none := by cases e <;> first | rfl | cases hn
  refine (ps_asg he hg hs hw rfl).imp fun D σ H ⟨ρ, τ, h, sr, hr, w⟩ => ?_
  refine ev1 sr hr w fun ρ1 H1 v d h1 kp hr1 s1 r1 w1 => ?_
  cases q : target is true d τ h1 with
  | none => rw [q] at w1; exact (show False from w1).elim
  | some τ' =>
    rw [q] at w1
    exact ⟨ρ1, τ, h1, d, s1, hr1, r1, τ', q, fun σ' sr' _ => (show PostF X.K cl ρ H D (.nx τ') h1 from w1) ρ1 H1 kp hr1 σ' sr'⟩
theorem s_par {x y : Str} {px py pt pt2 : Pos} {kt k2 : Nat} {i j : Nat} {sc : Scope} (hc : X.calm = true) (hN : X.N.Nodup) (hi : X.N[i]? = some x) (hj : X.N[j]? = some y) (eqs : X.env.scope = sc) (hk : sc.kind = .function) (sw : swapC sc x y px py [a, b] = true) (ha : PE X a (tE X.K cl P E ca)) (hb : PE X b (tE X.K cl P E cb)) (na : notStar a = true) (nb : notStar b = true) :
    PS X (.Assign [.Tuple [.Name x px, .Name y py] kt pt] (.Tuple [a, b] k2 pt2) pos) (tS X.K cl P E (.unp [i, j] (.tup (.cons ca (.cons cb .nil))))) := by
  unfold swapC at sw
  simp only [Bool.and_eq_true, decide_eq_true_eq, Bool.not_eq_true', beq_iff_eq] at sw
  obtain ⟨⟨⟨⟨⟨lx, ly⟩, ne⟩, lp⟩, f1⟩, f2⟩ := sw
  have hij : i ≠ j := fun z => ne (by rw [z] at hi; rw [hi] at hj; exact Option.some.inj hj)
  have hw : swappedStores [.Tuple [.Name x px, .Name y py] kt pt] (.Tuple [a, b] k2 pt2) X.env = pure (some [x, y]) := by
    exact swap_ok na nb (by show X.env.scope.names.lookup x = _; rw [eqs]; exact lx) (by show X.env.scope.names.lookup y = _; rw [eqs]; exact ly) (by unfold Env.blockKind; rw [eqs, hk]; rfl) ne lp f1 f2
  have p0 : PA X [] (tA X.K cl P E .nil) := pa_nil.imp fun σ H Q ⟨ρ, τ, h, s, hr, w⟩ => (show PostA X.K cl ρ H Q [] h from w) ρ H [] Keep.refl hr .nil
  have pc : ∀ {e : Expr} {c : IX.E} {es : List Expr} {r : IX.E}, notStar e = true → PE X e (tE X.K cl P E c) → PA X es (tA X.K cl P E r) → PA X (e :: es) (tA X.K cl P E (.cons c r)) := fun n he hr => (pa_cons he hr (star_of n)).imp fun σ H Q ⟨ρ, τ, h, s, hr, w⟩ =>
    ev1 s hr w fun ρ1 H1 v d h1 kp hr1 s1 r1 w1 => evs s1 hr1 w1 fun ρ2 H2 vs ds h2 kp2 hr2 s2 r2 w2 => (show PostA X.K cl ρ H Q (d :: ds) h2 from w2) ρ2 H2 (v :: vs) (kp.trans kp2) hr2 (.cons (r1.keep kp2) r2)
  have ht : PA X [a, b] (tA X.K cl P E (.cons ca (.cons cb .nil))) := pc na ha (pc nb hb p0)
  refine (ps_par hc hN hi hj hij (by rw [eqs]; exact lx) (by rw [eqs]; exact ly) ht hw rfl).imp fun D σ H ⟨ρ, τ, h, sr, hr, w⟩ => ?_
  have w0 : WR (((evalEs P (.cons ca (.cons cb .nil)) τ h).bind fun xs h1 => if xs.length ≤ line then R.ok (IX.D.tup xs) h1 else .bad).bind fun x h1 => match target [i, j] true x τ h1 with
    | some σ1 => .ok (.nx σ1) h1
    | none => .bad) (PostF X.K cl ρ H D) (PostX X.K cl ρ H E) := w
  rw [bind_assoc] at w0
  refine evs sr hr w0 fun ρ1 H1 vs ds h1 kp hr1 s1 r1 w1 => ?_
  by_cases z : ds.length ≤ line
  case neg => rw [if_neg z] at w1; exact (show False from w1).elim
  rw [if_pos z] at w1
  have w2 : WR (match setAll [i, j] ds τ with
    | some σ1 => R.ok (.nx σ1) h1
    | none => .bad) (PostF X.K cl ρ H D) (PostX X.K cl ρ1 H1 E) := w1
  cases q : setAll [i, j] ds τ with
  | none => rw [q] at w2; exact (show False from w2).elim
  | some τ' =>
    rw [q] at w2
    obtain ⟨e1, e2, _⟩ := setV_rel s1 r1 q
    match vs, e1, e2 with
    | [v, u], _, e2 => exact ⟨v, u, rfl, (show PostF X.K cl ρ H D (.nx τ') h1 from w2) ρ1 H1 kp hr1 _ e2⟩
end
end IX
end

section
set_option Elab.async false
set_option linter.all false
set_option maxRecDepth 100000
set_option maxHeartbeats 4000000
/-! IX17: every statement's code is right. -/
namespace IX
open PySem PySem.Spec PyProof.Rows L2
/-- what a comprehension's code stands on -/
def LcParts (X : Cx) (T : Tbl) (cl : Nat → Option Addr) (n : Nat) (E : XK) (elt : Expr) (gens : List Comprehension) (scope : Scope) (c : IX.E) : Prop :=
  ∃ tg it ifs cx g tp ci cc own, gens = [⟨tg, it, ifs, 0⟩] ∧ c = .lc cx g tp ci cc ∧ own.map (·.2) = g ∧ PI X tg it (iE X.K cl (pgT T n) E ci) ∧ BlkOk X.N X.env.scope scope own ∧
    (∀ (s : Shared) (H : Hp) (C : Addr) (cs : List (Str × Addr)) (fp : List Addr), PG (X.blk s H scope (compEnvC scope cs C X.env) fp) tg (tG X.K cl g tp)) ∧
    (∀ (s : Shared) (H : Hp) (C : Addr) (cs : List (Str × Addr)) (fp : List Addr), PTs (X.blk s H scope (compEnvC scope cs C X.env) fp) ifs (tIfs X.K cl (pgT T n) E0 cc)) ∧
    (∀ (s : Shared) (H : Hp) (C : Addr) (cs : List (Str × Addr)) (fp : List Addr), PE (X.blk s H scope (compEnvC scope cs C X.env) fp) elt (tE X.K cl (pgT T n) E0 cx)) ∧ ∀ x, foldedSetIterable it X.env x = pure x
section
variable {X : Cx} {G : Gam} {T : Tbl} {cl : Nat → Option Addr} {n : Nat} {E : XK} {sc : Scope}
theorem lc_parts {k : Nat} {elt : Expr} {gens : List Comprehension} {scope : Scope} {p : Pos} {c : IX.E} (o : Ok X G T cl n E) (S : ScOk X sc) (h : compE G X.N (k + 1) sc (.ListComp elt gens scope p) = some c) : LcParts X T cl n E elt gens scope c := by
    have ih : ∀ e c, compE G X.N k sc e = some c → Both X T cl n E e c := fun e c q => compE_ok k o S q
    have ihE : ∀ e c, compE G X.N k sc e = some c → PE X e (tE X.K cl (pgT T n) E c) := fun e c q => (ih e c q).1
    generalize hf : compE G X.N k sc = f at ih ihE
    match gens, h with
    | [⟨tg, it, ifs, 0⟩], h =>
      have h1 : (match (generalizing := false) compI (compE G X.N k sc) G sc it, compT X.N scope tg, compE G X.N k scope elt with
        | some i, some (g, tp), some x => if blkC X.N sc scope ((ownOf tg).zip g) = true ∧ enOk i tp = true ∧ (ownOf tg).length = g.length then (match (generalizing := false) ifs with
            | [] => some (IX.E.lc x g tp i .nil)
            | [c] => match (generalizing := false) compE G X.N k scope c with
              | some .nil => none
              | some c => some (.lc x g tp i c)
              | none => none
            | _ => none) else none
        | _, _, _ => none) = some c := h
      rw [hf] at h1
      cases q1 : compI f G sc it with
      | none => rw [q1] at h1; cases h1
      | some ci =>
        cases q2 : compT X.N scope tg with
        | none => rw [q1, q2] at h1; cases h1
        | some gt =>
          obtain ⟨g, tp⟩ := gt
          cases q3 : compE G X.N k scope elt with
          | none => rw [q1, q2, q3] at h1; cases h1
          | some cx =>
            rw [q1, q2, q3] at h1
            have h2 : (if blkC X.N sc scope ((ownOf tg).zip g) = true ∧ enOk ci tp = true ∧ (ownOf tg).length = g.length then (match (generalizing := false) ifs with
              | [] => some (IX.E.lc cx g tp ci .nil)
              | [c] => match (generalizing := false) compE G X.N k scope c with
                | some .nil => none
                | some c => some (.lc cx g tp ci c)
                | none => none
              | _ => none) else none) = some c := h1
            by_cases hb : blkC X.N sc scope ((ownOf tg).zip g) = true ∧ enOk ci tp = true ∧ (ownOf tg).length = g.length
            case neg => rw [if_neg hb] at h2; cases h2
            rw [if_pos hb] at h2
            have ip := compI_ok o S ihE (tg := tg) q1 (fun ⟨a, e⟩ => by
              subst e
              have e2 : tp = true := hb.2.1
              subst e2
              exact tg_tuple q2)
            have bk := S.blkOk hb.1
            have zs := zip_snd hb.2.2
            have ht : ∀ (s : Shared) (H : Hp) (C : Addr) (cs : List (Str × Addr)) (fp : List Addr), PG (X.blk s H scope (compEnvC scope cs C X.env) fp) tg (tG X.K cl g tp) := fun s H C cs fp => s_tg (X := X.blk s H scope (compEnvC scope cs C X.env) fp) o.calm o.nd (ScOk.blk s H scope C cs fp) q2
            have he : ∀ (s : Shared) (H : Hp) (C : Addr) (cs : List (Str × Addr)) (fp : List Addr), PE (X.blk s H scope (compEnvC scope cs C X.env) fp) elt (tE X.K cl (pgT T n) E0 cx) := fun s H C cs fp => (compE_ok k (X := X.blk s H scope (compEnvC scope cs C X.env) fp) (o.blk s H scope _ fp) (ScOk.blk s H scope C cs fp) q3).1
            have fin : ∀ cc, (∀ (s : Shared) (H : Hp) (C : Addr) (cs : List (Str × Addr)) (fp : List Addr), PTs (X.blk s H scope (compEnvC scope cs C X.env) fp) ifs (tIfs X.K cl (pgT T n) E0 cc)) → LcParts X T cl n E elt [⟨tg, it, ifs, 0⟩] scope (.lc cx g tp ci cc) := fun cc hif => ⟨tg, it, ifs, cx, g, tp, ci, cc, (ownOf tg).zip g, rfl, rfl, zs, ip.1, bk, ht, hif, he, fold_of ip.2⟩
            match ifs, h2, fin with
            | [], h2, fin => cases h2; exact fin .nil fun s H C cs fp => pts_nil
            | [cd], h2, fin =>
              have h3 : (match (generalizing := false) compE G X.N k scope cd with
                | some .nil => none
                | some c => some (IX.E.lc cx g tp ci c)
                | none => none) = some c := h2
              cases q4 : compE G X.N k scope cd with
              | none => rw [q4] at h3; cases h3
              | some cc =>
                have nn : cc.isNil = false := by
                  cases cc <;> first | rfl | (rw [q4] at h3; cases h3)
                have e5 : some (IX.E.lc cx g tp ci cc) = some c := by
                  rw [q4] at h3
                  cases cc <;> first | exact h3 | cases nn
                cases e5
                refine fin cc fun s H C cs fp => ?_
                have e6 : tIfs X.K cl (pgT T n) E0 cc = tT X.K cl (pgT T n) E0 cc := by unfold tIfs; rw [nn]; rfl
                rw [e6]
                exact pts_one (compE_ok k (X := X.blk s H scope (compEnvC scope cs C X.env) fp) (o.blk s H scope _ fp) (ScOk.blk s H scope C cs fp) q4).2
            | _ :: _ :: _, h2, fin => cases h2
    | [], h => cases h
    | [⟨_, _, _, Int.ofNat (_ + 1)⟩], h => cases h
    | [⟨_, _, _, Int.negSucc _⟩], h => cases h
    | _ :: _ :: _, h => simp [compE] at h

theorem s_setLc {k : Nat} {elt : Expr} {gens : List Comprehension} {scope : Scope} {p py pos : Pos} {y : Str} {i : Nat} {c : IX.E} (o : Ok X G T cl n E) (S : ScOk X sc) (h : compE G X.N k sc (.ListComp elt gens scope p) = some c)
    (hi : X.N[i]? = some y) (hl : Loc X.env.scope y ∧ (X.fn y = true ∨ X.env.scope.names.lookup y = some .local)) : PS X (.Assign [.Name y py] (.ListComp elt gens scope p) pos) (tS X.K cl (pgT T n) E (.set i c)) := by
  cases hb : (X.env.blockKind == .function && X.env.kindOf y == some .local && py.line == p.line && !(scope.names.any fun (n, k) => n == y && (k == .local || k == .cell))) with
  | false =>
    have hs : swapsWith (.ListComp elt gens scope p) (some (.Name y py)) pos.line X.env = pure false := (show swapsWith (.ListComp elt gens scope p) (some (.Name y py)) pos.line X.env = pure (X.env.blockKind == .function && X.env.kindOf y == some .local && py.line == p.line && !(scope.names.any fun (n, k) => n == y && (k == .local || k == .cell))) from rfl).trans (by rw [hb])
    exact s_set o.nd hi hl (compE_ok k o S h).1 hs
  | true =>
    have hs : swapsWith (.ListComp elt gens scope p) (some (.Name y py)) pos.line X.env = pure true := (show swapsWith (.ListComp elt gens scope p) (some (.Name y py)) pos.line X.env = pure (X.env.blockKind == .function && X.env.kindOf y == some .local && py.line == p.line && !(scope.names.any fun (n, k) => n == y && (k == .local || k == .cell))) from rfl).trans (by rw [hb])
    have hy : X.env.scope.names.lookup y = some .local := by
      simp only [Bool.and_eq_true] at hb
      exact eq_of_beq hb.1.1.2
    cases k with
    | zero => cases h
    | succ k =>
      obtain ⟨tg, it, ifs, cx, g, tp, ci, cc, own, rfl, rfl, zs, ip, bk, ht, hif, he, hfo⟩ := lc_parts o S h
      have r := ps_setLc (py := py) (spos := pos) o.calm o.nd hi hy hs ip bk ht hif he hfo
      rw [zs] at r
      refine r.imp fun D σ H ⟨ρ, τ, h, sr, hr, w⟩ => ?_
      refine s_lc (cx := cx) (cc := cc) o.calm o.nd ip bk zs ht hif he hfo σ H _ ?_
      exact ev1 sr hr w fun ρ1 H1 v d h1 kp hr1 s1 r1 w1 => (show PostF X.K cl ρ H D (.nx (τ.set i (some d))) h1 from w1) ρ1 H1 kp hr1 _ (s1.set r1 i)
end
/-! ### o[i] = v -/
section
variable {X : Cx} {cl : Nat → Option Addr} {P : Pg} {E : XK} {a b c e : Expr} {ca cb cc : IX.E} {pos : Pos}
def rSeti (K : PySem.W.Frag) (cl : Nat → Option Addr) : TSet := fun o i v H Q => ∃ ρ h d e x z, HRel K cl ρ H h ∧ Rep K ρ H d o ∧ Rep K ρ H e i ∧ Rep K ρ H x v ∧ WR (setiD d e x h) (fun _ h' => ∀ ρ' H', Keep K ρ H ρ' H' → HRel K cl ρ' H' h' → Q H') z
theorem set_all (hu : X.A.units + 1 < cLine) : PSet X (rSeti X.K cl) := by
  intro pins s σ H o i v ov iv u Q I ro ri rv ⟨ρ, h, d, e, x, z, hr, r1, r2, r3, w⟩
  cases r1 with
  | @ref a p ea =>
    cases eo : h[a]? with
    | none => simp only [setiD, eo] at w; exact (show False from w).elim
    | some ob =>
      cases ob with
      | lst ds =>
        obtain ⟨vs, e3, t⟩ := obj_lst hr ea eo
        cases r2 with
        | int k =>
          simp only [setiD, eo] at w
          cases q : L2.ixN ds.length k with
          | none => rw [q] at w; exact (show False from w).elim
          | some j =>
            rw [q] at w
            have kp : Keep X.K ρ H ρ (upd H p (.lst (vs.set j v))) := Keep.wr ea (Soft.lst e3)
            exact set_list pins s σ H _ _ _ ov iv u Q I ro ri rv ⟨p, vs, k, j, rfl, rfl, e3, by rw [← t.length]; exact q, (show ∀ ρ' H', Keep X.K ρ H ρ' H' → HRel X.K cl ρ' H' (h.set a (.lst (ds.set j x))) → Q H' from w) ρ _ kp (hr.write ea (Soft.lst e3) ⟨_, upd_same, (Reps.set r3 j t).keep kp⟩)⟩
        | _ => simp only [setiD, eo] at w; exact (show False from w).elim
      | dic ds =>
        obtain ⟨vs, e3, t⟩ := obj_dic hr ea eo
        simp only [setiD, eo] at w
        by_cases q : (keyD e).isSome = true ∧ ds.length < line
        case neg => rw [if_neg q] at w; exact (show False from w).elim
        rw [if_pos q] at w
        obtain ⟨k, ek⟩ := Option.isSome_iff_exists.mp q.1
        have ei := keyD_kV r2 ek
        subst ei
        have kp : Keep X.K ρ H ρ (upd H p (.dK (putK vs k v))) := Keep.wr ea (Soft.dK e3)
        exact set_dict hu pins s σ H _ _ _ ov iv u Q I ro ri rv ⟨p, _, rfl, DPut.k e3 (by rw [← t.length, sizeLine_eq]; exact q.2), (show ∀ ρ' H', Keep X.K ρ H ρ' H' → HRel X.K cl ρ' H' (h.set a (.dic (putD e x ds))) → Q H' from w) ρ _ kp (hr.write ea (Soft.dK e3) ⟨_, upd_same, (put_rel ek r2 r3 t).keep kp⟩)⟩
      | ins _ _ => simp only [setiD, eo] at w; exact (show False from w).elim
  | _ => exact (show False from w).elim
theorem s_seti (hu : X.A.units + 1 < cLine) (ha : PE X a (tE X.K cl P E ca)) (hb : PE X b (tE X.K cl P E cb)) (he : PE X e (tE X.K cl P E cc)) (hs : notSl b = true) {p : Pos} : PS X (.Assign [.Subscript a b p] e pos) (tS X.K cl P E (.seti ca cb cc)) := by
  have hg := pg_sub (pos := p) ha hb (set_all (cl := cl) hu) (by intro v; cases b <;> first | rfl | cases hs)
  have h1 : swapsWithSole [.Subscript a b p] e pos.line X.env = pure false := by cases e <;> rfl
  have h2 : swappedStores [.Subscript a b p] e X.env = pure none := by cases e <;> rfl
  refine (ps_asg he hg h1 h2 rfl).imp fun D σ H ⟨ρ, τ, h, sr, hr, w⟩ => ?_
  refine ev1 sr hr w fun ρ1 H1 v d h1 kp hr1 s1 r1 w1 => ev1 s1 hr1 w1 fun ρ2 H2 v2 d2 h2 kp2 hr2 s2 r2 w2 => ev1 s2 hr2 w2 fun ρ3 H3 v3 d3 h3 kp3 hr3 s3 r3 w3 => ?_
  refine ⟨ρ3, h3, d2, d3, d, _, hr3, r2.keep kp3, r3, (r1.keep kp2).keep kp3, w3.bnd.imp (fun _ h4 w4 ρ4 H4 kp4 hr4 => ?_) fun _ _ _ q => q⟩
  exact (show PostF X.K cl ρ H D (.nx τ) h4 from w4) ρ4 H4 (((kp.trans kp2).trans kp3).trans kp4) hr4 σ (s3.keep kp4)
end
end IX
end

section
set_option Elab.async false
set_option linter.all false
set_option maxRecDepth 100000
set_option maxHeartbeats 4000000
/-! IX18: every statement's code is right, whole. -/
namespace IX
open PySem PySem.Spec PyProof.Rows L2
section
variable {X : Cx} {G : Gam} {T : Tbl} {cl : Nat → Option Addr} {n : Nat} {E : XK} {sc : Scope}
theorem compSs_ok {f : Stmt → Option IX.S} (hf : ∀ s c, f s = some c → PS X s (tS X.K cl (pgT T n) E c)) : ∀ {ss : List Stmt} {c : IX.S}, compSs f ss = some c → PSs X ss (tS X.K cl (pgT T n) E c)
  | [], c, h => by cases h; exact s_nil
  | s :: r, c, h => by
    unfold compSs at h
    cases q1 : f s with
    | none => rw [q1] at h; cases h
    | some a =>
      cases q2 : compSs f r with
      | none => rw [q1, q2] at h; cases h
      | some b => rw [q1, q2] at h; cases h; exact s_seq (hf s a q1) (compSs_ok hf q2)
theorem par_ok {f : Expr → Option IX.E} (o : Ok X G T cl n E) (S : StOk X sc) (hk : sc.kind = .function) (ihE : ∀ e c, f e = some c → PE X e (tE X.K cl (pgT T n) E c)) {es vs : List Expr} {c : IX.S} {kk k2 : Nat} {pt p2 p : Pos} (h1 : compPar f X.N sc es vs = some c) :
    PS X (.Assign [.Tuple es kk pt] (.Tuple vs k2 p2) p) (tS X.K cl (pgT T n) E c) := by
  unfold compPar at h1
  split at h1
  · rename_i x px y py a b
    by_cases hb : swapC sc x y px py [a, b] = true ∧ notStar a = true ∧ notStar b = true
    case neg => rw [if_neg hb] at h1; cases h1
    rw [if_pos hb] at h1
    cases q1 : place x X.N with
    | none => rw [q1] at h1; cases h1
    | some i =>
      cases q2 : place y X.N with
      | none => rw [q1, q2] at h1; cases h1
      | some j =>
        cases q3 : f a with
        | none => rw [q1, q2, q3] at h1; cases h1
        | some ca =>
          cases q4 : f b with
          | none => rw [q1, q2, q3, q4] at h1; cases h1
          | some cb =>
            rw [q1, q2, q3, q4] at h1
            cases h1
            exact s_par o.calm o.nd (place_ix q1) (place_ix q2) S.eq hk hb.1 (ihE a ca q3) (ihE b cb q4) hb.2.1 hb.2.2
  · cases h1
theorem compS_ok : ∀ (k : Nat) {st : Stmt} {c : IX.S}, Ok X G T cl n E → StOk X sc → sc.kind = .function → compS G X.N k sc st = some c → PS X st (tS X.K cl (pgT T n) E c)
  | 0, st, c, o, S, hk, h => by cases h
  | k + 1, st, c, o, S, hk, h => by
    have ih : ∀ s c, compS G X.N k sc s = some c → PS X s (tS X.K cl (pgT T n) E c) := fun s c q => compS_ok k o S hk q
    have ihE : ∀ e c, compE G X.N k sc e = some c → PE X e (tE X.K cl (pgT T n) E c) := fun e c q => (compE_ok k o S.ok q).1
    have ihT : ∀ e c, compE G X.N k sc e = some c → PT X e (tT X.K cl (pgT T n) E c) := fun e c q => (compE_ok k o S.ok q).2
    have hu := o.hu
    cases st with
    | Pass p => cases h; exact s_skip ps_pass
    | Break p => cases h; exact s_brk
    | Continue p => cases h; exact s_cnt
    | Expr e p =>
      have h1 : (if isStrC e = true then some IX.S.skip else if notComp e = true then (compE G X.N k sc e).map IX.S.exp else none) = some c := h
      by_cases hs : isStrC e = true
      · rw [if_pos hs] at h1
        cases h1
        cases e <;> first | (cases hs; done) | skip
        rename_i cc j p2
        cases cc <;> first | (cases hs; done) | skip
        exact s_skip ps_doc
      · rw [if_neg hs] at h1
        by_cases hn : notComp e = true
        case neg => rw [if_neg hn] at h1; cases h1
        rw [if_pos hn] at h1
        cases q : compE G X.N k sc e with
        | none => rw [q] at h1; cases h1
        | some x => rw [q] at h1; cases h1; exact s_exp (ihE e x q) hn
    | Return v p =>
      cases v with
      | none => cases h; exact s_ret0
      | some e =>
        have h1 : (compE G X.N k sc e).map IX.S.ret = some c := h
        cases q : compE G X.N k sc e with
        | none => rw [q] at h1; cases h1
        | some x => rw [q] at h1; cases h1; exact s_ret (ihE e x q)
    | If cd a b p =>
      have h1 : (match (generalizing := false) compE G X.N k sc cd, compSs (compS G X.N k sc) a, compSs (compS G X.N k sc) b with
        | some x, some y, some z => some (IX.S.ite x y z)
        | _, _, _ => none) = some c := h
      cases q1 : compE G X.N k sc cd with
      | none => rw [q1] at h1; cases h1
      | some x =>
        cases q2 : compSs (compS G X.N k sc) a with
        | none => rw [q1, q2] at h1; cases h1
        | some y =>
          cases q3 : compSs (compS G X.N k sc) b with
          | none => rw [q1, q2, q3] at h1; cases h1
          | some z => rw [q1, q2, q3] at h1; cases h1; exact s_if (ihT cd x q1) (compSs_ok ih q2) (compSs_ok ih q3)
    | While cd b els p =>
      have h1 : (match (generalizing := false) els, compE G X.N k sc cd, compSs (compS G X.N k sc) b with
        | [], some x, some y => some (IX.S.whl x y)
        | _, _, _ => none) = some c := h
      cases els with
      | cons _ _ => cases h1
      | nil =>
        cases q1 : compE G X.N k sc cd with
        | none => rw [q1] at h1; cases h1
        | some x =>
          cases q2 : compSs (compS G X.N k sc) b with
          | none => rw [q1, q2] at h1; cases h1
          | some y => rw [q1, q2] at h1; cases h1; exact s_while S.own (ihT cd x q1) (compSs_ok ih q2)
    | For tg it b els p =>
      have h1 : (match (generalizing := false) els, compI (compE G X.N k sc) G sc it, compT X.N sc tg, compSs (compS G X.N k sc) b with
        | [], some i, some (g, tp), some y => if enOk i tp = true then some (IX.S.loop g tp i y) else none
        | _, _, _, _ => none) = some c := h
      cases els with
      | cons _ _ => cases h1
      | nil =>
        cases q1 : compI (compE G X.N k sc) G sc it with
        | none => rw [q1] at h1; cases h1
        | some ci =>
          cases q2 : compT X.N sc tg with
          | none => rw [q1, q2] at h1; cases h1
          | some gt =>
            obtain ⟨g, tp⟩ := gt
            cases q3 : compSs (compS G X.N k sc) b with
            | none => rw [q1, q2, q3] at h1; cases h1
            | some y =>
              rw [q1, q2, q3] at h1
              have h2 : (if enOk ci tp = true then some (IX.S.loop g tp ci y) else none) = some c := h1
              by_cases en : enOk ci tp = true
              case neg => rw [if_neg en] at h2; cases h2
              rw [if_pos en] at h2
              cases h2
              have ip := compI_ok o S.ok ihE (tg := tg) q1 (fun ⟨a, e⟩ => by
                subst e
                have e2 : tp = true := en
                subst e2
                exact tg_tuple q2)
              exact s_for S.own o.calm ip.1 (s_tg o.calm o.nd S.ok q2) (compSs_ok ih q3) (fold_of ip.2)
    | Assign tgs e p =>
      match tgs, h with
      | [tg], h =>
        cases tg with
        | Name x px =>
          have h1 : (match (generalizing := false) compN X.N sc (.Name x px), compE G X.N k sc e with
            | some i, some c => some (IX.S.set i c)
            | _, _ => none) = some c := h
          cases q1 : compN X.N sc (.Name x px) with
          | none => rw [q1] at h1; cases h1
          | some i =>
            cases q2 : compE G X.N k sc e with
            | none => rw [q1, q2] at h1; cases h1
            | some ce =>
              rw [q1, q2] at h1; cases h1
              obtain ⟨y, p', e1, l, hx⟩ := compN_ok q1
              cases e1
              have hl := S.ok.loc x l
              cases e with
              | ListComp elt gens scope p2 => exact s_setLc o S.ok q2 hx hl
              | SetComp _ _ _ _ => cases k <;> cases q2
              | DictComp _ _ _ _ _ => cases k <;> cases q2
              | _ => exact s_set o.nd hx hl (ihE _ ce q2) rfl
        | Tuple es kk pt =>
          have h1 : (if notTup e = true then (match (generalizing := false) compNs X.N sc es, compE G X.N k sc e with
              | some is, some c => some (IX.S.unp is c)
              | _, _ => none)
            else match (generalizing := false) e with
              | .Tuple vs _ _ => compPar (compE G X.N k sc) X.N sc es vs
              | _ => none) = some c := h
          by_cases hn : notTup e = true
          · rw [if_pos hn] at h1
            cases q1 : compNs X.N sc es with
            | none => rw [q1] at h1; cases h1
            | some is =>
              cases q2 : compE G X.N k sc e with
              | none => rw [q1, q2] at h1; cases h1
              | some ce => rw [q1, q2] at h1; cases h1; exact s_unp o.calm o.nd S.ok q1 (ihE e ce q2) hn
          · rw [if_neg hn] at h1
            cases e with
            | Tuple vs k2 p2 => exact par_ok o S hk ihE h1
            | _ => exact absurd rfl hn
        | Subscript a i ps =>
          have h1 : (if notSl i = true then (match (generalizing := false) compE G X.N k sc a, compE G X.N k sc i, compE G X.N k sc e with
            | some x, some y, some z => some (IX.S.seti x y z)
            | _, _, _ => none) else none) = some c := h
          by_cases hn : notSl i = true
          case neg => rw [if_neg hn] at h1; cases h1
          rw [if_pos hn] at h1
          cases q1 : compE G X.N k sc a with
          | none => rw [q1] at h1; cases h1
          | some x =>
            cases q2 : compE G X.N k sc i with
            | none => rw [q1, q2] at h1; cases h1
            | some y =>
              cases q3 : compE G X.N k sc e with
              | none => rw [q1, q2, q3] at h1; cases h1
              | some z => rw [q1, q2, q3] at h1; cases h1; exact s_seti (by omega) (ihE a x q1) (ihE i y q2) (ihE e z q3) hn
        | _ => cases h
      | [], h => cases h
      | _ :: _ :: _, h => cases h
    | _ => cases h
end
end IX
end

section
set_option Elab.async false
set_option linter.all false
set_option maxRecDepth 100000
set_option maxHeartbeats 4000000
/-! IX19: a def's promise is what its code computes. -/
namespace IX
open PySem PySem.Spec PyProof.Rows L2
section
variable {K : PySem.W.Frag} {cl : Nat → Option Addr} {ρ ρ' : Rho} {H H' : Hp} {h h' : Hh}
mutual
theorem Rep.pure (ρ1 : Rho) : ∀ {d : D} {v : V}, Rep K ρ H d v → d.pure = true → Rep K ρ1 H d v
  | _, _, .non, _ => .non
  | _, _, .bl b, _ => .bl b
  | _, _, .int i, _ => .int i
  | _, _, .str x z, _ => .str x z
  | _, _, .tup s r, p => .tup s (Reps.pure ρ1 r (by simpa only [D.pure] using p))
  | _, _, .lck s r, p => .lck s (Reps.pure ρ1 r (by simpa only [D.pure] using p))
  | _, _, .ref e, p => absurd p (by simp [D.pure])
theorem Reps.pure (ρ1 : Rho) : ∀ {d : List D} {v : List V}, Reps K ρ H d v → D.pureL d = true → Reps K ρ1 H d v
  | _, _, .nil, _ => .nil
  | _, _, .cons a r, p => .cons (Rep.pure ρ1 a (by simp only [D.pureL, Bool.and_eq_true] at p; exact p.1)) (Reps.pure ρ1 r (by simp only [D.pureL, Bool.and_eq_true] at p; exact p.2))
end
mutual
/-- what stood for d at first stands for it still, by the elder places -/
theorem Rep.back (e : ∀ (a : Nat) (p : Addr), ρ[a]? = some p → ρ'[a]? = some p) : ∀ {d : D} {v u : V}, Rep K ρ H d v → Rep K ρ' H' d u → Rep K ρ H' d u
  | _, _, _, .non, .non => .non
  | _, _, _, .bl b, .bl _ => .bl b
  | _, _, _, .int i, .int _ => .int i
  | _, _, _, .str x z, .str _ _ => .str x z
  | _, _, _, .tup _ r, .tup s t => .tup s (Reps.back e r t)
  | _, _, _, .lck _ r, .lck s t => .lck s (Reps.back e r t)
  | _, _, _, .ref ea, .ref eb => .ref (by
    have z := e _ _ ea
    rw [eb] at z
    rw [ea, z])
theorem Reps.back (e : ∀ (a : Nat) (p : Addr), ρ[a]? = some p → ρ'[a]? = some p) : ∀ {d : List D} {v u : List V}, Reps K ρ H d v → Reps K ρ' H' d u → Reps K ρ H' d u
  | _, _, _, .nil, .nil => .nil
  | _, _, _, .cons a r, .cons b t => .cons (Rep.back e a b) (Reps.back e r t)
end
theorem RepF.back (e : ∀ (a : Nat) (p : Addr), ρ[a]? = some p → ρ'[a]? = some p) : ∀ {d : List (Str × D)} {v u : List (Str × V)}, RepF K ρ H d v → RepF K ρ' H' d u → RepF K ρ H' d u
  | _, _, _, .nil, .nil => .nil
  | _, _, _, .cons a r, .cons b t => .cons (Rep.back e a b) (RepF.back e r t)
theorem RepK.back (e : ∀ (a : Nat) (p : Addr), ρ[a]? = some p → ρ'[a]? = some p) : ∀ {d : List (D × D)} {v u : List (Key × V)}, RepK K ρ H d v → RepK K ρ' H' d u → RepK K ρ H' d u
  | _, _, _, .nil, .nil => .nil
  | _, _, _, .cons k1 a1 a r, .cons k2 b1 b t => .cons k2 (Rep.back e a1 b1) (Rep.back e a b) (RepK.back e r t)
theorem RepF.pure (ρ1 : Rho) : ∀ {d : List (Str × D)} {v : List (Str × V)}, RepF K ρ H d v → D.pureL (d.map (·.2)) = true → RepF K ρ1 H d v
  | _, _, .nil, _ => .nil
  | _, _, .cons a r, p => .cons (a.pure ρ1 (by simp only [List.map_cons, D.pureL, Bool.and_eq_true] at p; exact p.1)) (RepF.pure ρ1 r (by simp only [List.map_cons, D.pureL, Bool.and_eq_true] at p; exact p.2))
theorem RepK.pure (ρ1 : Rho) : ∀ {d : List (D × D)} {v : List (Key × V)}, RepK K ρ H d v → D.pureL (d.map (·.1)) = true → D.pureL (d.map (·.2)) = true → RepK K ρ1 H d v
  | _, _, .nil, _, _ => .nil
  | _, _, .cons k a b r, p, q => .cons k (a.pure ρ1 (by simp only [List.map_cons, D.pureL, Bool.and_eq_true] at p; exact p.1)) (b.pure ρ1 (by simp only [List.map_cons, D.pureL, Bool.and_eq_true] at q; exact q.1))
      (RepK.pure ρ1 r (by simp only [List.map_cons, D.pureL, Bool.and_eq_true] at p; exact p.2) (by simp only [List.map_cons, D.pureL, Bool.and_eq_true] at q; exact q.2))
theorem ORel.back {o : O} {p : Addr} (e : ∀ (a : Nat) (p : Addr), ρ[a]? = some p → ρ'[a]? = some p) (r : ORel K cl ρ H o p) (s : ORel K cl ρ' H' o p) : ORel K cl ρ H' o p := by
  cases o with
  | lst ds => obtain ⟨vs, _, r⟩ := r; obtain ⟨us, e2, s⟩ := s; exact ⟨us, e2, r.back e s⟩
  | dic ds => obtain ⟨vs, _, r⟩ := r; obtain ⟨us, e2, s⟩ := s; exact ⟨us, e2, r.back e s⟩
  | ins c fs => obtain ⟨C, dx, gs, _, _, r⟩ := r; obtain ⟨C2, dx2, gs2, c2, e2, s⟩ := s; exact ⟨C2, dx2, gs2, c2, e2, r.back e s⟩
theorem ORel.flat {o : O} {p : Addr} (ρ1 : Rho) (f : o.flat = true) (r : ORel K cl ρ H o p) : ORel K cl ρ1 H o p := by
  cases o with
  | lst ds => obtain ⟨vs, e, r⟩ := r; exact ⟨vs, e, r.pure ρ1 f⟩
  | dic ds =>
    obtain ⟨vs, e, r⟩ := r
    simp only [O.flat, Bool.and_eq_true] at f
    exact ⟨vs, e, r.pure ρ1 f.1 f.2⟩
  | ins c fs => obtain ⟨C, dx, gs, c, e, r⟩ := r; exact ⟨C, dx, gs, c, e, r.pure ρ1 f⟩
/-- behind a call: what nobody can come to is forgotten -/
theorem gc_rel (hr : HRel K cl ρ H h) (kp : Keep K ρ H ρ' H') (hr' : HRel K cl ρ' H' h') {d : D} {v : V} (r : Rep K ρ' H' d v) : ∃ ρ2, Keep K ρ H ρ2 H' ∧ HRel K cl ρ2 H' (gc h d h') ∧ Rep K ρ2 H' d v := by
  unfold gc
  by_cases c : d.pure = true ∧ OkOld h h'
  case neg => rw [if_neg c]; exact ⟨ρ', kp, hr', r⟩
  rw [if_pos c]
  have hl : h.length ≤ h'.length := by
    cases q : h.length with
    | zero => exact Nat.zero_le _
    | succ n =>
      have e1 : n < ρ.length := by rw [hr.len]; omega
      have e2 := kp.rho n _ (List.getElem?_eq_getElem e1)
      have e3 := (List.getElem?_eq_some_iff.mp e2).1
      rw [hr'.len] at e3
      omega
  refine ⟨ρ, ⟨fun _ _ e => e, kp.tup, kp.lck, fun p hp f => ⟨(kp.other p hp f).1, f⟩⟩, ⟨by rw [List.length_take, Nat.min_eq_left hl]; exact hr.len, hr.inj, fun a p o ea eo => ?_⟩, r.pure ρ c.1⟩
  have za := hr.lt ea
  rw [List.getElem?_take_of_lt za] at eo
  have s := hr'.obj a p o (kp.rho a p ea) eo
  obtain ⟨o', e1, e2⟩ := c.2 a h[a] (List.getElem?_eq_getElem za)
  rw [eo] at e1
  cases e1
  rcases e2 with e2 | e2
  · subst e2
    exact (hr.obj a p _ ea (List.getElem?_eq_getElem za)).back kp.rho s
  · exact s.flat ρ e2
/-- from what is wanted of the call to what is wanted of the body -/
theorem leave_post {E : XK} {Q : VK} {r : R Fl} (hr : HRel K cl ρ H h) (w : WR (leave h r) (PostE K cl ρ H Q) (PostX K cl ρ H E)) : WR r (PostF K cl ρ H { nx := fun _ H' => Q .non H', rt := Q }) (PostX K cl ρ H E) := by
  cases r with
  | bad => exact w
  | ex c fs h' => exact w
  | ok fl h' =>
    cases fl with
    | rt d =>
        intro ρ' H' kp hr' v rv
        obtain ⟨ρ2, k2, h2, r2⟩ := gc_rel hr kp hr' rv
        exact (show PostE K cl ρ H Q d (gc h d h') from w) ρ2 H' v k2 h2 r2
    | nx τ =>
        intro ρ' H' kp hr' σ' _
        obtain ⟨ρ2, k2, h2, r2⟩ := gc_rel hr kp hr' (Rep.non (K := K) (ρ := ρ') (H := H'))
        exact (show PostE K cl ρ H Q .non (gc h .non h') from w) ρ2 H' .non k2 h2 r2
    | bk τ => exact (show False from w).elim
    | ct τ => exact (show False from w).elim
theorem start_rel {ds : List D} {vs : List V} {N : List Str} {d : Def} (r : Reps K ρ H ds vs) (hN : N.length = d.nl) : SRel K ρ H (IX.start d ds) (L2.start N vs) := by
  have hl := r.length
  refine ⟨by simp only [IX.start, L2.start, List.length_append, List.length_map, List.length_replicate]; omega, fun i x e => ?_⟩
  unfold IX.start at e
  unfold L2.start
  by_cases hi : i < ds.length
  · rw [List.getElem?_append_left (by rw [List.length_map]; exact hi)] at e
    rw [List.getElem?_append_left (by rw [List.length_map, ← hl]; exact hi)]
    rw [List.getElem?_map] at e ⊢
    cases q : ds[i]? with
    | none => rw [q] at e; cases e
    | some y =>
      rw [q] at e
      cases e
      obtain ⟨v, ev, rv⟩ := r.get q
      exact ⟨v, by rw [ev]; rfl, rv⟩
  · rw [List.getElem?_append_right (by rw [List.length_map]; omega)] at e
    have := List.mem_of_getElem? e
    rw [List.mem_replicate] at this
    cases this.2
end
/-- a def as the module bears it -/
def DefAt (K : PySem.W.Frag) (mg : Str → Option Value) (G : Gam) (T : Tbl) (x : Str) (f : Nat) (a : Addr) (fd : FuncData) (ps : List Str) : Prop :=
  mg x = some (.ref a) ∧ PySem.W.keepIn K (.ref a) = true ∧ Binds K fd ps [] ∧ ∃ (N : List Str) (d : Def) (x' qual : Str) (st : Stmt) (fuel : Nat), Fun K x' qual st a fd ∧ FnScope N ps (defScope st) ∧
    T.fn f = some d ∧ ps.length = d.np ∧ N.length = d.nl ∧ compSs (compS G N fuel (defScope st)) (defBody st) = some d.body
/-- the defs of the program as the module bears them -/
structure Mods (K : PySem.W.Frag) (mg : Str → Option Value) (G : Gam) (T : Tbl) : Prop where
  fn : ∀ x f, G.glob x = some (.fn f) → ∃ (a : Addr) (fd : FuncData) (ps : List Str), DefAt K mg G T x f a fd ps
  cst : ∀ x d, G.glob x = some (.cst d) → ∃ u v, mg x = some u ∧ RelV v u ∧ ∀ ρ H, Rep K ρ H d v
  non : ∀ x, isBlt x = true → mg x = none
theorem scOk_def {X : Cx} {sc : Scope} (h : X.env.scope = sc) (hf : ∀ x, X.fn x = true) : ScOk X sc where
  loc x q := by
    cases e : sc.names.lookup x with
    | none => rw [e] at q; cases q
    | some k =>
      rw [e] at q
      cases k <;> first | (cases q; done) | skip
      · exact ⟨.inl (by rw [h]; exact e), .inl (hf x)⟩
      · exact ⟨.inr (by rw [h]; exact e), .inl (hf x)⟩
  vis x q := by
    cases e : sc.names.lookup x with
    | none => rw [e] at q; cases q
    | some k =>
      rw [e] at q
      cases k <;> first | (cases q; done) | skip
      · exact .inl (by rw [h]; exact e)
      · exact .inr (.inl (by rw [h]; exact e))
      · exact .inr (.inr (by rw [h]; exact e))
  gl x q := by
    cases e : sc.names.lookup x with
    | none => rw [e] at q; cases q
    | some k =>
      rw [e] at q
      cases k <;> first | (cases q; done) | skip
      show X.env.scope.names.lookup x = _
      rw [h]; exact e
  fr x q := by rw [h]; exact q
section
variable {P : Program} {w : World} {K : PySem.W.Frag} {mg : Str → Option Value} {base : Heap} {G : Gam} {T : Tbl} {cl : Nat → Option Addr}
theorem fn_ok (M : Mods K mg G T) : ∀ (n : Nat) {x : Str} {f : Nat} {a : Addr} {fd : FuncData} {ps : List Str}, DefAt K mg G T x f a fd ps → FnOk P w K mg base (L2.CX P w) n a fd ps (spF K cl T n f)
  | 0, x, f, a, fd, ps, D => by
    have no : ∀ vs H Q E, ¬ spF K cl T 0 f vs H Q E := fun vs H Q E ⟨ρ, h, ds, hr, r, w⟩ => w
    exact ⟨fun vs H Q E h => absurd h (no vs H Q E), fun A outer s H args us vs Q E _ _ _ _ h => absurd h (no vs H Q E)⟩
  | n + 1, x, f, a, fd, ps, D => by
    obtain ⟨m, k, b, N, d, x', qual, st, fuel, F, S, hT, hp, hl, hb⟩ := D
    have ih : ∀ x f, G.glob x = some (.fn f) → ∃ a fd ps, mg x = some (.ref a) ∧ PySem.W.keepIn K (.ref a) = true ∧ Binds K fd ps [] ∧ FnOk P w K mg base (L2.CX P w) n a fd ps (spF K cl T n f) := fun x f h => by
      obtain ⟨a, fd, ps, D⟩ := M.fn x f h
      exact ⟨a, fd, ps, D.1, D.2.1, D.2.2.1, fn_ok M n D⟩
    have open_ : ∀ (ds : List D) (h : Hh), callF T (n + 1) f ds h = if ds.length = d.np then leave h (IX.exec (pgT T n) d.body (IX.start d ds) h) else .bad := fun ds h => by
      show (match T.fn f with
        | some d => if ds.length = d.np then leave h (IX.exec ⟨callF T n, T.meth, T.init⟩ d.body (IX.start d ds) h) else R.bad
        | none => R.bad) = _
      rw [hT]
    refine F.okX S (fun vs H Q E ⟨ρ, h, ds, hr, r, wr⟩ => ?_) fun cdv A outer s H vs Q E hroom ⟨ρ, h, ds, hr, r, wr⟩ => ?_
    · rw [open_] at wr
      by_cases z : ds.length = d.np
      · rw [← r.length, z, hp]
      · rw [if_neg z] at wr; exact (show False from wr).elim
    · rw [open_] at wr
      by_cases z : ds.length = d.np
      case neg => rw [if_neg z] at wr; exact (show False from wr).elim
      rw [if_pos z] at wr
      have tk := takes_of (X := cxOf (L2.CX P w) P w K mg base N qual (defScope st) a cdv A outer s H E) (E := E) rfl rfl rfl rfl
      have o : Ok (cxOf (L2.CX P w) P w K mg base N qual (defScope st) a cdv A outer s H E) G T cl n E :=
        ⟨rfl, S.nd, hroom, ih, M.cst, M.non, passes_call tk fun _ _ _ _ h => h⟩
      have so : StOk (cxOf (L2.CX P w) P w K mg base N qual (defScope st) a cdv A outer s H E) (defScope st) := ⟨scOk_def rfl fun _ => rfl, rfl, passes_of rfl⟩
      exact ⟨_, compSs_ok (fun s c q => compS_ok fuel o so S.kind q) hb, ρ, IX.start d ds, h, start_rel r hl, hr, leave_post hr wr⟩
end
end IX
end

section
set_option Elab.async false
set_option linter.all false
set_option maxRecDepth 100000
set_option maxHeartbeats 4000000
/-! IX20: a law's end. -/
namespace IX
open PySem PySem.Spec PyProof.Rows L2
def AllP (p : Str → GK → Prop) : List (Str × GK) → Prop
  | [] => True
  | (x, k) :: r => p x k ∧ AllP p r
theorem AllP.look {p : Str → GK → Prop} : ∀ {l : List (Str × GK)} {x : Str} {k : GK}, AllP p l → l.lookup x = some k → p x k
  | [], x, k, _, h => by simp at h
  | (y, j) :: r, x, k, a, h => by
    rw [List.lookup_cons] at h
    cases q : x == y with
    | true =>
      rw [q] at h
      have e : x = y := eq_of_beq q
      cases h
      rw [e]; exact a.1
    | false => rw [q] at h; exact AllP.look a.2 h
def KFact (K : PySem.W.Frag) (mg : Str → Option Value) (G : Gam) (T : Tbl) (x : Str) : GK → Prop
  | .fn f => ∃ a fd ps, DefAt K mg G T x f a fd ps
  | .cst d => ∃ u v, mg x = some u ∧ RelV v u ∧ ∀ ρ H, Rep K ρ H d v
  | .cls _ => True
theorem mods_of {K : PySem.W.Frag} {mg : Str → Option Value} {tbl : List (Str × GK)} {m : Str → Option Nat} {T : Tbl} (h : AllP (KFact K mg ⟨fun x => tbl.lookup x, m⟩ T) tbl) (non : ∀ x, isBlt x = true → mg x = none) : Mods K mg ⟨fun x => tbl.lookup x, m⟩ T :=
  ⟨fun x f e => AllP.look h e, fun x d e => AllP.look h e, non⟩
section
variable {K : PySem.W.Frag} {h : Heap} {mg : Str → Option Value} {G : Gam} {T : Tbl}
theorem def_at (X : K.In h) (Gn : h.Ns mainGlobals mg) {x : Str} {f fuel : Nat} {ps N : List Str} {st : Stmt} {d : Def} {fa : Addr} {od an : Option Addr} {sl : Array (Option Value)} {oc kV dc pm cd ct : Value}
    (a : PySem.W.nsIn K mainGlobals x = some (some (.ref fa))) (l : K.lookup fa = some ⟨oc, od, .func (PySem.W.fnOf x x (defArgs st) (defBody st) (defScope st) .none kV dc pm an cd ct), sl⟩) (c : PySem.W.codeIn K cd x = true) (k : PySem.W.keepIn K (.ref fa) = true)
    (S : FnScope N ps (defScope st)) (hb : ∀ (kV doc pm : Value) (an : Option Addr) (cdv ct : Value) (us : List Value), us.length = ps.length → bindArgs (PySem.W.fnOf x x (defArgs st) (defBody st) (defScope st) .none kV doc pm an cdv ct) ⟨us, []⟩ = pure (ps.zip us))
    (hT : T.fn f = some d) (hp : ps.length = d.np) (hl : N.length = d.nl) (hc : compSs (compS G N fuel (defScope st)) (defBody st) = some d.body) :
    DefAt K mg G T x f fa (PySem.W.fnOf x x (defArgs st) (defBody st) (defScope st) .none kV dc pm an cd ct) ps :=
  ⟨PySem.W.mg_of X Gn a, k, (fun_mk (st := st) l c k).binds hb, N, d, x, x, st, fuel, fun_mk (st := st) l c k, S, hT, hp, hl, hc⟩
theorem cst_int (X : K.In h) (Gn : h.Ns mainGlobals mg) {x : Str} {i : Int} {t : Tok} (a : PySem.W.nsIn K mainGlobals x = some (some (.int i t))) : KFact K mg G T x (.cst (.int i)) := ⟨_, .int i, PySem.W.mg_of X Gn a, ⟨t, rfl⟩, fun _ _ => .int i⟩
theorem cst_str (X : K.In h) (Gn : h.Ns mainGlobals mg) {x y : Str} {t : Tok} (a : PySem.W.nsIn K mainGlobals x = some (some (.str y t))) (hl : y.length ≤ line) : KFact K mg G T x (.cst (.str y)) := ⟨_, .str y, PySem.W.mg_of X Gn a, ⟨t, rfl⟩, fun _ _ => .str y hl⟩
/-- constants by their values -/
inductive CRep : D → Value → Prop
  | non : CRep .non .none
  | bl (b : Bool) : CRep (.bl b) (.bool b)
  | int (i : Int) (t : Tok) : CRep (.int i) (.int i t)
  | str (x : Str) (t : Tok) : x.length ≤ line → CRep (.str x) (.str x t)
theorem CRep.rep {d : D} {u : Value} (c : CRep d u) : ∃ v, RelV v u ∧ ∀ ρ H, Rep K ρ H d v := by
  cases c with
  | non => exact ⟨.non, rfl, fun _ _ => .non⟩
  | bl b => exact ⟨.bl b, rfl, fun _ _ => .bl b⟩
  | int i t => exact ⟨.int i, ⟨t, rfl⟩, fun _ _ => .int i⟩
  | str x t z => exact ⟨.str x, ⟨t, rfl⟩, fun _ _ => .str x z⟩
theorem crep_all : ∀ {ds : List D} {us : List Value}, Paired CRep ds us → ∃ vs, Vals vs us ∧ ∀ ρ H, Reps K ρ H ds vs
  | _, _, .nil => ⟨[], .nil, fun _ _ => .nil⟩
  | _, _, .cons c r => by
    obtain ⟨v, h1, h2⟩ := c.rep (K := K)
    obtain ⟨vs, h3, h4⟩ := crep_all r
    exact ⟨v :: vs, .cons h1 h3, fun ρ H => .cons (h2 ρ H) (h4 ρ H)⟩
/-- a tuple of constants -/
theorem cst_tup (X : K.In h) (Gn : h.Ns mainGlobals mg) {x : Str} {p : Addr} {od : Option Addr} {its : Array Value} {n : Nat} {sl : Array (Option Value)} {ds : List D} (a : PySem.W.nsIn K mainGlobals x = some (some (.ref p))) (l : K.lookup p = some ⟨.type "tuple", od, .seq its n, sl⟩)
    (r : Paired CRep ds its.toList) (hz : its.size ≤ line) : KFact K mg G T x (.cst (.tup ds)) := by
  obtain ⟨vs, h1, h2⟩ := crep_all (K := K) r
  exact ⟨_, .ref p, PySem.W.mg_of X Gn a, rfl, fun ρ H => .tup (.inr ⟨_, its, n, l, rfl, rfl, by rw [sizeLine_eq]; exact hz, h1⟩) (h2 ρ H)⟩
/-- the built-in names are no names of the module -/
theorem non_of (X : K.In h) (Gn : h.Ns mainGlobals mg) (z1 : PySem.W.nsIn K mainGlobals "len" = some none) (z2 : PySem.W.nsIn K mainGlobals "max" = some none) (z3 : PySem.W.nsIn K mainGlobals "min" = some none) (z4 : PySem.W.nsIn K mainGlobals "int" = some none) (z5 : PySem.W.nsIn K mainGlobals "str" = some none)
    (z6 : PySem.W.nsIn K mainGlobals "list" = some none) (z7 : PySem.W.nsIn K mainGlobals "tuple" = some none) (z8 : PySem.W.nsIn K mainGlobals "all" = some none) (z9 : PySem.W.nsIn K mainGlobals "isinstance" = some none) (z10 : PySem.W.nsIn K mainGlobals "range" = some none)
    (z11 : PySem.W.nsIn K mainGlobals "enumerate" = some none) (z12 : PySem.W.nsIn K mainGlobals "bool" = some none) (z13 : PySem.W.nsIn K mainGlobals "dict" = some none) : ∀ x, isBlt x = true → mg x = none := by
  intro x hx
  have hx := of_decide_eq_true hx
  simp only [List.mem_cons, List.mem_nil_iff, or_false] at hx
  rcases hx with rfl | rfl | rfl | rfl | rfl | rfl | rfl | rfl | rfl | rfl | rfl | rfl | rfl <;> (apply PySem.W.mg_none_of X Gn; assumption)
end
/-! ### law -/
def spLaw (K : PySem.W.Frag) : Sp := fun vs H Q _ => ∃ (a : Addr) (ns : List Int), vs = [.ref a] ∧ SqF K H a (ns.map V.int) ∧ ns.length ≤ 63 ∧ ∀ H', Q (.bl true) H'
theorem reps_ints {K : PySem.W.Frag} {ρ : Rho} {H : Hp} : ∀ ns : List Int, Reps K ρ H (ns.map D.int) (ns.map V.int)
  | [] => .nil
  | i :: r => .cons (.int i) (reps_ints r)
theorem law_imp {K : PySem.W.Frag} {cl : Nat → Option Addr} {T : Tbl} {n f : Nat} (h : ∀ ns : List Int, ns.length ≤ 63 → ∃ h', callF T n f [.lck (ns.map D.int)] [] = .ok (.bl true) h') : ∀ vs H Q E, spLaw K vs H Q E → spF K cl T n f vs H Q E := by
  intro vs H Q E ⟨a, ns, e, hS, hl, q⟩
  subst e
  obtain ⟨h', eq⟩ := h ns hl
  refine ⟨[], [], [.lck (ns.map D.int)], ⟨rfl, fun _ _ _ e => (nomatch e), fun _ _ _ e => (nomatch e)⟩, .cons (.lck hS (reps_ints ns)) .nil, ?_⟩
  rw [eq]
  intro ρ' H' v _ _ r
  cases r
  exact q H'
theorem sqf_of {K : PySem.W.Frag} {H : Hp} {a : Addr} {xs : List V} (o : Only H) (h : SqL K H a xs) : SqF K H a xs := by
  rcases h with (h | ⟨ob, h⟩) | h
  · rcases o a with z | ⟨ob, ys, z⟩
    · rw [z] at h; cases h
    · rw [z] at h; cases h
  · exact .inl ⟨ob, h⟩
  · exact .inr h
theorem walk_law {l : PySem.W.OpenLaw} {q : Program} {loose : List Str} {XP : (Str → Option Value) → Heap → Prop} {YP : World → Heap → Prop} {d : DefRec} {K : Params → PySem.W.Frag} {x : Str} (hn : l.most = some 63) (hdf : d.params.defaults = [])
    (hY : ∀ (w : World) (h : Heap), YP w h → (K w.params).In h)
    (F : ∀ (w : World) (mg : Str → Option Value) (fa : Addr) (h : Heap), (K w.params).In h → h.Ns mainGlobals mg → mg d.name = some (.ref fa) →
      ∃ fd : FuncData, (∀ (s : Shared) (u : Value), BindsTo s fd ⟨[u], []⟩ [(x, u)]) ∧ ∀ base : Heap, (K w.params).In base → base.Ns mainGlobals mg → FnOk l.prog w (K w.params) mg base (L2.CX l.prog w) 60 fa fd [x] (spLaw (K w.params))) :
    PySem.W.WalkO q loose XP YP l.row.toRowW d [] (fun f vs => PySem.call f vs) :=
  L2.walk_of (n := 63) (k := 60) (x := x) (CX := fun w => L2.CX l.prog w) (sp := fun w => spLaw (K w.params)) hn (by decide) hdf ⟨rfl, by decide, by decide⟩ hY F (fun _ _ a ns hl ho hS => ⟨a, ns, rfl, sqf_of ho hS, hl, fun _ => rfl⟩)
    fun _ _ _ _ _ ⟨_, _, _, _, _, _, _, _, _, _, _, _, z⟩ => z
/-- law's promise, its def's place given -/
theorem law_fn {P : Program} {w : World} {K : PySem.W.Frag} {mg : Str → Option Value} {base : Heap} {G : Gam} {T : Tbl} {x : Str} {n f : Nat} {a : Addr} {fd : FuncData} {ps : List Str} (M : Mods K mg G T) (D : DefAt K mg G T x f a fd ps)
    (h : ∀ ns : List Int, ns.length ≤ 63 → ∃ h', callF T n f [.lck (ns.map IX.D.int)] [] = .ok (.bl true) h') : FnOk P w K mg base (L2.CX P w) n a fd ps (spLaw K) :=
  (fn_ok (cl := fun _ => none) M n D).imp (law_imp h)
end IX
end

section
set_option Elab.async false
set_option linter.all false
set_option maxRecDepth 100000
set_option maxHeartbeats 4000000
/-! IX21: reckoning with the codes; the drawing defs. -/
namespace IX
open PySem
theorem callF_succ {T : Tbl} {f n : Nat} {d : Def} (hT : T.fn f = some d) {as : List D} {h : Hh} (hl : as.length = d.np) : callF T (n + 1) f as h = leave h (exec ⟨callF T n, T.meth, T.init⟩ d.body (start d as) h) := by
  show (match T.fn f with
    | some d => if as.length = d.np then leave h (exec ⟨callF T n, T.meth, T.init⟩ d.body (start d as) h) else R.bad
    | none => R.bad) = _
  rw [hT]
  exact if_pos hl
theorem gc_old {h h' : Hh} {d : D} (hp : d.pure = true) (ho : OkOld h h') : gc h d h' = h'.take h.length := by
  unfold gc
  exact if_pos ⟨hp, ho⟩
theorem OkOld.refl (h : Hh) : OkOld h h := fun i o e => ⟨o, e, .inl rfl⟩
theorem OkOld.set {h : Hh} {a : Nat} {o : O} (f : o.flat = true) : OkOld h (h.set a o) := fun i u e => by
  by_cases hi : a = i
  · subst hi
    have z := (List.getElem?_eq_some_iff.mp e).1
    exact ⟨o, List.getElem?_set_self z, .inr f⟩
  · exact ⟨u, by rw [List.getElem?_set_ne hi]; exact e, .inl rfl⟩
theorem OkOld.append {h h' : Hh} (t : Hh) (k : OkOld h h') : OkOld h (h' ++ t) := fun i u e => by
  obtain ⟨o', e1, q⟩ := k i u e
  exact ⟨o', by rw [List.getElem?_append_left (List.getElem?_eq_some_iff.mp e1).1]; exact e1, q⟩
/-- behind a call that drew at a -/
theorem gc_set {h : Hh} {a : Nat} {o : O} {d : D} (hp : d.pure = true) (f : o.flat = true) : gc h d (h.set a o) = h.set a o := by
  rw [gc_old hp (OkOld.set f)]
  exact List.take_of_length_le (by rw [List.length_set]; exact Nat.le_refl _)
theorem gc_same {h : Hh} {d : D} : gc h d h = h := by
  unfold gc
  split
  · exact List.take_of_length_le (Nat.le_refl _)
  · rfl
theorem gc_new {h t : Hh} {d : D} (hp : d.pure = true) : gc h d (h ++ t) = h := by
  rw [gc_old hp ((OkOld.refl h).append t), List.take_left]
/-- 1 + (cell % .. ) ** 3 % .. -/
def bBegun : S := (.seq (.set 2 (.bop .add (.cst (.int 1)) (.bop .mod (.bop .pow (.bop .add (.bop .add (.bop .mul (.bop .mod (.loc 0) (.cst (.int 2147483647))) (.cst (.int 48271))) (.bop .mul (.cst (.int 104729)) (.loc 1))) (.cst (.int 7))) (.cst (.int 3))) (.cst (.int 2147483629)))))
    (.seq (.ite (.bop .ge (.loc 0) (.bop .pow (.cst (.int 10)) (.cst (.int 18)))) (.seq (.ret (.lst (.cons (.bop .sub (.loc 0) (.bop .pow (.cst (.int 10)) (.cst (.int 18)))) (.cons (.loc 2) (.cons (.cst (.int 0)) .nil)))))
    .skip) .skip)
    (.seq (.ret (.lst (.cons (.cst (.int 0)) (.cons (.loc 2) (.cons (.cst (.int 0)) .nil)))))
    .skip)))
def bNext : S := (.seq (.ite (.bop .gt (.idx (.loc 0) (.cst (.int 0))) (.cst (.int 0))) (.seq (.set 2 (.bop .mod (.idx (.loc 0) (.cst (.int 0))) (.loc 1)))
    (.seq (.seti (.loc 0) (.cst (.int 0)) (.bop .fdiv (.idx (.loc 0) (.cst (.int 0))) (.loc 1)))
    (.seq (.ret (.loc 2))
    .skip))) .skip)
    (.seq (.seti (.loc 0) (.cst (.int 2)) (.bop .add (.idx (.loc 0) (.cst (.int 2))) (.cst (.int 1))))
    (.seq (.set 3 (.bop .mod (.bop .pow (.bop .add (.bop .add (.bop .mul (.idx (.loc 0) (.cst (.int 1))) (.bop .add (.bop .mul (.cst (.int 2)) (.idx (.loc 0) (.cst (.int 2)))) (.cst (.int 1)))) (.bop .mul (.bop .mul (.cst (.int 7919)) (.idx (.loc 0) (.cst (.int 2)))) (.idx (.loc 0) (.cst (.int 2))))) (.cst (.int 11))) (.cst (.int 5))) (.cst (.int 2147483647))))
    (.seq (.ret (.bop .mod (.bop .fdiv (.loc 3) (.cst (.int 11))) (.loc 1)))
    .skip))))
def bPick (f : Nat) : S := (.seq (.ret (.idx (.loc 1) (.call f (.cons (.loc 0) (.cons (.bi .len (.cons (.loc 1) .nil)) .nil)))))
    .skip)
/-- the drawing list at a: c draws at most are behind -/
def Dr (h : Hh) (a : Nat) (c : Nat) : Prop := ∃ x s k : Int, h[a]? = some (.lst [.int x, .int s, .int k]) ∧ 0 ≤ x ∧ 0 ≤ s ∧ s < 2147483648 ∧ 0 ≤ k ∧ k ≤ c
/-! ### strict reckoning: every step a rule without binders -/
noncomputable section
variable {P : Pg} {o p : Op} {a b c e : IX.E} {σ σ1 : St} {h h1 h2 h3 : Hh} {x y z v : D} {xs : List D} {i : Nat}
def kb1 (P : Pg) (o : Op) (b : IX.E) (σ : St) (m : R D) : R D := m.bind fun x h1 => (evalE P b σ h1).bind fun y h2 => binop o x y h2
def kb2 (o : Op) (x : D) (m : R D) : R D := m.bind fun y h2 => binop o x y h2
@[simp] theorem ev_bop : evalE P (.bop o a b) σ h = kb1 P o b σ (evalE P a σ h) := rfl
@[simp] theorem kb1_ok : kb1 P o b σ (.ok x h1) = kb2 o x (evalE P b σ h1) := rfl
@[simp] theorem kb2_ok : kb2 o x (.ok y h2) = binop o x y h2 := rfl
def kl (x : Option (Option D)) (h : Hh) : R D := match x with
  | some (some v) => .ok v h
  | _ => .bad
@[simp] theorem ev_loc : evalE P (.loc i) σ h = kl σ[i]? h := rfl
@[simp] theorem kl_ok : kl (some (some v)) h = .ok v h := rfl
@[simp] theorem ev_cst : evalE P (.cst x) σ h = .ok x h := rfl
def kc1 (P : Pg) (o p : Op) (b c : IX.E) (σ : St) (m : R D) : R D := m.bind fun x h1 => (evalE P b σ h1).bind fun y h2 => (binop o x y h2).bind fun z h3 => match z with
    | .bl true => (evalE P c σ h3).bind fun w h4 => binop p y w h4
    | .bl false => .ok (.bl false) h3
    | _ => .bad
def kc2 (P : Pg) (o p : Op) (c : IX.E) (σ : St) (x : D) (m : R D) : R D := m.bind fun y h2 => (binop o x y h2).bind fun z h3 => match z with
    | .bl true => (evalE P c σ h3).bind fun w h4 => binop p y w h4
    | .bl false => .ok (.bl false) h3
    | _ => .bad
def kc3 (P : Pg) (p : Op) (c : IX.E) (σ : St) (y : D) (m : R D) : R D := m.bind fun z h3 => match z with
    | .bl true => (evalE P c σ h3).bind fun w h4 => binop p y w h4
    | .bl false => .ok (.bl false) h3
    | _ => .bad
@[simp] theorem ev_cmp2 : evalE P (.cmp2 o p a b c) σ h = kc1 P o p b c σ (evalE P a σ h) := rfl
@[simp] theorem kc1_ok : kc1 P o p b c σ (.ok x h1) = kc2 P o p c σ x (evalE P b σ h1) := rfl
@[simp] theorem kc2_ok : kc2 P o p c σ x (.ok y h1) = kc3 P p c σ y (binop o x y h1) := rfl
theorem kc3_bl {k : Bool} : kc3 P p c σ y (.ok (.bl k) h1) = if k = true then kb2 p y (evalE P c σ h1) else .ok (.bl false) h1 := by cases k <;> rfl
@[simp] theorem kc3_tt : kc3 P p c σ y (.ok (.bl true) h1) = kb2 p y (evalE P c σ h1) := rfl
@[simp] theorem kc3_ff : kc3 P p c σ y (.ok (.bl false) h1) = .ok (.bl false) h1 := rfl
def kneg (m : R D) : R D := m.bind fun x h1 => match x with
    | .int i => .ok (.int (-i)) h1
    | _ => .bad
@[simp] theorem ev_neg : evalE P (.neg a) σ h = kneg (evalE P a σ h) := rfl
@[simp] theorem kneg_ok {j : Int} : kneg (.ok (.int j) h1) = .ok (.int (-j)) h1 := rfl
def knot (m : R D) : R D := m.bind fun x h1 => match truth x h1 with
    | some b => .ok (.bl (!b)) h1
    | none => .bad
@[simp] theorem ev_not : evalE P (.not a) σ h = knot (evalE P a σ h) := rfl
@[simp] theorem knot_bl {k : Bool} : knot (.ok (.bl k) h1) = .ok (.bl (!k)) h1 := rfl
def kand (P : Pg) (b : IX.E) (σ : St) (m : R D) : R D := m.bind fun x h1 => match truth x h1 with
    | some true => evalE P b σ h1
    | some false => .ok x h1
    | none => .bad
def kor (P : Pg) (b : IX.E) (σ : St) (m : R D) : R D := m.bind fun x h1 => match truth x h1 with
    | some true => .ok x h1
    | some false => evalE P b σ h1
    | none => .bad
@[simp] theorem ev_and : evalE P (.and a b) σ h = kand P b σ (evalE P a σ h) := rfl
@[simp] theorem kand_tt : kand P b σ (.ok (.bl true) h1) = evalE P b σ h1 := rfl
@[simp] theorem kand_ff : kand P b σ (.ok (.bl false) h1) = .ok (.bl false) h1 := rfl
@[simp] theorem ev_or : evalE P (.or a b) σ h = kor P b σ (evalE P a σ h) := rfl
@[simp] theorem kor_tt : kor P b σ (.ok (.bl true) h1) = .ok (.bl true) h1 := rfl
@[simp] theorem kor_ff : kor P b σ (.ok (.bl false) h1) = evalE P b σ h1 := rfl
def kite (P : Pg) (a b : IX.E) (σ : St) (m : R D) : R D := m.bind fun x h1 => match truth x h1 with
    | some true => evalE P a σ h1
    | some false => evalE P b σ h1
    | none => .bad
@[simp] theorem ev_ite : evalE P (.ite c a b) σ h = kite P a b σ (evalE P c σ h) := rfl
@[simp] theorem kite_tt : kite P a b σ (.ok (.bl true) h1) = evalE P a σ h1 := rfl
@[simp] theorem kite_ff : kite P a b σ (.ok (.bl false) h1) = evalE P b σ h1 := rfl
/-- argument lists -/
def ka1 (P : Pg) (r : IX.E) (σ : St) (m : R D) : R (List D) := m.bind fun x h1 => (evalEs P r σ h1).bind fun xs h2 => .ok (x :: xs) h2
def ka2 (x : D) (m : R (List D)) : R (List D) := m.bind fun xs h2 => .ok (x :: xs) h2
@[simp] theorem evs_nil : evalEs P .nil σ h = .ok [] h := rfl
@[simp] theorem evs_cons : evalEs P (.cons a b) σ h = ka1 P b σ (evalE P a σ h) := rfl
@[simp] theorem ka1_ok : ka1 P b σ (.ok x h1) = ka2 x (evalEs P b σ h1) := rfl
@[simp] theorem ka2_ok : ka2 x (.ok xs h1) = .ok (x :: xs) h1 := rfl
def ktup (m : R (List D)) : R D := m.bind fun xs h1 => if xs.length ≤ line then .ok (.tup xs) h1 else .bad
def klst (m : R (List D)) : R D := m.bind fun xs h1 => if xs.length ≤ line then R.new (.lst xs) h1 else .bad
@[simp] theorem ev_tup : evalE P (.tup a) σ h = ktup (evalEs P a σ h) := rfl
@[simp] theorem ev_lst : evalE P (.lst a) σ h = klst (evalEs P a σ h) := rfl
theorem ktup_ok' (z : xs.length ≤ 16777216) : ktup (.ok xs h1) = .ok (.tup xs) h1 := if_pos z
theorem klst_ok' (z : xs.length ≤ 16777216) : klst (.ok xs h1) = .ok (.ref h1.length) (h1 ++ [.lst xs]) := if_pos z
@[simp] theorem ktup_ok : ktup (.ok xs h1) = if xs.length ≤ 16777216 then .ok (.tup xs) h1 else .bad := rfl
@[simp] theorem klst_ok : klst (.ok xs h1) = if xs.length ≤ 16777216 then .ok (.ref h1.length) (h1 ++ [.lst xs]) else .bad := rfl
@[simp] theorem ev_dic0 : evalE P (.dic .nil) σ h = .ok (.ref h.length) (h ++ [.dic []]) := rfl
def kx1 (P : Pg) (b : IX.E) (σ : St) (m : R D) : R D := m.bind fun x h1 => (evalE P b σ h1).bind fun y h2 => idxD x y h2
def kx2 (x : D) (m : R D) : R D := m.bind fun y h2 => idxD x y h2
@[simp] theorem ev_idx : evalE P (.idx a b) σ h = kx1 P b σ (evalE P a σ h) := rfl
@[simp] theorem kx1_ok : kx1 P b σ (.ok x h1) = kx2 x (evalE P b σ h1) := rfl
@[simp] theorem kx2_ok : kx2 x (.ok y h1) = idxD x y h1 := rfl
/-- slices -/
def ks1 (P : Pg) (lo hi : IX.E) (σ : St) (m : R D) : R D := m.bind fun x h1 => (ptOf lo (evalE P lo σ h1) h1).bind fun l h2 => (ptOf hi (evalE P hi σ h2) h2).bind fun u h3 => slcD x l u h3
def ks2 (P : Pg) (hi : IX.E) (σ : St) (x : D) (m : R (Option Int)) : R D := m.bind fun l h2 => (ptOf hi (evalE P hi σ h2) h2).bind fun u h3 => slcD x l u h3
def ks3 (x : D) (l : Option Int) (m : R (Option Int)) : R D := m.bind fun u h3 => slcD x l u h3
@[simp] theorem ev_slc {lo hi : IX.E} : evalE P (.slc a lo hi) σ h = ks1 P lo hi σ (evalE P a σ h) := rfl
@[simp] theorem ks1_ok {lo hi : IX.E} : ks1 P lo hi σ (.ok x h1) = ks2 P hi σ x (ptOf lo (evalE P lo σ h1) h1) := rfl
@[simp] theorem ks2_ok {hi : IX.E} {l : Option Int} : ks2 P hi σ x (.ok l h1) = ks3 x l (ptOf hi (evalE P hi σ h1) h1) := rfl
@[simp] theorem ks3_ok {l u : Option Int} : ks3 x l (.ok u h1) = slcD x l u h1 := rfl
@[simp] theorem pt_nil {m : R D} : ptOf .nil m h = .ok none h := rfl
theorem pt_int {e : IX.E} {j : Int} (n : e.isNil = false) : ptOf e (.ok (.int j) h1) h = .ok (some j) h1 := by cases e <;> first | rfl | cases n
@[simp] theorem pt_loc {j : Int} : ptOf (.loc i) (.ok (.int j) h1) h = .ok (some j) h1 := rfl
@[simp] theorem pt_bop {j : Int} : ptOf (.bop o a b) (.ok (.int j) h1) h = .ok (some j) h1 := rfl
@[simp] theorem pt_cst {j : Int} : ptOf (.cst x) (.ok (.int j) h1) h = .ok (some j) h1 := rfl
@[simp] theorem pt_call {f : Nat} {j : Int} : ptOf (.call f a) (.ok (.int j) h1) h = .ok (some j) h1 := rfl
@[simp] theorem pt_bi {f : Bi} {j : Int} : ptOf (.bi f a) (.ok (.int j) h1) h = .ok (some j) h1 := rfl
def kisi (ts : List Ty) (m : R D) : R D := m.bind fun x h1 => bl! (isAny x h1 ts) h1
@[simp] theorem ev_isi {ts : List Ty} : evalE P (.isi a ts) σ h = kisi ts (evalE P a σ h) := rfl
@[simp] theorem kisi_ok {ts : List Ty} : kisi ts (.ok x h1) = bl! (isAny x h1 ts) h1 := rfl
@[simp] theorem isAny_one {t : Ty} : isAny x h [t] = isTy x h t := by
  unfold isAny isAny
  cases isTy x h t with
  | none => rfl
  | some b => cases b <;> rfl
@[simp] theorem bl_some {k : Bool} : bl! (some k) h = .ok (.bl k) h := rfl
@[simp] theorem ne_some {k : Bool} : neD (some k) h = .ok (.bl (!k)) h := rfl
def kcall (P : Pg) (f : Nat) (m : R (List D)) : R D := m.bind fun xs h1 => P.call f xs h1
@[simp] theorem ev_call {f : Nat} : evalE P (.call f a) σ h = kcall P f (evalEs P a σ h) := rfl
@[simp] theorem kcall_ok {f : Nat} : kcall P f (.ok xs h1) = P.call f xs h1 := rfl
def kbi (k : Bi) (m : R (List D)) : R D := m.bind fun xs h1 => biD k xs h1
@[simp] theorem ev_bi {k : Bi} : evalE P (.bi k a) σ h = kbi k (evalEs P a σ h) := rfl
@[simp] theorem kbi_ok {k : Bi} : kbi k (.ok xs h1) = biD k xs h1 := rfl
def km1 (P : Pg) (k : Me) (es : IX.E) (σ : St) (m : R D) : R D := m.bind fun x h1 => if meTy k x h1 = true then (evalEs P es σ h1).bind fun xs h2 => meD k x xs h2 else .bad
def km2 (k : Me) (x : D) (m : R (List D)) : R D := m.bind fun xs h2 => meD k x xs h2
@[simp] theorem ev_me {k : Me} : evalE P (.me k a b) σ h = km1 P k b σ (evalE P a σ h) := rfl
@[simp] theorem km1_ok {k : Me} : km1 P k b σ (.ok x h1) = if meTy k x h1 = true then km2 k x (evalEs P b σ h1) else .bad := rfl
@[simp] theorem km2_ok {k : Me} : km2 k x (.ok xs h1) = meD k x xs h1 := rfl
/-! statements -/
variable {s t : IX.S}
def kseq (P : Pg) (b : IX.S) (m : R Fl) : R Fl := m.bind fun fl h1 => match fl with
    | .nx σ1 => exec P b σ1 h1
    | fl => .ok fl h1
@[simp] theorem ex_skip : exec P .skip σ h = .ok (.nx σ) h := rfl
@[simp] theorem ex_seq : exec P (.seq s t) σ h = kseq P t (exec P s σ h) := rfl
@[simp] theorem kseq_nx : kseq P t (.ok (.nx σ1) h1) = exec P t σ1 h1 := rfl
@[simp] theorem kseq_rt : kseq P t (.ok (.rt v) h1) = .ok (.rt v) h1 := rfl
@[simp] theorem kseq_bk : kseq P t (.ok (.bk σ1) h1) = .ok (.bk σ1) h1 := rfl
@[simp] theorem kseq_ct : kseq P t (.ok (.ct σ1) h1) = .ok (.ct σ1) h1 := rfl
def kset (i : Nat) (σ : St) (m : R D) : R Fl := m.bind fun x h1 => .ok (.nx (σ.set i (some x))) h1
@[simp] theorem ex_set : exec P (.set i e) σ h = kset i σ (evalE P e σ h) := rfl
@[simp] theorem kset_ok : kset i σ (.ok x h1) = .ok (.nx (σ.set i (some x))) h1 := rfl
def kunp (is : List Nat) (σ : St) (m : R D) : R Fl := m.bind fun x h1 => match target is true x σ h1 with
    | some σ1 => .ok (.nx σ1) h1
    | none => .bad
@[simp] theorem ex_unp {is : List Nat} : exec P (.unp is e) σ h = kunp is σ (evalE P e σ h) := rfl
@[simp] theorem kunp_tup {is : List Nat} : kunp is σ (.ok (.tup xs) h1) = match setAll is xs σ with
    | some σ1 => .ok (.nx σ1) h1
    | none => .bad := rfl
def kexp (σ : St) (m : R D) : R Fl := m.bind fun _ h1 => .ok (.nx σ) h1
@[simp] theorem ex_exp : exec P (.exp e) σ h = kexp σ (evalE P e σ h) := rfl
@[simp] theorem kexp_ok : kexp σ (.ok x h1) = .ok (.nx σ) h1 := rfl
def kret (m : R D) : R Fl := m.bind fun x h1 => .ok (.rt x) h1
@[simp] theorem ex_ret : exec P (.ret e) σ h = kret (evalE P e σ h) := rfl
@[simp] theorem kret_ok : kret (.ok x h1) = .ok (.rt x) h1 := rfl
def kif (P : Pg) (a b : IX.S) (σ : St) (m : R D) : R Fl := m.bind fun x h1 => match truth x h1 with
    | some true => exec P a σ h1
    | some false => exec P b σ h1
    | none => .bad
@[simp] theorem ex_ite : exec P (.ite e s t) σ h = kif P s t σ (evalE P e σ h) := rfl
@[simp] theorem kif_tt : kif P s t σ (.ok (.bl true) h1) = exec P s σ h1 := rfl
@[simp] theorem kif_ff : kif P s t σ (.ok (.bl false) h1) = exec P t σ h1 := rfl
theorem kif_bl {k : Bool} : kif P s t σ (.ok (.bl k) h1) = if k = true then exec P s σ h1 else exec P t σ h1 := by cases k <;> rfl
@[simp] theorem ex_brk : exec P .brk σ h = .ok (.bk σ) h := rfl
@[simp] theorem ex_cnt : exec P .cnt σ h = .ok (.ct σ) h := rfl
def ki1 (P : Pg) (a i : IX.E) (σ : St) (m : R D) : R Fl := m.bind fun v h1 => (evalE P a σ h1).bind fun x h2 => (evalE P i σ h2).bind fun k h3 => (setiD x k v h3).bind fun _ h4 => .ok (.nx σ) h4
def ki2 (P : Pg) (i : IX.E) (σ : St) (v : D) (m : R D) : R Fl := m.bind fun x h2 => (evalE P i σ h2).bind fun k h3 => (setiD x k v h3).bind fun _ h4 => .ok (.nx σ) h4
def ki3 (σ : St) (v x : D) (m : R D) : R Fl := m.bind fun k h3 => (setiD x k v h3).bind fun _ h4 => .ok (.nx σ) h4
def ki4 (σ : St) (m : R D) : R Fl := m.bind fun _ h4 => .ok (.nx σ) h4
@[simp] theorem ex_seti : exec P (.seti a b e) σ h = ki1 P a b σ (evalE P e σ h) := rfl
@[simp] theorem ki1_ok : ki1 P a b σ (.ok v h1) = ki2 P b σ v (evalE P a σ h1) := rfl
@[simp] theorem ki2_ok : ki2 P b σ v (.ok x h1) = ki3 σ v x (evalE P b σ h1) := rfl
@[simp] theorem ki3_ok : ki3 σ v x (.ok y h1) = ki4 σ (setiD x y v h1) := rfl
@[simp] theorem ki4_ok : ki4 σ (.ok v h1) = .ok (.nx σ) h1 := rfl
/-! operators on ints -/
variable {j k : Int}
@[simp] theorem op_addI : binop .add (.int j) (.int k) h = .ok (.int (j + k)) h := rfl
@[simp] theorem op_subI : binop .sub (.int j) (.int k) h = .ok (.int (j - k)) h := rfl
theorem op_mulI (z : j.natAbs < 18446744073709551616 ∨ k.natAbs < 18446744073709551616) : binop .mul (.int j) (.int k) h = .ok (.int (j * k)) h := if_pos z
theorem op_modI (z : 0 < k) : binop .mod (.int j) (.int k) h = .ok (.int (j % k)) h := if_pos z
theorem op_fdivI (z : 0 < k) (z2 : k ≤ 9223372036854775808) : binop .fdiv (.int j) (.int k) h = .ok (.int (j / k)) h := if_pos ⟨z, Int.lt_of_le_of_lt z2 (by decide +kernel)⟩
theorem op_powV {v : Int} (hv : j ^ k.toNat = v) (z : 0 ≤ k) (z2 : k ≤ 1000000) (z3 : j.natAbs < 18446744073709551616) : binop .pow (.int j) (.int k) h = .ok (.int v) h := hv ▸ if_pos ⟨z, z2, z3⟩
theorem op_powI (z : 0 ≤ k) (z2 : k ≤ 1000000) (z3 : j.natAbs < 18446744073709551616) : binop .pow (.int j) (.int k) h = .ok (.int (j ^ k.toNat)) h := if_pos ⟨z, z2, z3⟩
@[simp] theorem op_ltI : binop .lt (.int j) (.int k) h = .ok (.bl (decide (j < k))) h := rfl
@[simp] theorem op_leI : binop .le (.int j) (.int k) h = .ok (.bl (decide (j ≤ k))) h := rfl
@[simp] theorem op_gtI : binop .gt (.int j) (.int k) h = .ok (.bl (decide (k < j))) h := rfl
@[simp] theorem op_geI : binop .ge (.int j) (.int k) h = .ok (.bl (decide (k ≤ j))) h := rfl
@[simp] theorem op_eq_ : binop .eq x y h = bl! (eqT h x y) h := rfl
@[simp] theorem op_ne_ : binop .ne x y h = bl! (neT h x y) h := rfl
@[simp] theorem op_in_ : binop .isin x y h = bl! (inD x y h) h := rfl
@[simp] theorem op_notin_ : binop .notin x y h = neD (inD x y h) h := rfl
@[simp] theorem op_is_ : binop .is_ x y h = bl! (isD x y) h := rfl
@[simp] theorem op_isnot_ : binop .isnot x y h = neD (isD x y) h := rfl
end
theorem at_nat {α : Type} {xs : List α} {i : Int} {v : α} (h0 : 0 ≤ i) (h : xs[i.toNat]? = some v) : L2.atI xs i = some v := by
  have z := (List.getElem?_eq_some_iff.mp h).1
  have e : L2.ixN xs.length i = some i.toNat := by
    unfold L2.ixN
    simp only [h0, if_true]
    split
    · rfl
    · omega
  unfold L2.atI
  rw [e]; exact h
@[simp] theorem at0 {α : Type} (x : α) (r : List α) : L2.atI (x :: r) 0 = some x := at_nat (by decide) rfl
@[simp] theorem at1 {α : Type} (x y : α) (r : List α) : L2.atI (x :: y :: r) 1 = some y := at_nat (by decide) rfl
@[simp] theorem at2 {α : Type} (x y z : α) (r : List α) : L2.atI (x :: y :: z :: r) 2 = some z := at_nat (by decide) rfl
@[simp] theorem idx_lst {h : Hh} {a : Nat} {xs : List D} {i : Int} (e : h[a]? = some (.lst xs)) : idxD (.ref a) (.int i) h = (match L2.atI xs i with
  | some v => .ok v h
  | none => .bad) := by
  show (match h[a]? with
    | some (O.lst xs) => (match (D.int i) with
      | .int i => (match L2.atI xs i with
        | some v => R.ok v h
        | none => .bad)
      | _ => .bad)
    | some (O.dic kvs) => if (keyD (D.int i)).isSome then match lookD (D.int i) kvs with
      | some v => .ok v h
      | none => .bad
      else .bad
    | _ => .bad) = _
  rw [e]
@[simp] theorem seti_lst {h : Hh} {a : Nat} {xs : List D} {i : Int} {v : D} (e : h[a]? = some (.lst xs)) (z : 0 ≤ i) (z2 : i < xs.length) : setiD (.ref a) (.int i) v h = .ok .non (h.set a (.lst (xs.set i.toNat v))) := by
  simp only [setiD, e, L2.ixN, z, z2, if_true]
@[simp] theorem leave_rt {h h' : Hh} {v : D} : leave h (.ok (.rt v) h') = .ok v (gc h v h') := rfl
@[simp] theorem leave_nx {h h' : Hh} {σ : St} : leave h (.ok (.nx σ) h') = .ok .non (gc h .non h') := rfl
theorem gc_ref {h h' : Hh} {a : Nat} : gc h (.ref a) h' = h' := by
  unfold gc
  exact if_neg fun z => nomatch z.1
theorem mul_le {s m S M : Int} (h0 : 0 ≤ s) (h1 : s ≤ S) (h2 : 0 ≤ m) (h3 : m ≤ M) : 0 ≤ s * m ∧ s * m ≤ S * M := ⟨Int.mul_nonneg h0 h2, Int.mul_le_mul h1 h3 h2 (Int.le_trans h0 h1)⟩
theorem next_eq {T : Tbl} {f n : Nat} (hT : T.fn f = some ⟨2, 4, bNext⟩) {h : Hh} {a c : Nat} {z : Int} (d : Dr h a c) (hc : c < 1000000) (hz : 0 < z) (hz2 : z ≤ 9223372036854775808) :
    ∃ (i : Int) (o : O), 0 ≤ i ∧ i < z ∧ o.flat = true ∧ a < h.length ∧ Dr (h.set a o) a (c + 1) ∧ callF T (n + 1) f [.ref a, .int z] h = .ok (.int i) (h.set a o) := by
  obtain ⟨x, s, k, e, hx, hs, hs2, hk, hkc⟩ := d
  have la := (List.getElem?_eq_some_iff.mp e).1
  rw [callF_succ hT rfl]
  by_cases h0 : 0 < x
  · refine ⟨x % z, .lst [.int (x / z), .int s, .int k], Int.emod_nonneg _ (by omega), Int.emod_lt_of_pos _ hz, rfl, la, ⟨x / z, s, k, by rw [List.getElem?_set_self la], Int.ediv_nonneg hx (by omega), hs, hs2, hk, by omega⟩, ?_⟩
    simp [bNext, start, e, h0, op_modI hz, op_fdivI hz hz2]
    exact gc_set rfl rfl
  · have m1 := mul_le (s := s) (m := 2 * (k + 1) + 1) (S := 2147483648) (M := 2000003) hs (by omega) (by omega) (by omega)
    have m2 := mul_le (s := 7919 * (k + 1)) (m := k + 1) (S := 7919000000) (M := 1000000) (by omega) (by omega) (by omega) (by omega)
    have b1 : (s * (2 * (k + 1) + 1) + 7919 * (k + 1) * (k + 1) + 11).natAbs < 18446744073709551616 := by omega
    have p1 : ∀ h, binop .pow (.int (s * (2 * (k + 1) + 1) + 7919 * (k + 1) * (k + 1) + 11)) (.int 5) h = .ok (.int ((s * (2 * (k + 1) + 1) + 7919 * (k + 1) * (k + 1) + 11) ^ 5)) h := fun h => op_powV rfl (by decide) (by decide) b1
    have q1 : ∀ h, binop .mul (.int s) (.int (2 * (k + 1) + 1)) h = .ok (.int (s * (2 * (k + 1) + 1))) h := fun h => op_mulI (.inl (by omega))
    have q2 : ∀ h, binop .mul (.int 2) (.int (k + 1)) h = .ok (.int (2 * (k + 1))) h := fun h => op_mulI (.inl (by decide))
    have q3 : ∀ h, binop .mul (.int 7919) (.int (k + 1)) h = .ok (.int (7919 * (k + 1))) h := fun h => op_mulI (.inl (by decide))
    have q4 : ∀ h, binop .mul (.int (7919 * (k + 1))) (.int (k + 1)) h = .ok (.int (7919 * (k + 1) * (k + 1))) h := fun h => op_mulI (.inl (by omega))
    refine ⟨(s * (2 * (k + 1) + 1) + 7919 * (k + 1) * (k + 1) + 11) ^ 5 % 2147483647 / 11 % z, .lst [.int x, .int s, .int (k + 1)], Int.emod_nonneg _ (by omega), Int.emod_lt_of_pos _ hz, rfl, la, ⟨x, s, k + 1, by rw [List.getElem?_set_self la], hx, hs, hs2, by omega, by omega⟩, ?_⟩
    generalize hp : (s * (2 * (k + 1) + 1) + 7919 * (k + 1) * (k + 1) + 11) ^ 5 = p at p1 ⊢
    have g1 : ∀ o, (h.set a o)[a]? = some o := fun o => List.getElem?_set_self la
    simp [bNext, start, e, h0, g1, q1, q2, q3, q4, p1, op_modI, hz, op_fdivI]
    exact gc_set rfl rfl
theorem begun_eq {T : Tbl} {f n : Nat} (hT : T.fn f = some ⟨2, 3, bBegun⟩) (h : Hh) (cell : Int) {k : Int} (h0 : 0 ≤ k) (h1 : k ≤ 1000000) :
    ∃ o : O, Dr (h ++ [o]) h.length 0 ∧ callF T (n + 1) f [.int cell, .int k] h = .ok (.ref h.length) (h ++ [o]) := by
  rw [callF_succ hT rfl]
  have c0 := Int.emod_nonneg cell (b := 2147483647) (by decide)
  have c1 := Int.emod_lt_of_pos cell (b := 2147483647) (by decide)
  have q1 : ∀ h, binop .mul (.int (cell % 2147483647)) (.int 48271) h = .ok (.int (cell % 2147483647 * 48271)) h := fun h => op_mulI (.inr (by decide))
  have q2 : ∀ h, binop .mul (.int 104729) (.int k) h = .ok (.int (104729 * k)) h := fun h => op_mulI (.inl (by decide))
  have p1 : ∀ h, binop .pow (.int (cell % 2147483647 * 48271 + 104729 * k + 7)) (.int 3) h = .ok (.int ((cell % 2147483647 * 48271 + 104729 * k + 7) ^ 3)) h := fun h => op_powV rfl (by decide) (by decide) (by omega)
  have p2 : ∀ h, binop .pow (.int 10) (.int 18) h = .ok (.int 1000000000000000000) h := fun h => op_powV (by decide +kernel) (by decide) (by decide) (by decide)
  generalize hp : (cell % 2147483647 * 48271 + 104729 * k + 7) ^ 3 = p at p1
  have s0 := Int.emod_nonneg p (b := 2147483629) (by decide)
  have s1 := Int.emod_lt_of_pos p (b := 2147483629) (by decide)
  by_cases hb : 1000000000000000000 ≤ cell
  · refine ⟨.lst [.int (cell - 1000000000000000000), .int (1 + p % 2147483629), .int 0], ⟨_, _, _, by rw [List.getElem?_append_right (Nat.le_refl _), Nat.sub_self]; rfl, by omega, by omega, by omega, by omega, by omega⟩, ?_⟩
    simp [bBegun, start, q1, q2, p1, p2, op_modI, hb, gc_ref]
  · refine ⟨.lst [.int 0, .int (1 + p % 2147483629), .int 0], ⟨_, _, _, by rw [List.getElem?_append_right (Nat.le_refl _), Nat.sub_self]; rfl, by omega, by omega, by omega, by omega, by omega⟩, ?_⟩
    simp [bBegun, start, q1, q2, p1, p2, op_modI, hb, gc_ref]
end IX
end

section
set_option Elab.async false
set_option linter.all false
set_option maxRecDepth 100000
set_option maxHeartbeats 4000000
/-! IX22: reckoning: heaps that grow, loops, comprehensions, picks. -/
namespace IX
open PySem
/-- h' is h and more -/
def Ext (h h' : Hh) : Prop := ∃ t, h' = h ++ t
theorem Ext.refl {h : Hh} : Ext h h := ⟨[], by simp⟩
theorem Ext.app {h h' t : Hh} (e : Ext h h') : Ext h (h' ++ t) := by
  obtain ⟨u, rfl⟩ := e
  exact ⟨u ++ t, by rw [List.append_assoc]⟩
theorem Ext.trans {a b c : Hh} (e : Ext a b) (f : Ext b c) : Ext a c := by
  obtain ⟨u, rfl⟩ := e
  obtain ⟨v, rfl⟩ := f
  exact ⟨u ++ v, by rw [List.append_assoc]⟩
theorem Ext.set {h h' : Hh} {a : Nat} {o : O} (e : Ext h h') (ha : h.length ≤ a) : Ext h (h'.set a o) := by
  obtain ⟨u, rfl⟩ := e
  exact ⟨u.set (a - h.length) o, by rw [List.set_append, if_neg (by omega)]⟩
theorem Ext.get {h h' : Hh} {a : Nat} {o : O} (e : Ext h h') (g : h[a]? = some o) : h'[a]? = some o := by
  obtain ⟨u, rfl⟩ := e
  rw [List.getElem?_append_left (List.getElem?_eq_some_iff.mp g).1]; exact g
theorem Ext.len {h h' : Hh} (e : Ext h h') : h.length ≤ h'.length := by
  obtain ⟨u, rfl⟩ := e
  rw [List.length_append]; omega
theorem Ext.gc {h h' : Hh} {d : D} (e : Ext h h') (p : d.pure = true) : gc h d h' = h := by
  obtain ⟨u, rfl⟩ := e
  exact gc_new p
/-- behind a call that drew at a and made other things -/
theorem gc_draw {h h' : Hh} {a : Nat} {o : O} {d : D} (p : d.pure = true) (f : o.flat = true) (e : Ext (h.set a o) h') : IX.gc h d h' = h.set a o := by
  obtain ⟨u, rfl⟩ := e
  rw [gc_old p ((OkOld.set f).append u), List.take_append_of_le_length (by rw [List.length_set]; exact Nat.le_refl _)]
  exact List.take_of_length_le (by rw [List.length_set]; exact Nat.le_refl _)
theorem gc_len {h : Hh} {a : Nat} {o : O} {d : D} : gc h d (h.set a o) = h.set a o := by
  unfold IX.gc
  split
  · exact List.take_of_length_le (by rw [List.length_set]; exact Nat.le_refl _)
  · rfl
theorem Dr.lt {h : Hh} {a c : Nat} (d : Dr h a c) : a < h.length := by
  obtain ⟨_, _, _, e, _⟩ := d
  exact (List.getElem?_eq_some_iff.mp e).1
theorem Dr.ext {h h' : Hh} {a c : Nat} (d : Dr h a c) (e : Ext h h') : Dr h' a c := by
  obtain ⟨x, s, k, g, r⟩ := d
  exact ⟨x, s, k, e.get g, r⟩
theorem Dr.mono {h : Hh} {a c c' : Nat} (d : Dr h a c) (l : c ≤ c') : Dr h a c' := by
  obtain ⟨x, s, k, g, r1, r2, r3, r4, r5⟩ := d
  exact ⟨x, s, k, g, r1, r2, r3, r4, by omega⟩
theorem set_other {h : Hh} {a b : Nat} {o u : O} (ne : a ≠ b) (e : h[b]? = some u) : (h.set a o)[b]? = some u := by rw [List.getElem?_set_ne ne]; exact e
/-! ### loops -/
section
open Classical
theorem loop_inv {f : D → St → Hh → R Fl} {t : Its} {I : St → Hh → Prop} (hs : ∀ σ h, I σ h → t.stands h) : ∀ {xs : List D} {σ : St} {h : Hh}, (∀ x ∈ xs, ∀ σ h, I σ h → ∃ σ' h', f x σ h = .ok (.nx σ') h' ∧ I σ' h') → I σ h → ∃ σ' h', loopF f t xs σ h = .ok (.nx σ') h' ∧ I σ' h'
  | [], σ, h, _, i => ⟨σ, h, by show (if t.stands h then _ else _) = _; exact if_pos (hs σ h i), i⟩
  | x :: r, σ, h, st, i => by
    obtain ⟨σ1, h1, e1, i1⟩ := st x List.mem_cons_self σ h i
    obtain ⟨σ2, h2, e2, i2⟩ := loop_inv hs (xs := r) (fun y hy => st y (List.mem_cons_of_mem _ hy)) i1
    refine ⟨σ2, h2, ?_, i2⟩
    show (if t.stands h then (f x σ h).bind _ else _) = _
    rw [if_pos (hs σ h i), e1]
    exact e2
/-- a comprehension whose turns change nothing -/
theorem turns_pure {f : D → Hh → R (Option D)} {t : Its} {h : Hh} (hs : t.stands h) (g : D → Option D) : ∀ {xs : List D}, (∀ x ∈ xs, f x h = .ok (g x) h) → turns f t xs h = .ok (xs.filterMap g) h
  | [], _ => by show (if t.stands h then _ else _) = _; exact if_pos hs
  | x :: r, st => by
    have ih := turns_pure hs g (xs := r) fun y hy => st y (List.mem_cons_of_mem _ hy)
    show (if t.stands h then (f x h).bind _ else _) = _
    rw [if_pos hs, st x List.mem_cons_self]
    show ((turns f t r h).bind _) = _
    rw [ih]
    cases q : g x with
    | none => rw [List.filterMap_cons_none q]; rfl
    | some v => rw [List.filterMap_cons_some q]; rfl
/-- a comprehension that draws at a -/
theorem turns_draw {f : D → Hh → R (Option D)} {xs0 : List D} {a m B : Nat} {Pv : D → Prop} (hm : 0 < m) : ∀ {xs : List D} {h : Hh} {c : Nat}, (∀ x ∈ xs, ∀ h c, Dr h a c → c < B → ∃ v o, Pv v ∧ o.flat = true ∧ f x h = .ok (some v) (h.set a o) ∧ Dr (h.set a o) a (c + m)) → Dr h a c → c + m * xs.length ≤ B →
    ∃ vs o, (∀ v ∈ vs, Pv v) ∧ vs.length = xs.length ∧ o.flat = true ∧ turns f ⟨xs0, none⟩ xs h = .ok vs (h.set a o) ∧ Dr (h.set a o) a (c + m * xs.length)
  | [], h, c, _, d, _ => by
    obtain ⟨x, s, k, e, r⟩ := d
    have la := (List.getElem?_eq_some_iff.mp e).1
    have e1 : h.set a (.lst [.int x, .int s, .int k]) = h := by
      apply List.ext_getElem?
      intro j
      by_cases hj : a = j
      · subst hj; rw [List.getElem?_set_self la, e]
      · rw [List.getElem?_set_ne hj]
    refine ⟨[], .lst [.int x, .int s, .int k], by simp, rfl, rfl, ?_, ?_⟩
    · rw [e1]; exact if_pos (show Its.stands ⟨xs0, none⟩ h from trivial)
    · rw [e1]; exact ⟨x, s, k, e, r⟩
  | x :: r, h, c, st, d, hb => by
    have hc : c < B := by
      rw [List.length_cons, Nat.mul_add, Nat.mul_one] at hb
      omega
    · obtain ⟨v, o, pv, fo, e1, d1⟩ := st x List.mem_cons_self h c d hc
      have hb2 : c + m + m * r.length ≤ B := by
        rw [List.length_cons, Nat.mul_add, Nat.mul_one] at hb
        omega
      obtain ⟨vs, o2, pvs, lv, fo2, e2, d2⟩ := turns_draw (xs0 := xs0) hm (xs := r) (fun y hy => st y (List.mem_cons_of_mem _ hy)) d1 hb2
      rw [List.set_set] at e2 d2
      refine ⟨v :: vs, o2, fun y hy => ?_, congrArg Nat.succ lv, fo2, ?_, ?_⟩
      · rcases List.mem_cons.mp hy with rfl | hy
        · exact pv
        · exact pvs y hy
      · show (if Its.stands ⟨xs0, none⟩ h then (f x h).bind _ else _) = _
        rw [if_pos (show Its.stands ⟨xs0, none⟩ h from trivial), e1]
        show ((turns f ⟨xs0, none⟩ r (h.set a o)).bind _) = _
        rw [e2]; rfl
      · have : c + m * (x :: r).length = c + m + m * r.length := by rw [List.length_cons, Nat.mul_add, Nat.mul_one]; omega
        rw [this]; exact d2
end
/-- one sign of a text is drawn -/
theorem pick_str {T : Tbl} {f g n : Nat} (hT : T.fn f = some ⟨2, 2, bPick g⟩) (hG : T.fn g = some ⟨2, 4, bNext⟩) {h : Hh} {a c : Nat} {x : Str} (d : Dr h a c) (hc : c < 1000000) (h0 : 0 < x.length) (h1 : x.length ≤ line) :
    ∃ (y : Nat) (o : O), y ∈ x.cps.toList ∧ o.flat = true ∧ a < h.length ∧ Dr (h.set a o) a (c + 1) ∧ callF T (n + 2) f [.ref a, .str x] h = .ok (.str ⟨#[y]⟩) (h.set a o) := by
  obtain ⟨i, o, i0, i1, fo, la, d1, e⟩ := next_eq (n := n) hG (z := (x.length : Int)) d hc (by omega) (by have : line = 16777216 := rfl; omega)
  have hi : i.toNat < x.cps.toList.length := by
    have : x.length = x.cps.toList.length := by simp [Str.length]
    omega
  refine ⟨x.cps.toList[i.toNat], o, List.getElem_mem hi, fo, la, d1, ?_⟩
  rw [callF_succ hT rfl]
  have q : ∀ h, idxD (.str x) (.int i) h = .ok (.str ⟨#[x.cps.toList[i.toNat]]⟩) h := fun h => by
    show (match L2.atI x.cps.toList i with
      | some c => R.ok (D.str ⟨#[c]⟩) h
      | none => .bad) = _
    rw [at_nat i0 (List.getElem?_eq_getElem hi)]
  have q2 : ∀ h, biD .len [.str x] h = .ok (.int x.length) h := fun _ => rfl
  simp [bPick, start, q2, e, q, gc_len]
/-- one item of a list is drawn -/
theorem pick_lst {T : Tbl} {f g n : Nat} (hT : T.fn f = some ⟨2, 2, bPick g⟩) (hG : T.fn g = some ⟨2, 4, bNext⟩) {h : Hh} {a b c : Nat} {xs : List D} (d : Dr h a c) (hc : c < 1000000) (hb : h[b]? = some (.lst xs)) (ne : a ≠ b) (h0 : xs ≠ []) (h1 : xs.length ≤ line) :
    ∃ (y : D) (o : O), y ∈ xs ∧ o.flat = true ∧ a < h.length ∧ Dr (h.set a o) a (c + 1) ∧ callF T (n + 2) f [.ref a, .ref b] h = .ok y (h.set a o) := by
  have hp : 0 < xs.length := List.length_pos_iff.mpr h0
  obtain ⟨i, o, i0, i1, fo, la, d1, e⟩ := next_eq (n := n) hG (z := (xs.length : Int)) d hc (by omega) (by have : line = 16777216 := rfl; omega)
  have hi : i.toNat < xs.length := by omega
  refine ⟨xs[i.toNat], o, List.getElem_mem hi, fo, la, d1, ?_⟩
  rw [callF_succ hT rfl]
  have q : idxD (.ref b) (.int i) (h.set a o) = .ok xs[i.toNat] (h.set a o) := by
    rw [idx_lst (set_other ne hb), at_nat i0 (List.getElem?_eq_getElem hi)]
  have q2 : biD .len [.ref b] h = .ok (.int xs.length) h := by simp only [biD, hb]
  simp [bPick, start, q2, e, q, gc_len]
/-- one item of a tuple is drawn -/
theorem pick_tup {T : Tbl} {f g n : Nat} (hT : T.fn f = some ⟨2, 2, bPick g⟩) (hG : T.fn g = some ⟨2, 4, bNext⟩) {h : Hh} {a c : Nat} {xs : List D} (d : Dr h a c) (hc : c < 1000000) (h0 : xs ≠ []) (h1 : xs.length ≤ line) :
    ∃ (y : D) (o : O), y ∈ xs ∧ o.flat = true ∧ a < h.length ∧ Dr (h.set a o) a (c + 1) ∧ callF T (n + 2) f [.ref a, .tup xs] h = .ok y (h.set a o) := by
  have hp : 0 < xs.length := List.length_pos_iff.mpr h0
  obtain ⟨i, o, i0, i1, fo, la, d1, e⟩ := next_eq (n := n) hG (z := (xs.length : Int)) d hc (by omega) (by have : line = 16777216 := rfl; omega)
  have hi : i.toNat < xs.length := by omega
  refine ⟨xs[i.toNat], o, List.getElem_mem hi, fo, la, d1, ?_⟩
  rw [callF_succ hT rfl]
  have q : ∀ h, idxD (.tup xs) (.int i) h = .ok xs[i.toNat] h := fun h => by
    show (match L2.atI xs i with
      | some c => R.ok c h
      | none => .bad) = _
    rw [at_nat i0 (List.getElem?_eq_getElem hi)]
  have q2 : ∀ h, biD .len [.tup xs] h = .ok (.int xs.length) h := fun _ => rfl
  simp [bPick, start, q2, e, q, gc_len]
end IX
end

section
set_option Elab.async false
set_option linter.all false
set_option maxRecDepth 100000
set_option maxHeartbeats 4000000
/-! IX23: reckoning: comprehensions, equality, things. -/
namespace IX
open PySem
noncomputable section
variable {P : Pg} {o p : Op} {a b c e elt it : IX.E} {σ σ1 : St} {h h1 h2 h3 : Hh} {x y z v : D} {xs ys : List D} {i : Nat} {g : List Nat} {tp : Bool}
/-! ### comprehensions -/
def lcF (P : Pg) (elt : IX.E) (g : List Nat) (tp : Bool) (c : IX.E) (σ : St) (x : D) (h2 : Hh) : R (Option D) := match target g tp x (wipeD σ g) h2 with
      | some σ2 => if c.isNil = true then (evalE P elt σ2 h2).bind fun y h4 => .ok (some y) h4
        else (evalE P c σ2 h2).bind fun z h3 => match truth z h3 with
          | some true => (evalE P elt σ2 h3).bind fun y h4 => .ok (some y) h4
          | some false => .ok none h3
          | none => .bad
      | none => .bad
def kf1 (P : Pg) (elt c : IX.E) (h2 : Hh) (s : Option St) : R (Option D) := match s with
      | some σ2 => if c.isNil = true then (evalE P elt σ2 h2).bind fun y h4 => .ok (some y) h4
        else (evalE P c σ2 h2).bind fun z h3 => match truth z h3 with
          | some true => (evalE P elt σ2 h3).bind fun y h4 => .ok (some y) h4
          | some false => .ok none h3
          | none => .bad
      | none => .bad
def kf2 (m : R D) : R (Option D) := m.bind fun y h4 => .ok (some y) h4
def kf3 (P : Pg) (elt : IX.E) (σ2 : St) (m : R D) : R (Option D) := m.bind fun z h3 => match truth z h3 with
          | some true => (evalE P elt σ2 h3).bind fun y h4 => .ok (some y) h4
          | some false => .ok none h3
          | none => .bad
@[simp] theorem lcF_eq : lcF P elt g tp c σ x h = kf1 P elt c h (target g tp x (wipeD σ g) h) := rfl
@[simp] theorem kf1_nil : kf1 P elt .nil h (some σ) = kf2 (evalE P elt σ h) := rfl
theorem kf1_c (n : c.isNil = false) : kf1 P elt c h (some σ) = kf3 P elt σ (evalE P c σ h) := by
  show (if c.isNil = true then _ else _) = _
  rw [n]; rfl
@[simp] theorem kf1_bop : kf1 P elt (.bop o a b) h (some σ) = kf3 P elt σ (evalE P (.bop o a b) σ h) := rfl
@[simp] theorem kf1_not : kf1 P elt (.not a) h (some σ) = kf3 P elt σ (evalE P (.not a) σ h) := rfl
@[simp] theorem kf1_and : kf1 P elt (.and a b) h (some σ) = kf3 P elt σ (evalE P (.and a b) σ h) := rfl
@[simp] theorem kf1_or : kf1 P elt (.or a b) h (some σ) = kf3 P elt σ (evalE P (.or a b) σ h) := rfl
@[simp] theorem kf1_isi {ts : List Ty} : kf1 P elt (.isi a ts) h (some σ) = kf3 P elt σ (evalE P (.isi a ts) σ h) := rfl
@[simp] theorem kf1_cmp2 : kf1 P elt (.cmp2 o p a b e) h (some σ) = kf3 P elt σ (evalE P (.cmp2 o p a b e) σ h) := rfl
@[simp] theorem kf1_call : kf1 P elt (.call i a) h (some σ) = kf3 P elt σ (evalE P (.call i a) σ h) := rfl
@[simp] theorem kf1_loc : kf1 P elt (.loc i) h (some σ) = kf3 P elt σ (evalE P (.loc i) σ h) := rfl
@[simp] theorem kf2_ok : kf2 (.ok y h) = .ok (some y) h := rfl
@[simp] theorem kf3_tt : kf3 P elt σ (.ok (.bl true) h) = kf2 (evalE P elt σ h) := rfl
@[simp] theorem kf3_ff : kf3 P elt σ (.ok (.bl false) h) = .ok none h := rfl
@[simp] theorem target1 : target [i] false x σ h = some (σ.set i (some x)) := rfl
theorem ev_lc {t : Its} (e1 : evalIt P it σ h = .ok t h1) (hl : t.xs.length ≤ line) (e2 : turns (lcF P elt g tp c σ) t t.xs h1 = .ok ys h2) : evalE P (.lc elt g tp it c) σ h = .ok (.ref h2.length) (h2 ++ [.lst ys]) := by
  show ((evalIt P it σ h).bind fun t h1 => if t.xs.length ≤ line then (turns (lcF P elt g tp c σ) t t.xs h1).calm.bind fun ys h5 => R.new (.lst ys) h5 else R.bad) = _
  rw [e1]
  show (if t.xs.length ≤ line then (turns (lcF P elt g tp c σ) t t.xs h1).calm.bind fun ys h5 => R.new (.lst ys) h5 else R.bad) = _
  rw [if_pos hl, e2]; rfl
theorem it_val (hp : plainIt e = true) (e1 : evalE P e σ h = .ok x h1) {k : Option (Nat × O)} (e2 : itemsD x h1 = some (xs, k)) : evalIt P e σ h = .ok ⟨xs, k⟩ h1 := by
  rw [evalIt_plain hp, e1]
  show (match itemsD x h1 with
    | some (xs, k) => R.ok (⟨xs, k⟩ : Its) h1
    | none => .bad) = _
  rw [e2]
theorem it_rng1 {j : Int} (e1 : evalE P e σ h = .ok (.int j) h1) (s : small j = true) : evalIt P (.rng1 e) σ h = .ok ⟨rangeL 0 j.toNat, none⟩ h1 := by
  show ((evalE P e σ h).bind fun x h1 => match x with
    | .int j => if small j = true then R.ok (⟨rangeL 0 j.toNat, none⟩ : Its) h1 else .bad
    | _ => .bad) = _
  rw [e1]
  exact if_pos s
theorem it_rng2 {j k : Int} (e1 : evalE P a σ h = .ok (.int j) h1) (e2 : evalE P b σ h1 = .ok (.int k) h2) (s : small j = true) (s2 : small k = true) : evalIt P (.rng2 a b) σ h = .ok ⟨rangeL j (k - j).toNat, none⟩ h2 := by
  show ((evalE P a σ h).bind fun x h1 => (evalE P b σ h1).bind fun y h2 => match x, y with
    | .int i, .int j => if small i = true ∧ small j = true then R.ok (⟨rangeL i (j - i).toNat, none⟩ : Its) h2 else .bad
    | _, _ => .bad) = _
  rw [e1]
  show ((evalE P b σ h1).bind fun y h2 => match D.int j, y with
    | .int i, .int j => if small i = true ∧ small j = true then R.ok (⟨rangeL i (j - i).toNat, none⟩ : Its) h2 else .bad
    | _, _ => .bad) = _
  rw [e2]
  exact if_pos ⟨s, s2⟩
theorem it_enumD (e1 : evalE P e σ h = .ok x h1) {k : Option (Nat × O)} (e2 : enumD x h1 = some (xs, k)) : evalIt P (.enum e) σ h = .ok ⟨enumFrom 0 xs, k⟩ h1 := by
  show ((evalE P e σ h).bind fun x h1 => match enumD x h1 with
    | some (xs, k) => R.ok (⟨enumFrom 0 xs, k⟩ : Its) h1
    | none => .bad) = _
  rw [e1]
  show (match enumD x h1 with
    | some (xs, k) => R.ok (⟨enumFrom 0 xs, k⟩ : Its) h1
    | none => .bad) = _
  rw [e2]
/-! ### loops -/
def lpF (P : Pg) (g : List Nat) (tp : Bool) (b : IX.S) (y : D) (σ2 : St) (h2 : Hh) : R Fl := match target g tp y σ2 h2 with
      | some σ3 => exec P b σ3 h2
      | none => .bad
theorem ex_loop {s : IX.S} {t : Its} {r : R Fl} (e1 : evalIt P it σ h = .ok t h1) (e2 : loopF (lpF P g tp s) t t.xs σ h1 = r) : exec P (.loop g tp it s) σ h = r := by
  show ((evalIt P it σ h).bind fun t h1 => loopF (lpF P g tp s) t t.xs σ h1) = _
  rw [e1]; exact e2
theorem lpF_one {s : IX.S} : lpF P [i] false s x σ h = exec P s (σ.set i (some x)) h := rfl
theorem lpF_tup {s : IX.S} (e : setAll g xs σ = some σ1) : lpF P g true s (.tup xs) σ h = exec P s σ1 h := by
  show (match setAll g xs σ with
    | some σ3 => exec P s σ3 h
    | none => R.bad) = _
  rw [e]
/-! ### equality -/
theorem eq_str {n : Nat} {a b : Str} : eqD h (n + 1) (.str a) (.str b) = some (a == b) := rfl
theorem eq_int {n : Nat} {a b : Int} : eqD h (n + 1) (.int a) (.int b) = some (a == b) := rfl
theorem eq_bl {n : Nat} {a b : Bool} : eqD h (n + 1) (.bl a) (.bl b) = some (a == b) := rfl
/-- a text among texts -/
theorem any_strs {x : Str} : ∀ {ys : List Str}, anyD h (.str x) (ys.map D.str) = some (ys.any (· == x))
  | [] => rfl
  | y :: r => by
    show (match eqD h 60 (.str y) (.str x), anyD h (.str x) (r.map D.str) with
    | some a, some b => some (a || b)
    | _, _ => none) = _
    rw [any_strs, eq_str]; rfl
/-- two lists, at two places -/
theorem eq_lists {u w : Nat} (ne : u ≠ w) (e1 : h[u]? = some (.lst xs)) (e2 : h[w]? = some (.lst ys)) : eqT h (.ref u) (.ref w) = if xs.length = ys.length then eqL (eqD h 59) xs ys else some false := by
  show (if u = w then (if isDic h (.ref u) then none else eqD h deep (.ref u) (.ref w)) else eqD h deep (.ref u) (.ref w)) = _
  rw [if_neg ne]
  show (if u = w then (if (h[u]?.map O.plain) = some true then some true else none) else eqRef (eqD h 59) h u w) = _
  rw [if_neg ne]
  unfold eqRef
  rw [e1, e2]; rfl
theorem ne_lists {u w : Nat} (ne : u ≠ w) (e1 : h[u]? = some (.lst xs)) (e2 : h[w]? = some (.lst ys)) : neT h (.ref u) (.ref w) = (if xs.length = ys.length then eqL (eqD h 59) xs ys else some false).map (!·) := by
  unfold neT
  have d1 : isDic h (.ref u) = false := by simp [isDic, e1]
  have d2 : isDic h (.ref w) = false := by simp [isDic, e2]
  rw [d1, d2]
  rw [← eq_lists ne e1 e2]; rfl
theorem eq_empty {u w : Nat} (ne : u ≠ w) (e1 : h[u]? = some (.lst xs)) (e2 : h[w]? = some (.lst [])) : eqT h (.ref u) (.ref w) = some xs.isEmpty := by
  rw [eq_lists ne e1 e2]
  cases xs with
  | nil => rfl
  | cons _ _ => exact if_neg (by simp)
theorem ne_empty {u w : Nat} (ne : u ≠ w) (e1 : h[u]? = some (.lst xs)) (e2 : h[w]? = some (.lst [])) : neT h (.ref u) (.ref w) = some (!xs.isEmpty) := by
  rw [ne_lists ne e1 e2]
  cases xs with
  | nil => rfl
  | cons _ _ => rw [if_neg (by simp)]; rfl
/-! ### the heap's end -/
theorem get_new {o : O} : (h ++ [o])[h.length]? = some o := by rw [List.getElem?_append_right (Nat.le_refl _), Nat.sub_self]; rfl
theorem get_old {i : Nat} {o u : O} (e : h[i]? = some u) : (h ++ [o])[i]? = some u := by rw [List.getElem?_append_left (List.getElem?_eq_some_iff.mp e).1]; exact e
theorem allBl_map {α : Type} {p : α → Bool} : ∀ {l : List α}, allBl (l.map fun c => D.bl (p c)) = some (l.all p)
  | [] => rfl
  | c :: r => by
    show (allBl (r.map fun c => D.bl (p c))).map (fun d => p c && d) = _
    rw [allBl_map]; rfl
/-- a value that isinstance can be asked of -/
def Thing (h : Hh) (d : D) : Prop := match d with
  | .lck _ => False
  | .ref a => ∃ o, h[a]? = some o ∧ o.plain = true
  | .str x => x.length ≤ line
  | _ => True
end
end IX
end

section
set_option Elab.async false
set_option linter.all false
set_option maxRecDepth 100000
set_option maxHeartbeats 4000000
/-! IX24: reckoning: texts, things. -/
namespace IX
open PySem
section
variable {P : Pg} {h h1 h2 h3 : Hh} {x y z v d : D} {xs ys : List D} {i : Nat} {a b : Str}
@[simp] theorem gc_newb {t : Hh} {k : Bool} : gc h (.bl k) (h ++ t) = h := gc_new rfl
@[simp] theorem gc_sameb : gc h d h = h := gc_same
@[simp] theorem gc_setb {l : Nat} {o : O} : gc h d (h.set l o) = h.set l o := gc_len
theorem cut_len (a : Str) (lo hi : Option Int) : (L2.cutS a lo hi).length ≤ a.length := by
  unfold L2.cutS
  show ((a.cps.toList.drop _).take _).toArray.size ≤ a.cps.size
  rw [List.size_toArray, List.length_take, List.length_drop]
  have : a.cps.toList.length = a.cps.size := Array.length_toList
  omega
theorem str_len_app (a b : Str) : (a ++ b).length = a.length + b.length := PySem.Str.length_append a b
theorem op_addS (z : a.length + b.length ≤ 16777216) : binop .add (.str a) (.str b) h = .ok (.str (a ++ b)) h := if_pos (by rw [str_len_app]; exact z)
@[simp] theorem slc_str {lo hi : Option Int} : slcD (.str a) lo hi h = .ok (.str (L2.cutS a lo hi)) h := rfl
theorem strsD_map : ∀ ys : List Str, strsD (ys.map D.str) = some ys
  | [] => rfl
  | y :: r => by
    show (strsD (r.map D.str)).map (fun c => y :: c) = _
    rw [strsD_map]; rfl
/-- texts of small size -/
theorem strs_of {P : Str → Prop} : ∀ {vs : List D}, (∀ v ∈ vs, ∃ s, v = .str s ∧ P s) → ∃ ys : List Str, vs = ys.map D.str ∧ (∀ y ∈ ys, P y)
  | [], _ => ⟨[], rfl, by simp⟩
  | v :: r, hv => by
    obtain ⟨s, rfl, ps⟩ := hv v List.mem_cons_self
    obtain ⟨ys, rfl, py⟩ := strs_of (vs := r) fun u hu => hv u (List.mem_cons_of_mem _ hu)
    exact ⟨s :: ys, rfl, fun y hy => by rcases List.mem_cons.mp hy with rfl | hy; exact ps; exact py y hy⟩
theorem sum_le {m : Nat} : ∀ {ys : List Str}, (∀ y ∈ ys, y.length ≤ m) → (ys.map (·.length)).sum ≤ m * ys.length
  | [], _ => by simp
  | y :: r, hy => by
    have h1 := sum_le (ys := r) fun u hu => hy u (List.mem_cons_of_mem _ hu)
    have h2 := hy y List.mem_cons_self
    rw [List.map_cons, List.sum_cons, List.length_cons, Nat.mul_add, Nat.mul_one]
    omega
theorem join_len (a : Str) (ys : List Str) : (Txt.join a ys).length ≤ (ys.map (·.length)).sum + ys.length * a.length   := by
  rw [show Txt.join a ys = Str.join a ys from StrLaws.glued_eq_join a ys]
  exact StrLaws.join_length_le a ys
theorem me_joinD {l : Nat} {ys : List Str} (e : h[l]? = some (.lst (ys.map D.str))) (z : (ys.map (·.length)).sum + ys.length * a.length ≤ line) : meD .join (.str a) [.ref l] h = .ok (.str (Txt.join a ys)) h := by
  show (match h[l]? with
    | some (.lst xs) => (match strsD xs with
      | some ys => if (ys.map fun y : Str => y.length).sum + ys.length * a.length ≤ line then strD (Txt.join a ys) h else R.bad
      | none => .bad)
    | _ => .bad) = _
  rw [e]
  show (match strsD (ys.map D.str) with
      | some ys => if (ys.map fun y : Str => y.length).sum + ys.length * a.length ≤ line then strD (Txt.join a ys) h else R.bad
      | none => .bad) = _
  rw [strsD_map]
  show (if (ys.map (·.length)).sum + ys.length * a.length ≤ line then strD (Txt.join a ys) h else R.bad) = _
  rw [if_pos z]
  exact if_pos (Nat.le_trans (join_len a ys) z)
theorem me_splitD {ys : List Str} (e : Txt.split a b = ys) (z : b.length ≠ 0 ∧ a.length + 2 ≤ line ∧ ∀ y ∈ ys, y.length ≤ line) : meD .split (.str a) [.str b] h = .ok (.ref h.length) (h ++ [.lst (ys.map D.str)]) := by
  show (if b.length ≠ 0 ∧ a.length + 2 ≤ line ∧ (∀ y ∈ Txt.split a b, y.length ≤ line) then R.new (.lst ((Txt.split a b).map D.str)) h else R.bad) = _
  rw [e]
  exact if_pos z
@[simp] theorem meTy_str1 : meTy .split (.str a) h = true := rfl
@[simp] theorem meTy_str2 : meTy .join (.str a) h = true := rfl
@[simp] theorem meTy_str3 : meTy .upper (.str a) h = true := rfl
theorem get_app {l : Hh} {i : Nat} : (h ++ l)[h.length + i]? = l[i]? := by
  rw [List.getElem?_append_right (by omega), Nat.add_sub_cancel_left]
theorem none_left {α : Type} {p : α → Bool} : ∀ {l : List α}, (l.filter fun c => !p c).isEmpty = l.all p
  | [] => rfl
  | c :: r => by
    cases q : p c with
    | true => simpa [q] using none_left (p := p) (l := r)
    | false => simp [q]
theorem isTy_ext {t : Ty} {k : Bool} (e : Ext h h1) (q : isTy d h t = some k) : isTy d h1 t = some k := by
  cases d with
  | ref a =>
    simp only [isTy] at q ⊢
    cases g : h[a]? with
    | none => rw [g] at q; cases q
    | some o => rw [e.get g]; rw [g] at q; exact q
  | _ => exact q
theorem set_mid {t : Hh} {o u : O} : (h ++ o :: t).set h.length u = h ++ u :: t := by rw [List.set_append_right _ _ (Nat.le_refl _), Nat.sub_self]; rfl
theorem get_mid {t : Hh} {o : O} : (h ++ o :: t)[h.length]? = some o := by rw [List.getElem?_append_right (Nat.le_refl _), Nat.sub_self]; rfl
/-- the drawing list at h's end -/
theorem Dr.mid {t u : Hh} {o : O} {c : Nat} (q : Dr (h ++ o :: t) h.length c) : Dr (h ++ o :: u) h.length c := by
  obtain ⟨x, s, k, e, r⟩ := q
  rw [get_mid] at e
  exact ⟨x, s, k, by rw [get_mid]; exact e, r⟩
theorem str_int {i : Int} (z : i.natAbs < 2 ^ 1920) : biD .str [.int i] h = .ok (.str (toString i)) h := by
  have l : i.natAbs.log2 < 1920 := by
    by_cases e : i.natAbs = 0
    · rw [e]; decide
    · exact (Nat.log2_lt e).mpr z
  show (if i.natAbs.log2 < 1920 then strD (toString i) h else R.bad) = _
  rw [if_pos l]
  exact if_pos (by have := int_text_fits l; rw [sizeLine_eq] at this; exact this)
theorem str_int_len {i : Int} (z : i.natAbs < 2 ^ 1920) : (Str.ofString (toString i)).length ≤ line := by
  have l : i.natAbs.log2 < 1920 := by
    by_cases e : i.natAbs = 0
    · rw [e]; decide
    · exact (Nat.log2_lt e).mpr z
  have := int_text_fits l; rw [sizeLine_eq] at this; exact this
theorem op_mulV {j k v : Int} (hv : j * k = v) (z : j.natAbs < 18446744073709551616 ∨ k.natAbs < 18446744073709551616) : binop .mul (.int j) (.int k) h = .ok (.int v) h := hv ▸ if_pos z
theorem enum_mem {y : D} : ∀ {xs : List D} {j : Nat}, y ∈ enumFrom j xs → ∃ (k : Nat) (x : D), y = .tup [.int (k : Int), x] ∧ x ∈ xs ∧ j ≤ k ∧ k < j + xs.length
  | [], _, m => nomatch m
  | x :: r, j, m => by
    rcases List.mem_cons.mp m with rfl | m
    · exact ⟨j, x, rfl, List.mem_cons_self, Nat.le_refl _, by rw [List.length_cons]; omega⟩
    · obtain ⟨k, z, e, mz, l1, l2⟩ := enum_mem m
      exact ⟨k, z, e, List.mem_cons_of_mem _ mz, by omega, by rw [List.length_cons]; omega⟩
theorem Thing.ext (e : Ext h h1) (t : Thing h d) : Thing h1 d := by
  cases d with
  | ref a => obtain ⟨o, g, p⟩ := t; exact ⟨o, e.get g, p⟩
  | lck _ => exact t
  | _ => exact t
end
end IX
end

section
set_option Elab.async false
set_option linter.all false
set_option maxRecDepth 100000
set_option maxHeartbeats 4000000
/-! IX25: drawing defs that the laws share: a top, a number, names, a term. -/
namespace IX
open PySem
/-- h' is h behind drawing at a and making new things -/
def Step (a : Nat) (h h' : Hh) : Prop := ∃ o, o.flat = true ∧ Ext (h.set a o) h'
theorem Step.of_set {a : Nat} {h : Hh} {o : O} (f : o.flat = true) : Step a h (h.set a o) := ⟨o, f, Ext.refl⟩
theorem Dr.self {h : Hh} {a c : Nat} (d : Dr h a c) : ∃ o, o.flat = true ∧ h.set a o = h := by
  obtain ⟨x, s, k, e, r⟩ := d
  have la := (List.getElem?_eq_some_iff.mp e).1
  refine ⟨.lst [.int x, .int s, .int k], rfl, ?_⟩
  apply List.ext_getElem?
  intro j
  by_cases hj : a = j
  · subst hj; rw [List.getElem?_set_self la, e]
  · rw [List.getElem?_set_ne hj]
theorem Step.refl {h : Hh} {a c : Nat} (d : Dr h a c) : Step a h h := by
  obtain ⟨o, f, e⟩ := d.self
  exact ⟨o, f, by rw [e]; exact Ext.refl⟩
theorem Step.app {a : Nat} {h h' t : Hh} (s : Step a h h') : Step a h (h' ++ t) := by
  obtain ⟨o, f, e⟩ := s
  exact ⟨o, f, e.app⟩
theorem Step.trans {a : Nat} {h h1 h2 : Hh} (la : a < h.length) (s : Step a h h1) (t : Step a h1 h2) : Step a h h2 := by
  obtain ⟨o1, f1, u, rfl⟩ := s
  obtain ⟨o2, f2, e2⟩ := t
  refine ⟨o2, f2, Ext.trans ?_ e2⟩
  rw [List.set_append_left _ _ (by rw [List.length_set]; exact la), List.set_set]
  exact ⟨u, rfl⟩
theorem Step.len {a : Nat} {h h' : Hh} (s : Step a h h') : h.length ≤ h'.length := by
  obtain ⟨o, _, e⟩ := s
  have := e.len
  rw [List.length_set] at this; exact this
theorem Step.get {a b : Nat} {h h' : Hh} {u : O} (s : Step a h h') (ne : a ≠ b) (e : h[b]? = some u) : h'[b]? = some u := by
  obtain ⟨o, _, x⟩ := s
  exact x.get (set_other ne e)
/-- behind a call with a plain answer -/
theorem Step.gc {a : Nat} {h h' : Hh} {d : D} (s : Step a h h') (p : d.pure = true) {c : Nat} (dr : Dr h' a c) (la : a < h.length) : ∃ o, o.flat = true ∧ IX.gc h d h' = h.set a o ∧ Dr (h.set a o) a c := by
  obtain ⟨o, f, e⟩ := s
  refine ⟨o, f, gc_draw p f e, ?_⟩
  obtain ⟨x, s, k, g, r⟩ := dr
  obtain ⟨u, rfl⟩ := e
  rw [List.getElem?_append_left (by rw [List.length_set]; exact la)] at g
  exact ⟨x, s, k, g, r⟩
theorem op_minI {i j : Int} {h : Hh} : biD .min [.int i, .int j] h = .ok (.int (if j < i then j else i)) h := rfl
/-! ### a top -/
def bTop (pk nx : Nat) : IX.S := (.seq (.ret (.call pk (.cons (.loc 0) (.cons (.lst (.cons (.cst (.int 3)) (.cons (.cst (.int 1)) (.cons (.cst (.int 2)) (.cons (.cst (.int 9)) (.cons (.cst (.int 2)) (.cons (.cst (.int 5)) (.cons (.bop .pow (.cst (.int 10)) (.cst (.int 9))) (.cons (.bop .add (.cst (.int 3)) (.call nx (.cons (.loc 0) (.cons (.cst (.int 1000)) .nil)))) .nil))))))))) .nil))))
    .skip)
theorem top_eq {T : Tbl} {f pk nx n : Nat} (hT : T.fn f = some ⟨1, 1, bTop pk nx⟩) (hP : T.fn pk = some ⟨2, 2, bPick nx⟩) (hN : T.fn nx = some ⟨2, 4, bNext⟩) {h : Hh} {a c : Nat} (d : Dr h a c) (hc : c < 900000) :
    ∃ (t : Int) (o : O), 1 ≤ t ∧ t ≤ 1000000000 ∧ o.flat = true ∧ a < h.length ∧ Dr (h.set a o) a (c + 2) ∧ callF T (n + 3) f [.ref a] h = .ok (.int t) (h.set a o) := by
  rw [callF_succ hT rfl]
  have la := d.lt
  obtain ⟨r1, o1, r0, r1', f1, _, d1, e1⟩ := next_eq (n := n + 1) hN (z := 1000) d (by omega) (by decide) (by decide)
  have p9 : ∀ h, binop .pow (.int 10) (.int 9) h = .ok (.int 1000000000) h := fun h => op_powV (by decide +kernel) (by decide) (by decide) (by decide)
  obtain ⟨xs, hxs⟩ : ∃ xs : List D, xs = [.int 3, .int 1, .int 2, .int 9, .int 2, .int 5, .int 1000000000, .int (3 + r1)] := ⟨_, rfl⟩
  have g1 : (h.set a o1 ++ [O.lst xs])[h.length]? = some (.lst xs) := by
    have := get_new (h := h.set a o1) (o := .lst xs)
    rw [List.length_set] at this; exact this
  obtain ⟨y, o2, my, f2, _, d2, e2⟩ := pick_lst (n := n) hP hN (d1.ext (h' := h.set a o1 ++ [O.lst xs]) ⟨_, rfl⟩) (by omega) g1 (by omega) (by rw [hxs]; simp) (by rw [hxs]; show 8 ≤ line; decide)
  have st : Step a h ((h.set a o1 ++ [O.lst xs]).set a o2) := Step.trans la ((Step.of_set f1).app) (Step.of_set f2)
  obtain ⟨t, rfl, t0, t1⟩ : ∃ t : Int, y = .int t ∧ 1 ≤ t ∧ t ≤ 1000000000 := by
    rw [hxs] at my
    simp at my
    rcases my with rfl | rfl | rfl | rfl | rfl | rfl | rfl | rfl
    all_goals exact ⟨_, rfl, by omega, by omega⟩
  obtain ⟨o, fo, eg, dg⟩ := st.gc (d := .int t) rfl d2 la
  refine ⟨t, o, t0, t1, fo, la, dg, ?_⟩
  have lx : xs.length = 8 := by rw [hxs]; rfl
  simp [bTop, IX.start, e1, p9, ← hxs, lx, e2]
  exact eg
/-! ### a number -/
def bNumber (nx : Nat) : IX.S := (.seq (.set 2 (.call nx (.cons (.loc 0) (.cons (.cst (.int 4)) .nil))))
    (.seq (.set 3 (.call nx (.cons (.loc 0) (.cons (.bop .add (.bi .min (.cons (.loc 1) (.cons (.cst (.int 5)) .nil))) (.cst (.int 1))) .nil))))
    (.seq (.ret (.ite (.bop .eq (.loc 2) (.cst (.int 0))) (.bop .sub (.loc 1) (.loc 3)) (.loc 3)))
    .skip)))
theorem number_eq {T : Tbl} {f nx n : Nat} (hT : T.fn f = some ⟨2, 4, bNumber nx⟩) (hN : T.fn nx = some ⟨2, 4, bNext⟩) {h : Hh} {a c : Nat} {t : Int} (d : Dr h a c) (hc : c < 900000) (t0 : 0 ≤ t) :
    ∃ (i : Int) (o : O), 0 ≤ i ∧ i ≤ t ∧ o.flat = true ∧ a < h.length ∧ Dr (h.set a o) a (c + 2) ∧ callF T (n + 2) f [.ref a, .int t] h = .ok (.int i) (h.set a o) := by
  rw [callF_succ hT rfl]
  have la := d.lt
  obtain ⟨m, hm, m0, m1, m2⟩ : ∃ m : Int, (if (5 : Int) < t then 5 else t) = m ∧ 0 ≤ m ∧ m ≤ t ∧ m ≤ 5 := by
    by_cases q : (5 : Int) < t
    · exact ⟨5, if_pos q, by omega, by omega, by omega⟩
    · exact ⟨t, if_neg q, by omega, by omega, by omega⟩
  obtain ⟨w, o1, w0, w1, f1, _, d1, e1⟩ := next_eq (n := n) hN (z := 4) d (by omega) (by decide) (by decide)
  obtain ⟨i, o2, i0, i1, f2, _, d2, e2⟩ := next_eq (n := n) hN (z := m + 1) d1 (by omega) (by omega) (by omega)
  rw [List.set_set] at d2 e2
  have mn : ∀ h, biD .min [.int t, .int 5] h = .ok (.int m) h := fun h => by rw [← hm]; rfl
  by_cases q : w = 0
  · refine ⟨t - i, o2, by omega, by omega, f2, la, d2.mono (by omega), ?_⟩
    subst q
    simp [bNumber, IX.start, e1, mn, e2, eqT, eq_int]
  · refine ⟨i, o2, by omega, by omega, f2, la, d2.mono (by omega), ?_⟩
    have hq : (w == 0) = false := by simpa using q
    simp [bNumber, IX.start, e1, mn, e2, eqT, eq_int, hq]
end IX
end

section
set_option Elab.async false
set_option linter.all false
set_option maxRecDepth 100000
set_option maxHeartbeats 4000000
/-! IX26: data by size; slices; lists added. -/
namespace IX
open PySem
/-- plain things stay plain things -/
def PK (h h' : Hh) : Prop := ∀ (i : Nat) (o : O), h[i]? = some o → o.plain = true → ∃ o' : O, h'[i]? = some o' ∧ o'.plain = true
theorem PK.refl {h : Hh} : PK h h := fun i o e p => ⟨o, e, p⟩
theorem PK.trans {a b c : Hh} (x : PK a b) (y : PK b c) : PK a c := fun i o e p => by
  obtain ⟨o1, e1, p1⟩ := x i o e p
  exact y i o1 e1 p1
theorem PK.ext {h h' : Hh} (e : Ext h h') : PK h h' := fun i o g p => ⟨o, e.get g, p⟩
theorem PK.step {a c : Nat} {h h' : Hh} (s : Step a h h') (d : Dr h' a c) : PK h h' := fun i o g p => by
  by_cases hi : a = i
  · subst hi
    obtain ⟨_, _, _, e, _⟩ := d
    exact ⟨_, e, rfl⟩
  · exact ⟨o, s.get hi g, p⟩
/-- no tuple: its size -/
def Flat (h : Hh) (s b : Nat) : D → Prop
  | .non => True
  | .bl _ => True
  | .int i => i.natAbs < 2 ^ b
  | .str x => x.length ≤ s
  | .tup _ => False
  | .lck _ => False
  | .ref a => ∃ o : O, h[a]? = some o ∧ o.plain = true
/-- data: m deep at most, texts of s signs, numbers of b bits, tuples of l items -/
def Dat (h : Hh) (s b l : Nat) : Nat → D → Prop
  | 0, d => Flat h s b d
  | m + 1, d => match d with
    | .tup xs => xs.length ≤ l ∧ ∀ x ∈ xs, Dat h s b l m x
    | d => Flat h s b d
theorem Flat.dat {h : Hh} {s b l : Nat} {d : D} (f : Flat h s b d) : ∀ m, Dat h s b l m d
  | 0 => f
  | m + 1 => by cases d <;> first | exact f | exact f.elim
theorem Flat.mono {h h' : Hh} {s s' b b' : Nat} {d : D} (k : PK h h') (hs : s ≤ s') (hb : b ≤ b') (f : Flat h s b d) : Flat h' s' b' d := by
  cases d with
  | int i => exact Nat.lt_of_lt_of_le f (Nat.pow_le_pow_right (by decide) hb)
  | str x => exact Nat.le_trans f hs
  | ref a => obtain ⟨o, e, p⟩ := f; exact k a o e p
  | _ => exact f
theorem Dat.mono {h h' : Hh} {s s' b b' l l' : Nat} (k : PK h h') (hs : s ≤ s') (hb : b ≤ b') (hl : l ≤ l') : ∀ {m m' : Nat} {d : D}, m ≤ m' → Dat h s b l m d → Dat h' s' b' l' m' d
  | 0, m', d, _, f => (Flat.mono k hs hb (show Flat h s b d from f)).dat m'
  | m + 1, 0, d, hm, f => absurd hm (by omega)
  | m + 1, m' + 1, d, hm, f => by
    cases d with
    | tup xs => exact ⟨Nat.le_trans f.1 hl, fun x hx => Dat.mono k hs hb hl (by omega) (f.2 x hx)⟩
    | non => exact Flat.mono k hs hb (show Flat h s b .non from f)
    | bl q => exact Flat.mono k hs hb (show Flat h s b (.bl q) from f)
    | int q => exact Flat.mono k hs hb (show Flat h s b (.int q) from f)
    | str q => exact Flat.mono k hs hb (show Flat h s b (.str q) from f)
    | lck q => exact (show Flat h s b (.lck q) from f).elim
    | ref q => exact Flat.mono k hs hb (show Flat h s b (.ref q) from f)
theorem pureL_mem : ∀ {xs : List D}, D.pureL xs = true → ∀ x ∈ xs, x.pure = true
  | [], _, x, hx => nomatch hx
  | y :: r, p, x, hx => by
    simp only [D.pureL, Bool.and_eq_true] at p
    rcases List.mem_cons.mp hx with rfl | hx
    · exact p.1
    · exact pureL_mem p.2 x hx
theorem Flat.pure {h h' : Hh} {s b : Nat} {d : D} (p : d.pure = true) (f : Flat h s b d) : Flat h' s b d := by
  cases d <;> first | exact f | cases p
theorem Dat.pure {h h' : Hh} {s b l : Nat} : ∀ {m : Nat} {d : D}, d.pure = true → Dat h s b l m d → Dat h' s b l m d
  | 0, d, p, f => Flat.pure p f
  | m + 1, d, p, f => by
    cases d with
    | tup xs => exact ⟨f.1, fun x hx => Dat.pure (pureL_mem (by simpa only [D.pure] using p) x hx) (f.2 x hx)⟩
    | ref a => cases p
    | lck q => exact (show Flat h s b (.lck q) from f).elim
    | non => exact trivial
    | bl q => exact trivial
    | int q => exact f
    | str q => exact f
/-- behind a call with any answer -/
theorem Step.gc2 {a c : Nat} {h h' : Hh} {d : D} {s b l m : Nat} (st : Step a h h') (dr : Dr h' a c) (la : a < h.length) (hd : Dat h' s b l m d) : ∃ h2, IX.gc h d h' = h2 ∧ Step a h h2 ∧ Dr h2 a c ∧ Dat h2 s b l m d := by
  by_cases p : d.pure = true
  · obtain ⟨o, f, e, dg⟩ := st.gc p dr la
    exact ⟨h.set a o, e, Step.of_set f, dg, hd.pure p⟩
  · exact ⟨h', by unfold IX.gc; exact if_neg fun z => p z.1, st, dr, hd⟩
/-! ### slices -/
theorem six_some {n d : Nat} {i : Int} (h0 : 0 ≤ i) (h1 : i ≤ n) : HT.sIx n d (some i) = i.toNat := by
  unfold HT.sIx
  simp only []
  split <;> omega
theorem six_big {n d : Nat} {i : Int} (h0 : 0 ≤ i) : HT.sIx n d (some i) ≤ n ∧ i.toNat.min n = HT.sIx n d (some i) := by
  unfold HT.sIx
  simp only []
  constructor
  · split <;> omega
  · have : i.toNat.min n = min i.toNat n := rfl
    rw [this]
    split <;> omega
theorem cut_to {xs : List D} {i : Int} (h0 : 0 ≤ i) (h1 : i ≤ xs.length) : cutD xs none (some i) = xs.take i.toNat := by
  unfold cutD
  rw [six_some h0 h1]
  rfl
theorem cut_from {xs : List D} {i : Int} (h0 : 0 ≤ i) (h1 : i ≤ xs.length) : cutD xs (some i) none = xs.drop i.toNat := by
  unfold cutD
  rw [six_some h0 h1]
  exact List.take_of_length_le (by rw [List.length_drop]; show _ ≤ xs.length - _; omega)
theorem cut_sub {xs : List D} {lo hi : Option Int} : ∀ x ∈ cutD xs lo hi, x ∈ xs := fun x hx => List.mem_of_mem_drop (List.mem_of_mem_take hx)
theorem cut_lenD {xs : List D} {lo hi : Option Int} : (cutD xs lo hi).length ≤ xs.length := by
  unfold cutD
  rw [List.length_take, List.length_drop]; omega
@[simp] theorem slc_tup {xs : List D} {lo hi : Option Int} {h : Hh} : slcD (.tup xs) lo hi h = .ok (.tup (cutD xs lo hi)) h := rfl
theorem slc_lst {xs : List D} {lo hi : Option Int} {a : Nat} {h : Hh} (e : h[a]? = some (.lst xs)) : slcD (.ref a) lo hi h = .ok (.ref h.length) (h ++ [.lst (cutD xs lo hi)]) := by
  show (match h[a]?.bind O.seq? with
    | some xs => R.new (.lst (cutD xs lo hi)) h
    | none => .bad) = _
  rw [e]; rfl
theorem op_addT {xs ys : List D} {h : Hh} (z : xs.length + ys.length ≤ 16777216) : binop .add (.tup xs) (.tup ys) h = .ok (.tup (xs ++ ys)) h := if_pos z
theorem op_addL {xs ys : List D} {u w : Nat} {h : Hh} (e1 : h[u]? = some (.lst xs)) (e2 : h[w]? = some (.lst ys)) (z : xs.length + ys.length ≤ 16777216) : binop .add (.ref u) (.ref w) h = .ok (.ref h.length) (h ++ [.lst (xs ++ ys)]) := by
  show (match h[u]?.bind O.seq?, h[w]?.bind O.seq? with
    | some xs, some ys => if xs.length + ys.length ≤ line then R.new (.lst (xs ++ ys)) h else .bad
    | _, _ => .bad) = _
  rw [e1, e2]
  exact if_pos z
@[simp] theorem rev_tup {xs : List D} {h : Hh} : revD (.tup xs) h = .ok (.tup xs.reverse) h := rfl
def krev (m : R D) : R D := m.bind fun x h1 => revD x h1
@[simp] theorem ev_rev {P : Pg} {a : IX.E} {σ : St} {h : Hh} : evalE P (.rev a) σ h = krev (evalE P a σ h) := rfl
@[simp] theorem krev_ok {x : D} {h : Hh} : krev (.ok x h) = revD x h := rfl
@[simp] theorem list_tup {xs : List D} {h : Hh} : biD .list [.tup xs] h = .ok (.ref h.length) (h ++ [.lst xs]) := rfl
@[simp] theorem len_tup {xs : List D} {h : Hh} : biD .len [.tup xs] h = .ok (.int xs.length) h := rfl
@[simp] theorem len_str {x : Str} {h : Hh} : biD .len [.str x] h = .ok (.int x.length) h := rfl
theorem len_lst {xs : List D} {a : Nat} {h : Hh} (e : h[a]? = some (.lst xs)) : biD .len [.ref a] h = .ok (.int xs.length) h := by simp only [biD, e]
end IX
end

section
set_option Elab.async false
set_option linter.all false
set_option maxRecDepth 100000
set_option maxHeartbeats 4000000
/-! IX27: a thing changed at a place. -/
namespace IX
open PySem
def bTail : IX.S := (.seq (.ret (.idx (.loc 6) (.bop .mod (.loc 5) (.bi .len (.cons (.loc 6) .nil))))) .skip)
def bKinds : IX.S := (.ite (.isi (.loc 1) [.tuple]) (.seq (.set 3 (.bop .mod (.loc 3) (.bop .add (.bi .len (.cons (.loc 1) .nil)) (.cst (.int 1)))))
    (.seq (.set 6 (.bop .add (.loc 6) (.lst (.cons (.bi .list (.cons (.loc 1) .nil)) (.cons (.bop .add (.slc (.loc 1) .nil (.loc 3)) (.slc (.loc 1) (.bop .add (.loc 3) (.cst (.int 1))) .nil)) (.cons (.bop .add (.bop .add (.slc (.loc 1) .nil (.loc 3)) (.slc (.slc (.loc 1) (.loc 3) .nil) .nil (.cst (.int 1)))) (.slc (.loc 1) (.loc 3) .nil)) (.cons (.rev (.loc 1)) .nil)))))))
    .skip)) (.seq (.ite (.isi (.loc 1) [.int]) (.seq (.set 6 (.bop .add (.loc 6) (.lst (.cons (.bop .add (.loc 1) (.cst (.int 1))) (.cons (.bop .sub (.loc 1) (.cst (.int 1))) (.cons (.bop .add (.loc 1) (.cst (.int 2))) (.cons (.bop .sub (.cst (.int 0)) (.loc 1)) (.cons (.bi .str (.cons (.loc 1) .nil)) (.cons (.bop .mul (.loc 1) (.cst (.int 10))) (.cons (.bop .pow (.cst (.int 10)) (.cst (.int 9))) (.cons (.bop .add (.bop .pow (.cst (.int 10)) (.cst (.int 9))) (.cst (.int 1))) .nil)))))))))))
    .skip) (.seq (.ite (.isi (.loc 1) [.str]) (.seq (.set 3 (.bop .mod (.loc 3) (.bop .add (.bi .len (.cons (.loc 1) .nil)) (.cst (.int 1)))))
    (.seq (.set 6 (.bop .add (.loc 6) (.lst (.cons (.bop .add (.bop .add (.slc (.loc 1) .nil (.loc 3)) (.loc 4)) (.slc (.loc 1) (.loc 3) .nil)) (.cons (.bop .add (.bop .add (.slc (.loc 1) .nil (.loc 3)) (.loc 4)) (.slc (.loc 1) (.bop .add (.loc 3) (.cst (.int 1))) .nil)) .nil)))))
    (.seq (.set 6 (.bop .add (.loc 6) (.lst (.cons (.bop .add (.slc (.loc 1) .nil (.loc 3)) (.slc (.loc 1) (.bop .add (.loc 3) (.cst (.int 1))) .nil)) (.cons (.me .upper (.loc 1) .nil) (.cons (.bop .add (.loc 1) (.cst (.str " "))) (.cons (.tup (.cons (.loc 1) .nil)) (.cons (.cst (.str "plus")) (.cons (.cst (.str "under")) .nil)))))))))
    (.seq (.set 6 (.bop .add (.loc 6) (.lst (.cons (.cst (.str "less")) (.cons (.cst (.str "number")) (.cons (.cst (.str "box")) (.cons (.bop .add (.loc 1) (.loc 1)) .nil)))))))
    .skip)))) .skip)
    .skip))
    .skip))
def bBase (nx : Nat) : IX.S := (.seq (.set 3 (.call nx (.cons (.loc 0) (.cons (.cst (.int 12)) .nil))))
    (.seq (.set 4 (.idx (.cst (.str "abcdefghijklmnopqrstuvwxyz")) (.call nx (.cons (.loc 0) (.cons (.cst (.int 26)) .nil)))))
    (.seq (.set 5 (.call nx (.cons (.loc 0) (.cons (.cst (.int 64)) .nil))))
    (.seq (.set 6 (.lst (.cons (.cst .non) (.cons (.cst (.bl true)) (.cons (.cst (.bl false)) (.cons (.cst (.int 0)) (.cons (.cst (.int 1)) (.cons (.bop .sub (.cst (.int 0)) (.cst (.int 1))) (.cons (.cst (.str "")) (.cons (.cst (.str "x")) (.cons (.tup .nil) (.cons (.lst .nil) (.cons (.dic .nil) (.cons (.tup (.cons (.cst (.str "number")) (.cons (.cst (.int 0)) .nil))) (.cons (.tup (.cons (.cst (.str "box")) (.cons (.cst (.str "x")) .nil))) (.cons (.cst (.str "end")) (.cons (.tup (.cons (.cst (.str "box")) (.cons (.cst (.str "plus")) .nil))) .nil))))))))))))))))) (.seq bKinds bTail)))))
def bChanged (self nx : Nat) : IX.S := (.seq (.set 2 (.call nx (.cons (.loc 0) (.cons (.cst (.int 5)) .nil))))
    (.seq (.ite (.and (.isi (.loc 1) [.tuple]) (.and (.bop .gt (.bi .len (.cons (.loc 1) .nil)) (.cst (.int 0))) (.bop .gt (.loc 2) (.cst (.int 0))))) (.seq (.set 3 (.call nx (.cons (.loc 0) (.cons (.bi .len (.cons (.loc 1) .nil)) .nil))))
    (.seq (.ret (.bop .add (.bop .add (.slc (.loc 1) .nil (.loc 3)) (.tup (.cons (.call self (.cons (.loc 0) (.cons (.idx (.loc 1) (.loc 3)) .nil))) .nil))) (.slc (.loc 1) (.bop .add (.loc 3) (.cst (.int 1))) .nil)))
    .skip)) .skip) (bBase nx)))
section
variable {P : Pg} {h : Hh}
theorem tail_eq {x0 x1 x2 x3 x4 : Option D} {p : Int} {u : Nat} {xs : List D} (e : h[u]? = some (.lst xs)) (ne : xs ≠ []) : ∃ y ∈ xs, exec P bTail [x0, x1, x2, x3, x4, some (.int p), some (.ref u)] h = .ok (.rt y) h := by
  have hp : 0 < xs.length := List.length_pos_iff.mpr ne
  have i0 := Int.emod_nonneg p (b := (xs.length : Int)) (by omega)
  have i1 := Int.emod_lt_of_pos p (b := (xs.length : Int)) (by omega)
  have hi : (p % (xs.length : Int)).toNat < xs.length := by omega
  refine ⟨xs[(p % (xs.length : Int)).toNat], List.getElem_mem hi, ?_⟩
  obtain ⟨L, hL⟩ : ∃ L : Int, L = (xs.length : Int) := ⟨_, rfl⟩
  have q1 := len_lst e
  rw [← hL] at q1 i0
  have q2 : idxD (.ref u) (.int (p % L)) h = .ok xs[(p % (xs.length : Int)).toNat] h := by
    rw [idx_lst e, at_nat i0 (by rw [hL]; exact List.getElem?_eq_getElem hi)]
  simp [bTail, q1, op_modI (show 0 < L by omega), q2]
/-- what is changed: numbers, texts, tuples of such -/
def Src (s b l : Nat) : Nat → D → Prop
  | 0, d => match d with
    | .int i => i.natAbs < 2 ^ b
    | .str x => x.length ≤ s
    | _ => False
  | m + 1, d => match d with
    | .int i => i.natAbs < 2 ^ b
    | .str x => x.length ≤ s
    | .tup xs => xs.length ≤ l ∧ ∀ x ∈ xs, Src s b l m x
    | _ => False
theorem Src.dat {s b l : Nat} : ∀ {m : Nat} {d : D}, Src s b l m d → Dat h s b l m d
  | 0, d, f => by cases d <;> first | exact f | exact f.elim
  | m + 1, d, f => by
    cases d with
    | tup xs => exact ⟨f.1, fun x hx => Src.dat (f.2 x hx)⟩
    | int i => exact f
    | str x => exact f
    | _ => exact f.elim
def list15 (a : Nat) : List D := [.non, .bl true, .bl false, .int 0, .int 1, .int (-1), .str "", .str "x", .tup [], .ref a, .ref (a + 1), .tup [.str "number", .int 0], .tup [.str "box", .str "x"], .str "end", .tup [.str "box", .str "plus"]]
theorem pow_ge {b k : Nat} (hb : k ≤ b) : 2 ^ k ≤ 2 ^ b := Nat.pow_le_pow_right (by decide) hb
theorem list15_dat {a s b l m : Nat} (e1 : h[a]? = some (.lst [])) (e2 : h[a + 1]? = some (.dic [])) (hs : 10 ≤ s) (hb : 2 ≤ b) (hl : 2 ≤ l) : ∀ y ∈ list15 a, Dat h s b l (m + 1) y := by
  have p := pow_ge (b := b) (k := 2) hb
  have st : ∀ x : Str, x.length ≤ 10 → Flat h s b (.str x) := fun x hx => Nat.le_trans hx hs
  have i1 : Flat h s b (.int 1) := by show 1 < 2 ^ b; omega
  have i0 : Flat h s b (.int 0) := by show 0 < 2 ^ b; omega
  have im : Flat h s b (.int (-1)) := by show 1 < 2 ^ b; omega
  intro y hy
  simp only [list15, List.mem_cons, List.mem_nil_iff, or_false] at hy
  rcases hy with rfl | rfl | rfl | rfl | rfl | rfl | rfl | rfl | rfl | rfl | rfl | rfl | rfl | rfl | rfl
  · trivial
  · trivial
  · trivial
  · exact i0
  · exact i1
  · exact im
  · exact st _ (by decide +kernel)
  · exact st _ (by decide +kernel)
  · exact ⟨Nat.zero_le _, by simp⟩
  · exact ⟨_, e1, rfl⟩
  · exact ⟨_, e2, rfl⟩
  · refine ⟨hl, ?_⟩
    intro x hx
    simp only [List.mem_cons, List.mem_nil_iff, or_false] at hx
    rcases hx with rfl | rfl
    · exact (st _ (by decide +kernel)).dat m
    · exact i0.dat m
  · refine ⟨hl, ?_⟩
    intro x hx
    simp only [List.mem_cons, List.mem_nil_iff, or_false] at hx
    rcases hx with rfl | rfl
    · exact (st _ (by decide +kernel)).dat m
    · exact (st _ (by decide +kernel)).dat m
  · exact st _ (by decide +kernel)
  · refine ⟨hl, ?_⟩
    intro x hx
    simp only [List.mem_cons, List.mem_nil_iff, or_false] at hx
    rcases hx with rfl | rfl
    · exact (st _ (by decide +kernel)).dat m
    · exact (st _ (by decide +kernel)).dat m
end
end IX
end

section
set_option Elab.async false
set_option linter.all false
set_option maxRecDepth 100000
set_option maxHeartbeats 4000000
/-! IX28: a thing changed: by its kind. -/
namespace IX
open PySem
section
variable {P : Pg} {H : Hh}
/-- what the kinds' part leaves -/
def Kinds (P : Pg) (H : Hh) (x0 x2 : Option D) (v : D) (at_ p : Int) (ltr : Str) (u : Nat) (s b l m : Nat) : Prop :=
  ∃ (x3 : D) (u' : Nat) (H' : Hh) (xs : List D), exec P bKinds [x0, some v, x2, some (.int at_), some (.str ltr), some (.int p), some (.ref u)] H = .ok (.nx [x0, some v, x2, some x3, some (.str ltr), some (.int p), some (.ref u')]) H' ∧
    Ext H H' ∧ H'[u']? = some (.lst xs) ∧ xs ≠ [] ∧ xs.length ≤ 100 ∧ ∀ y ∈ xs, Dat H' (3 * s + 2000) (b + 40) (3 * l + 5) (m + 3) y
theorem kinds_tup {x0 x2 : Option D} {xs : List D} {at_ p : Int} {ltr : Str} {u a s b l m : Nat} (hv : Src s b l (m + 1) (.tup xs)) (hl : l ≤ 1000) (a0 : 0 ≤ at_)
    (eu : H[u]? = some (.lst (list15 a))) (ea : H[a]? = some (.lst [])) (ea1 : H[a + 1]? = some (.dic [])) : Kinds P H x0 x2 (.tup xs) at_ p ltr u s b l (m + 1) := by
  have lx : xs.length ≤ l := hv.1
  obtain ⟨L, hL⟩ : ∃ L : Int, L = (xs.length : Int) := ⟨_, rfl⟩
  have q1 : ∀ h, biD .len [.tup xs] h = .ok (.int L) h := fun h => by rw [hL]; rfl
  have q2 : ∀ h, binop .mod (.int at_) (.int (L + 1)) h = .ok (.int (at_ % (L + 1))) h := fun h => op_modI (by omega)
  obtain ⟨t, ht⟩ : ∃ t, t = at_ % (L + 1) := ⟨_, rfl⟩
  rw [← ht] at q2
  obtain ⟨A, hA⟩ : ∃ A, A = cutD xs none (some t) := ⟨_, rfl⟩
  obtain ⟨B, hB⟩ : ∃ B, B = cutD xs (some (t + 1)) none := ⟨_, rfl⟩
  obtain ⟨C, hC⟩ : ∃ C, C = cutD xs (some t) none := ⟨_, rfl⟩
  obtain ⟨Dd, hD⟩ : ∃ Dd, Dd = cutD C none (some 1) := ⟨_, rfl⟩
  have lA : A.length ≤ xs.length := by rw [hA]; exact cut_lenD
  have lB : B.length ≤ xs.length := by rw [hB]; exact cut_lenD
  have lC : C.length ≤ xs.length := by rw [hC]; exact cut_lenD
  have lD : Dd.length ≤ C.length := by rw [hD]; exact cut_lenD
  have p1 : ∀ h, binop .add (.tup A) (.tup B) h = .ok (.tup (A ++ B)) h := fun h => op_addT (by omega)
  have p2 : ∀ h, binop .add (.tup A) (.tup Dd) h = .ok (.tup (A ++ Dd)) h := fun h => op_addT (by omega)
  have p3 : ∀ h, binop .add (.tup (A ++ Dd)) (.tup C) h = .ok (.tup (A ++ (Dd ++ C))) h := fun h => by rw [← List.append_assoc]; exact op_addT (by rw [List.length_append]; omega)
  obtain ⟨ys, hys⟩ : ∃ ys : List D, ys = [.ref H.length, .tup (A ++ B), .tup (A ++ (Dd ++ C)), .tup xs.reverse] := ⟨_, rfl⟩
  have ly : ys.length = 4 := by rw [hys]; rfl
  have p4 : binop .add (.ref u) (.ref (H.length + 1)) (H ++ [.lst xs, .lst ys]) = .ok (.ref (H.length + 2)) (H ++ [.lst xs, .lst ys, .lst (list15 a ++ ys)]) := by
    have := op_addL (h := H ++ [.lst xs, .lst ys]) (u := u) (w := H.length + 1) (xs := list15 a) (ys := ys) (Ext.get ⟨_, rfl⟩ eu) get_app (by rw [ly]; show 15 + 4 ≤ _; omega)
    simpa using this
  refine ⟨.int t, H.length + 2, H ++ [.lst xs, .lst ys, .lst (list15 a ++ ys)], list15 a ++ ys, ?_, ⟨_, rfl⟩, get_app, by rw [list15]; simp, by rw [List.length_append, ly]; show 15 + 4 ≤ 100; omega, ?_⟩
  · simp [bKinds, isTy, q1, q2, ← hA, ← hB, ← hC, ← hD, p1, p2, p3, ← hys, ly, p4]
  · intro y hy
    have ext : Ext H (H ++ [.lst xs, .lst ys, .lst (list15 a ++ ys)]) := ⟨_, rfl⟩
    rcases List.mem_append.mp hy with hy | hy
    · exact list15_dat (ext.get ea) (ext.get ea1) (by omega) (by omega) (by omega) y hy
    · have sub : ∀ zs : List D, (∀ z ∈ zs, z ∈ xs) → zs.length ≤ 3 * l + 5 → Dat (H ++ [.lst xs, .lst ys, .lst (list15 a ++ ys)]) (3 * s + 2000) (b + 40) (3 * l + 5) (m + 1 + 3) (.tup zs) := fun zs hz hzl =>
        ⟨hzl, fun z mz => Dat.mono (PK.refl (h := H)|>.trans (PK.ext ext)) (by omega) (by omega) (by omega) (by omega) ((hv.2 z (hz z mz)).dat (h := H))⟩
      have mA : ∀ z ∈ A, z ∈ xs := by rw [hA]; exact cut_sub
      have mB : ∀ z ∈ B, z ∈ xs := by rw [hB]; exact cut_sub
      have mC : ∀ z ∈ C, z ∈ xs := by rw [hC]; exact cut_sub
      have mD : ∀ z ∈ Dd, z ∈ xs := fun z mz => mC z (by rw [hD] at mz; exact cut_sub z mz)
      rw [hys] at hy
      simp only [List.mem_cons, List.mem_nil_iff, or_false] at hy
      rcases hy with rfl | rfl | rfl | rfl
      · exact ⟨.lst xs, get_mid, rfl⟩
      · exact sub _ (fun z mz => by rcases List.mem_append.mp mz with h | h; exact mA z h; exact mB z h) (by rw [List.length_append]; omega)
      · exact sub _ (fun z mz => by
          rcases List.mem_append.mp mz with h | h
          · exact mA z h
          · rcases List.mem_append.mp h with h | h
            · exact mD z h
            · exact mC z h) (by rw [List.length_append, List.length_append]; omega)
      · exact sub _ (fun z mz => List.mem_reverse.mp mz) (by rw [List.length_reverse]; omega)
theorem kinds_int {x0 x2 : Option D} {i at_ p : Int} {ltr : Str} {u a s b l m : Nat} (hv : i.natAbs < 2 ^ b) (hb : b ≤ 1000)
    (eu : H[u]? = some (.lst (list15 a))) (ea : H[a]? = some (.lst [])) (ea1 : H[a + 1]? = some (.dic [])) : Kinds P H x0 x2 (.int i) at_ p ltr u s b l m := by
  have lt : i.natAbs < 2 ^ 1920 := Nat.lt_of_lt_of_le hv (Nat.pow_le_pow_right (by decide) (by omega))
  obtain ⟨ts, hts⟩ : ∃ ts : Str, ts = Str.ofString (toString i) := ⟨_, rfl⟩
  have es : ∀ h, biD .str [.int i] h = .ok (.str ts) h := fun h => by rw [hts]; exact str_int lt
  have tl : ts.length ≤ 1921 := by
    rw [hts]
    refine PyProof.Rows.int_text_len_1921 ?_
    by_cases e : i.natAbs = 0
    · rw [e]; decide
    · exact (Nat.log2_lt e).mpr lt
  have p9 : ∀ h, binop .pow (.int 10) (.int 9) h = .ok (.int 1000000000) h := fun h => op_powV (by decide +kernel) (by decide) (by decide) (by decide)
  have pm : ∀ h, binop .mul (.int i) (.int 10) h = .ok (.int (i * 10)) h := fun h => op_mulV rfl (.inr (by decide))
  obtain ⟨ys, hys⟩ : ∃ ys : List D, ys = [.int (i + 1), .int (i - 1), .int (i + 2), .int (-i), .str ts, .int (i * 10), .int 1000000000, .int 1000000001] := ⟨_, rfl⟩
  have ly : ys.length = 8 := by rw [hys]; rfl
  have p4 : binop .add (.ref u) (.ref H.length) (H ++ [.lst ys]) = .ok (.ref (H.length + 1)) (H ++ [.lst ys, .lst (list15 a ++ ys)]) := by
    have := op_addL (h := H ++ [.lst ys]) (u := u) (w := H.length) (xs := list15 a) (ys := ys) (Ext.get ⟨_, rfl⟩ eu) get_mid (by rw [ly]; show 15 + 8 ≤ _; omega)
    simpa using this
  refine ⟨.int at_, H.length + 1, H ++ [.lst ys, .lst (list15 a ++ ys)], list15 a ++ ys, ?_, ⟨_, rfl⟩, get_app, by rw [list15]; simp, by rw [List.length_append, ly]; show 15 + 8 ≤ 100; omega, ?_⟩
  · simp [bKinds, isTy, es, p9, pm, ← hys, ly, p4]
  · intro y hy
    have ext : Ext H (H ++ [.lst ys, .lst (list15 a ++ ys)]) := ⟨_, rfl⟩
    rcases List.mem_append.mp hy with hy | hy
    · exact list15_dat (ext.get ea) (ext.get ea1) (by omega) (by omega) (by omega) y hy
    · have e40 : 2 ^ (b + 40) = 2 ^ b * 2 ^ 40 := Nat.pow_add ..
      have e41 : (2 : Nat) ^ 40 = 1099511627776 := by decide
      have b0 : 0 < 2 ^ b := Nat.pow_pos (by decide)
      rw [e41] at e40
      rw [hys] at hy
      simp only [List.mem_cons, List.mem_nil_iff, or_false] at hy
      have it : ∀ j : Int, j.natAbs < 2 ^ (b + 40) → Dat (H ++ [.lst ys, .lst (list15 a ++ ys)]) (3 * s + 2000) (b + 40) (3 * l + 5) (m + 3) (.int j) := fun j hj => Flat.dat (d := .int j) hj _
      rcases hy with rfl | rfl | rfl | rfl | rfl | rfl | rfl | rfl
      · exact it _ (by omega)
      · exact it _ (by omega)
      · exact it _ (by omega)
      · exact it _ (by omega)
      · exact Flat.dat (d := .str ts) (show ts.length ≤ 3 * s + 2000 by omega) _
      · exact it _ (by omega)
      · exact it _ (by omega)
      · exact it _ (by omega)
theorem kinds_str {x0 x2 : Option D} {v : Str} {at_ p : Int} {ltr : Str} {u a s b l m : Nat} (hv : v.length ≤ s) (hs : s ≤ 100000) (hl : ltr.length ≤ 1) (a0 : 0 ≤ at_)
    (eu : H[u]? = some (.lst (list15 a))) (ea : H[a]? = some (.lst [])) (ea1 : H[a + 1]? = some (.dic [])) : Kinds P H x0 x2 (.str v) at_ p ltr u s b l m := by
  obtain ⟨L, hL⟩ : ∃ L : Int, L = (v.length : Int) := ⟨_, rfl⟩
  have q1 : ∀ h, biD .len [.str v] h = .ok (.int L) h := fun h => by rw [hL]; rfl
  have q2 : ∀ h, binop .mod (.int at_) (.int (L + 1)) h = .ok (.int (at_ % (L + 1))) h := fun h => op_modI (by omega)
  obtain ⟨t, ht⟩ : ∃ t, t = at_ % (L + 1) := ⟨_, rfl⟩
  rw [← ht] at q2
  obtain ⟨A, hA⟩ : ∃ A, A = L2.cutS v none (some t) := ⟨_, rfl⟩
  obtain ⟨B, hB⟩ : ∃ B, B = L2.cutS v (some (t + 1)) none := ⟨_, rfl⟩
  obtain ⟨C, hC⟩ : ∃ C, C = L2.cutS v (some t) none := ⟨_, rfl⟩
  have lA : A.length ≤ v.length := by rw [hA]; exact cut_len _ _ _
  have lB : B.length ≤ v.length := by rw [hB]; exact cut_len _ _ _
  have lC : C.length ≤ v.length := by rw [hC]; exact cut_len _ _ _
  obtain ⟨AL, hAL⟩ : ∃ AL, AL = A ++ ltr := ⟨_, rfl⟩
  have lAL : AL.length ≤ v.length + 1 := by rw [hAL, str_len_app]; omega
  obtain ⟨s1, hs1⟩ : ∃ s1, s1 = AL ++ C := ⟨_, rfl⟩
  obtain ⟨s2, hs2⟩ : ∃ s2, s2 = AL ++ B := ⟨_, rfl⟩
  obtain ⟨s3, hs3⟩ : ∃ s3, s3 = A ++ B := ⟨_, rfl⟩
  obtain ⟨s4, hs4⟩ : ∃ s4, s4 = Txt.upper v := ⟨_, rfl⟩
  obtain ⟨s5, hs5⟩ : ∃ s5, s5 = v ++ Str.ofString " " := ⟨_, rfl⟩
  obtain ⟨s6, hs6⟩ : ∃ s6, s6 = v ++ v := ⟨_, rfl⟩
  have l1 : s1.length ≤ 2 * s + 1 := by rw [hs1, str_len_app]; omega
  have l2 : s2.length ≤ 2 * s + 1 := by rw [hs2, str_len_app]; omega
  have l3 : s3.length ≤ 2 * s := by rw [hs3, str_len_app]; omega
  have l4 : s4.length ≤ 3 * s := by rw [hs4]; have := PyProof.Rows.len_upper v; omega
  have sp : (Str.ofString " ").length = 1 := by decide +kernel
  have l5 : s5.length ≤ s + 1 := by rw [hs5, str_len_app, sp]; omega
  have l6 : s6.length ≤ 2 * s := by rw [hs6, str_len_app]; omega
  have p0 : ∀ h, binop .add (.str A) (.str ltr) h = .ok (.str AL) h := fun h => by rw [hAL]; exact op_addS (by omega)
  have p1 : ∀ h, binop .add (.str AL) (.str C) h = .ok (.str s1) h := fun h => by rw [hs1]; exact op_addS (by omega)
  have p2 : ∀ h, binop .add (.str AL) (.str B) h = .ok (.str s2) h := fun h => by rw [hs2]; exact op_addS (by omega)
  have p3 : ∀ h, binop .add (.str A) (.str B) h = .ok (.str s3) h := fun h => by rw [hs3]; exact op_addS (by omega)
  have p4 : ∀ h, meD .upper (.str v) [] h = .ok (.str s4) h := fun h => by
    rw [hs4]
    show (if v.length ≤ 5592405 then strD (Txt.upper v) h else R.bad) = _
    rw [if_pos (by omega)]
    exact if_pos (by have := PyProof.Rows.len_upper v; have : line = 16777216 := rfl; omega)
  have p5 : ∀ h, binop .add (.str v) (.str " ") h = .ok (.str s5) h := fun h => by rw [hs5]; exact op_addS (by rw [sp]; omega)
  have p6 : ∀ h, binop .add (.str v) (.str v) h = .ok (.str s6) h := fun h => by rw [hs6]; exact op_addS (by omega)
  obtain ⟨y1, h1⟩ : ∃ ys : List D, ys = [.str s1, .str s2] := ⟨_, rfl⟩
  obtain ⟨y2, h2⟩ : ∃ ys : List D, ys = [.str s3, .str s4, .str s5, .tup [.str v], .str "plus", .str "under"] := ⟨_, rfl⟩
  obtain ⟨y3, h3⟩ : ∃ ys : List D, ys = [.str "less", .str "number", .str "box", .str s6] := ⟨_, rfl⟩
  have k1 : y1.length = 2 := by rw [h1]; rfl
  have k2 : y2.length = 6 := by rw [h2]; rfl
  have k3 : y3.length = 4 := by rw [h3]; rfl
  obtain ⟨z1, hz1⟩ : ∃ z1, z1 = list15 a ++ y1 := ⟨_, rfl⟩
  obtain ⟨z2, hz2⟩ : ∃ z2, z2 = z1 ++ y2 := ⟨_, rfl⟩
  obtain ⟨z3, hz3⟩ : ∃ z3, z3 = z2 ++ y3 := ⟨_, rfl⟩
  have m1 : z1.length = 17 := by rw [hz1, List.length_append, k1]; rfl
  have m2 : z2.length = 23 := by rw [hz2, List.length_append, m1, k2]
  have m3 : z3.length = 27 := by rw [hz3, List.length_append, m2, k3]
  have a1 : binop .add (.ref u) (.ref H.length) (H ++ [.lst y1]) = .ok (.ref (H.length + 1)) (H ++ [.lst y1, .lst z1]) := by
    have := op_addL (h := H ++ [.lst y1]) (u := u) (w := H.length) (xs := list15 a) (ys := y1) (Ext.get ⟨_, rfl⟩ eu) get_mid (by rw [k1]; show 15 + 2 ≤ _; omega)
    rw [← hz1] at this
    simpa using this
  have a2 : binop .add (.ref (H.length + 1)) (.ref (H.length + 2)) (H ++ [.lst y1, .lst z1, .lst y2]) = .ok (.ref (H.length + 3)) (H ++ [.lst y1, .lst z1, .lst y2, .lst z2]) := by
    have := op_addL (h := H ++ [.lst y1, .lst z1, .lst y2]) (u := H.length + 1) (w := H.length + 2) (xs := z1) (ys := y2) get_app get_app (by omega)
    rw [← hz2] at this
    simpa using this
  have a3 : binop .add (.ref (H.length + 3)) (.ref (H.length + 4)) (H ++ [.lst y1, .lst z1, .lst y2, .lst z2, .lst y3]) = .ok (.ref (H.length + 5)) (H ++ [.lst y1, .lst z1, .lst y2, .lst z2, .lst y3, .lst z3]) := by
    have := op_addL (h := H ++ [.lst y1, .lst z1, .lst y2, .lst z2, .lst y3]) (u := H.length + 3) (w := H.length + 4) (xs := z2) (ys := y3) get_app get_app (by omega)
    rw [← hz3] at this
    simpa using this
  refine ⟨.int t, H.length + 5, H ++ [.lst y1, .lst z1, .lst y2, .lst z2, .lst y3, .lst z3], z3, ?_, ⟨_, rfl⟩, get_app, (fun z => by rw [z] at m3; cases m3), by omega, ?_⟩
  · simp [bKinds, isTy, q1, q2, ← hA, ← hB, ← hC, p0, p1, p2, p3, p4, p5, p6, ← h1, ← h2, ← h3, k1, k2, k3, a1, a2, a3]
  · intro y hy
    have ext : Ext H (H ++ [.lst y1, .lst z1, .lst y2, .lst z2, .lst y3, .lst z3]) := ⟨_, rfl⟩
    generalize H ++ [.lst y1, .lst z1, .lst y2, .lst z2, .lst y3, .lst z3] = H' at ext ⊢
    have st : ∀ x : Str, x.length ≤ 3 * s + 2000 → ∀ m, Dat H' (3 * s + 2000) (b + 40) (3 * l + 5) m (.str x) := fun x hx m => Flat.dat (d := .str x) hx m
    rw [hz3, hz2, hz1, h1, h2, h3] at hy
    simp only [List.mem_append, List.mem_cons, List.mem_nil_iff, or_false] at hy
    rcases hy with ((hy | hy) | hy) | hy
    · exact list15_dat (ext.get ea) (ext.get ea1) (by omega) (by omega) (by omega) y hy
    · rcases hy with rfl | rfl
      · exact st _ (by omega) _
      · exact st _ (by omega) _
    · rcases hy with rfl | rfl | rfl | rfl | rfl | rfl
      · exact st _ (by omega) _
      · exact st _ (by omega) _
      · exact st _ (by omega) _
      · exact ⟨by show 1 ≤ _; omega, fun x hx => by
          simp only [List.mem_cons, List.mem_nil_iff, or_false] at hx
          subst hx
          exact st _ (by omega) _⟩
      · exact st _ (Nat.le_trans (by decide +kernel : (Str.ofString "plus").length ≤ 10) (by omega)) _
      · exact st _ (Nat.le_trans (by decide +kernel : (Str.ofString "under").length ≤ 10) (by omega)) _
    · rcases hy with rfl | rfl | rfl | rfl
      · exact st _ (Nat.le_trans (by decide +kernel : (Str.ofString "less").length ≤ 10) (by omega)) _
      · exact st _ (Nat.le_trans (by decide +kernel : (Str.ofString "number").length ≤ 10) (by omega)) _
      · exact st _ (Nat.le_trans (by decide +kernel : (Str.ofString "box").length ≤ 10) (by omega)) _
      · exact st _ (by omega) _
end
end IX
end

section
set_option Elab.async false
set_option linter.all false
set_option maxRecDepth 100000
set_option maxHeartbeats 4000000
/-! IX29: a thing changed at a place, as deep as may be. -/
namespace IX
open PySem
theorem base_eq {T : Tbl} {nx n : Nat} (hN : T.fn nx = some ⟨2, 4, bNext⟩) {h : Hh} {a c s b l m : Nat} {v : D} (d : Dr h a c) (hc : c < 900000) (hv : Src s b l m v) (hs : s ≤ 100000) (hb : b ≤ 1000) (hl : l ≤ 1000) {x2 x3 x4 x5 x6 : Option D} :
    ∃ y h', exec ⟨callF T (n + 1), T.meth, T.init⟩ (bBase nx) [some (.ref a), some v, x2, x3, x4, x5, x6] h = .ok (.rt y) h' ∧ Step a h h' ∧ Dr h' a (c + 3) ∧ Dat h' (3 * s + 2000) (b + 40) (3 * l + 5) (m + 3) y := by
  have la := d.lt
  obtain ⟨at_, o1, t0, t1, f1, _, d1, e1⟩ := next_eq (n := n) hN (z := 12) d (by omega) (by decide) (by decide)
  obtain ⟨li, o2, i0, i1, f2, _, d2, e2⟩ := next_eq (n := n) hN (z := 26) d1 (by omega) (by decide) (by decide)
  rw [List.set_set] at d2 e2
  obtain ⟨p, o3, p0, p1, f3, _, d3, e3⟩ := next_eq (n := n) hN (z := 64) d2 (by omega) (by decide) (by decide)
  rw [List.set_set] at d3 e3
  obtain ⟨ltr, el, ll⟩ : ∃ ltr : Str, (∀ h, idxD (.str "abcdefghijklmnopqrstuvwxyz") (.int li) h = .ok (.str ltr) h) ∧ ltr.length ≤ 1 := by
    have hi : li.toNat < (Str.ofString "abcdefghijklmnopqrstuvwxyz").cps.toList.length := by
      have : (Str.ofString "abcdefghijklmnopqrstuvwxyz").cps.toList.length = 26 := by decide +kernel
      omega
    refine ⟨⟨#[(Str.ofString "abcdefghijklmnopqrstuvwxyz").cps.toList[li.toNat]]⟩, fun h => ?_, Nat.le_refl 1⟩
    show (match L2.atI (Str.ofString "abcdefghijklmnopqrstuvwxyz").cps.toList li with
      | some c => R.ok (D.str ⟨#[c]⟩) h
      | none => .bad) = _
    rw [at_nat i0 (List.getElem?_eq_getElem hi)]
  obtain ⟨H, hH⟩ : ∃ H, H = h.set a o3 ++ [.lst [], .dic [], .lst (list15 h.length)] := ⟨_, rfl⟩
  have lh : (h.set a o3).length = h.length := List.length_set
  have eu : H[h.length + 2]? = some (.lst (list15 h.length)) := by rw [hH, ← lh]; exact get_app
  have ea : H[h.length]? = some (.lst []) := by rw [hH, ← lh]; exact get_mid
  have ea1 : H[h.length + 1]? = some (.dic []) := by rw [hH, ← lh]; exact get_app
  have stH : Step a h H := by rw [hH]; exact (Step.of_set f3).app
  have drH : Dr H a (c + 3) := by rw [hH]; exact d3.ext ⟨_, rfl⟩
  have km : ∀ m', Kinds ⟨callF T (n + 1), T.meth, T.init⟩ H (some (.ref a)) x2 v at_ p ltr (h.length + 2) s b l m' → m' = m → ∃ y h', exec ⟨callF T (n + 1), T.meth, T.init⟩ (bBase nx) [some (.ref a), some v, x2, x3, x4, x5, x6] h = .ok (.rt y) h' ∧ Step a h h' ∧ Dr h' a (c + 3) ∧ Dat h' (3 * s + 2000) (b + 40) (3 * l + 5) (m + 3) y := by
    intro m' ⟨x3', u', H', xs, ek, ext, eu', ne, lx, dt⟩ em
    subst em
    obtain ⟨y, my, et⟩ := tail_eq (P := ⟨callF T (n + 1), T.meth, T.init⟩) (x0 := some (.ref a)) (x1 := some v) (x2 := x2) (x3 := some x3') (x4 := some (.str ltr)) (p := p) eu' ne
    refine ⟨y, H', ?_, ?_, drH.ext ext, dt y my⟩
    · have l15 : (list15 h.length).length = 15 := rfl
      have q : [D.non, .bl true, .bl false, .int 0, .int 1, .int (-1), .str "", .str "x", .tup [], .ref h.length, .ref (h.length + 1), .tup [.str "number", .int 0], .tup [.str "box", .str "x"], .str "end", .tup [.str "box", .str "plus"]] = list15 h.length := rfl
      rw [hH] at ek
      simp [bBase, e1, e2, e3, el, q, l15, ek, et]
    · obtain ⟨o, f, e⟩ := stH
      exact ⟨o, f, e.trans ext⟩
  cases m with
  | zero =>
    cases v with
    | int i => exact km 0 (kinds_int hv hb eu ea ea1) rfl
    | str x => exact km 0 (kinds_str hv hs ll t0 eu ea ea1) rfl
    | _ => exact hv.elim
  | succ m =>
    cases v with
    | int i => exact km (m + 1) (kinds_int hv hb eu ea ea1) rfl
    | str x => exact km (m + 1) (kinds_str hv hs ll t0 eu ea ea1) rfl
    | tup xs => exact km (m + 1) (kinds_tup hv hl t0 eu ea ea1) rfl
    | _ => exact hv.elim
theorem changed_eq {T : Tbl} {f nx n : Nat} (hT : T.fn f = some ⟨2, 7, bChanged f nx⟩) (hN : T.fn nx = some ⟨2, 4, bNext⟩) {s b l : Nat} (hs : s ≤ 100000) (hb : b ≤ 1000) (hl : l ≤ 1000) :
    ∀ {m : Nat} {h : Hh} {a c : Nat} {v : D}, Dr h a c → c + 10 * m < 800000 → Src s b l m v →
      ∃ y h', callF T (n + m + 2) f [.ref a, v] h = .ok y h' ∧ Step a h h' ∧ Dr h' a (c + 5 * (m + 1)) ∧ Dat h' (3 * s + 2000) (b + 40) (3 * l + 5) (m + 3) y := by
  intro m
  induction m with
  | zero =>
    intro h a c v d hc hv
    have la := d.lt
    rw [callF_succ hT rfl]
    obtain ⟨w, o1, w0, w1, f1, _, d1, e1⟩ := next_eq (n := n) hN (z := 5) d (by omega) (by decide) (by decide)
    obtain ⟨y, h', eb, st, dr, dt⟩ := base_eq (n := n) hN (x2 := some (.int w)) (x3 := none) (x4 := none) (x5 := none) (x6 := none) d1 (by omega) hv hs hb hl
    have st2 : Step a h h' := (Step.of_set f1).trans la st
    obtain ⟨h2, eg, st3, dr3, dt3⟩ := st2.gc2 dr la dt
    refine ⟨y, h2, ?_, st3, dr3.mono (by omega), dt3⟩
    have nt : ∀ h, isTy v h .tuple = some false := fun h => by cases v <;> first | rfl | exact hv.elim
    simp [bChanged, IX.start, e1, nt, eb, eg]
  | succ m ih =>
    intro h a c v d hc hv
    have la := d.lt
    rw [callF_succ hT rfl]
    obtain ⟨w, o1, w0, w1, f1, _, d1, e1⟩ := next_eq (n := n + m + 1) hN (z := 5) d (by omega) (by decide) (by decide)
    -- nothing within is changed
    have base : (∀ L : Int, exec ⟨callF T (n + m + 2), T.meth, T.init⟩ (bChanged f nx) [some (.ref a), some v, none, none, none, none, none] h = exec ⟨callF T (n + m + 2), T.meth, T.init⟩ (bBase nx) [some (.ref a), some v, some (.int w), none, none, none, none] (h.set a o1)) →
        ∃ y h', leave h (exec ⟨callF T (n + m + 2), T.meth, T.init⟩ (bChanged f nx) [some (.ref a), some v, none, none, none, none, none] h) = .ok y h' ∧ Step a h h' ∧ Dr h' a (c + 5 * (m + 1 + 1)) ∧ Dat h' (3 * s + 2000) (b + 40) (3 * l + 5) (m + 1 + 3) y := by
      intro eq
      obtain ⟨y, h', eb, st, dr, dt⟩ := base_eq (n := n + m + 1) hN (x2 := some (.int w)) (x3 := none) (x4 := none) (x5 := none) (x6 := none) d1 (by omega) hv hs hb hl
      have st2 : Step a h h' := (Step.of_set f1).trans la st
      obtain ⟨h2, eg, st3, dr3, dt3⟩ := st2.gc2 dr la dt
      refine ⟨y, h2, ?_, st3, dr3.mono (by omega), dt3⟩
      rw [eq 0, eb]
      simp [eg]
    show ∃ y h', leave h (exec ⟨callF T (n + m + 2), T.meth, T.init⟩ (bChanged f nx) [some (.ref a), some v, none, none, none, none, none] h) = .ok y h' ∧ _
    cases v with
    | tup xs =>
      obtain ⟨L, hL⟩ : ∃ L : Int, L = (xs.length : Int) := ⟨_, rfl⟩
      have q1 : ∀ h, biD .len [.tup xs] h = .ok (.int L) h := fun h => by rw [hL]; rfl
      by_cases z : 0 < L
      · by_cases zw : 0 < w
        · have lx : xs.length ≤ l := hv.1
          obtain ⟨at_, o2, t0, t1, f2, _, d2, e2⟩ := next_eq (n := n + m + 1) hN (z := L) d1 (by omega) z (by omega)
          rw [List.set_set] at d2 e2
          have hi : at_.toNat < xs.length := by omega
          obtain ⟨y, h', er, st, dr, dt⟩ := ih d2 (by omega) (hv.2 _ (List.getElem_mem hi))
          have st2 : Step a h h' := (Step.of_set f2).trans la st
          have ix : ∀ h, idxD (.tup xs) (.int at_) h = .ok xs[at_.toNat] h := fun h => by
            show (match L2.atI xs at_ with
              | some c => R.ok c h
              | none => .bad) = _
            rw [at_nat t0 (List.getElem?_eq_getElem hi)]
          obtain ⟨A, hA⟩ : ∃ A, A = cutD xs none (some at_) := ⟨_, rfl⟩
          obtain ⟨B, hB⟩ : ∃ B, B = cutD xs (some (at_ + 1)) none := ⟨_, rfl⟩
          have lA : A.length ≤ xs.length := by rw [hA]; exact cut_lenD
          have lB : B.length ≤ xs.length := by rw [hB]; exact cut_lenD
          have p1 : ∀ h, binop .add (.tup A) (.tup [y]) h = .ok (.tup (A ++ [y])) h := fun h => op_addT (by show _ + 1 ≤ _; omega)
          have p2 : ∀ h, binop .add (.tup (A ++ [y])) (.tup B) h = .ok (.tup (A ++ y :: B)) h := fun h => by
            have := op_addT (h := h) (xs := A ++ [y]) (ys := B) (by rw [List.length_append]; show _ + 1 + _ ≤ _; omega)
            simpa using this
          have dt2 : Dat h' (3 * s + 2000) (b + 40) (3 * l + 5) (m + 1 + 3) (.tup (A ++ y :: B)) := by
            refine ⟨by rw [List.length_append, List.length_cons]; omega, fun x hx => ?_⟩
            have old : x ∈ xs → Dat h' (3 * s + 2000) (b + 40) (3 * l + 5) (m + 3) x := fun mx => Dat.mono (PK.refl (h := h')) (by omega) (by omega) (by omega) (by omega) ((hv.2 x mx).dat (h := h'))
            rcases List.mem_append.mp hx with hx | hx
            · exact old (by rw [hA] at hx; exact cut_sub x hx)
            · rcases List.mem_cons.mp hx with rfl | hx
              · exact dt
              · exact old (by rw [hB] at hx; exact cut_sub x hx)
          obtain ⟨h2, eg, st3, dr3, dt3⟩ := st2.gc2 dr la dt2
          refine ⟨_, h2, ?_, st3, dr3.mono (by omega), dt3⟩
          simp [bChanged, e1, isTy, q1, z, zw, e2, ix, er, ← hA, ← hB, p1, p2, eg]
        · exact base fun _ => by simp [bChanged, e1, isTy, q1, z, zw]
      · exact base fun _ => by simp [bChanged, e1, isTy, q1, z]
    | int i => exact base fun _ => by simp [bChanged, e1, isTy]
    | str x => exact base fun _ => by simp [bChanged, e1, isTy]
    | _ => exact hv.elim
end IX
end

section
set_option Elab.async false
set_option linter.all false
set_option maxRecDepth 100000
set_option maxHeartbeats 4000000
/-! IX30: comprehensions that draw and make; equality with texts. -/
namespace IX
open PySem
section
open Classical
/-- a comprehension whose turns draw at a and make new things -/
theorem turns_step {f : D → Hh → R (Option D)} {xs0 : List D} {a m B : Nat} {I : Hh → Prop} {Pv : Hh → D → Prop} (hm : 0 < m) (hI : ∀ h h' c, I h → Step a h h' → Dr h' a c → I h') (hP : ∀ h h' c v, Pv h v → Step a h h' → Dr h' a c → Pv h' v) : ∀ {xs : List D} {h : Hh} {c : Nat}, (∀ x ∈ xs, ∀ h c, Dr h a c → c < B → I h → ∃ v h', f x h = .ok (some v) h' ∧ Step a h h' ∧ Dr h' a (c + m) ∧ Pv h' v) → Dr h a c → I h → c + m * xs.length ≤ B →
    ∃ vs h', turns f ⟨xs0, none⟩ xs h = .ok vs h' ∧ vs.length = xs.length ∧ Step a h h' ∧ Dr h' a (c + m * xs.length) ∧ ∀ v ∈ vs, Pv h' v
  | [], h, c, _, d, _, _ => ⟨[], h, by exact if_pos (show Its.stands ⟨xs0, none⟩ h from trivial), rfl, Step.refl d, d, by simp⟩
  | x :: r, h, c, st, d, i, hb => by
    have hc : c < B := by
      rw [List.length_cons, Nat.mul_add, Nat.mul_one] at hb
      omega
    obtain ⟨v, h1, e1, s1, d1, p1⟩ := st x List.mem_cons_self h c d hc i
    have hb2 : c + m + m * r.length ≤ B := by
      rw [List.length_cons, Nat.mul_add, Nat.mul_one] at hb
      omega
    obtain ⟨vs, h2, e2, lv, s2, d2, p2⟩ := turns_step (xs0 := xs0) hm hI hP (xs := r) (fun y hy => st y (List.mem_cons_of_mem _ hy)) d1 (hI h h1 _ i s1 d1) hb2
    refine ⟨v :: vs, h2, ?_, congrArg Nat.succ lv, s1.trans d.lt s2, ?_, fun y hy => ?_⟩
    · show (if Its.stands ⟨xs0, none⟩ h then (f x h).bind _ else _) = _
      rw [if_pos (show Its.stands ⟨xs0, none⟩ h from trivial), e1]
      show ((turns f ⟨xs0, none⟩ r h1).bind _) = _
      rw [e2]; rfl
    · have : c + m * (x :: r).length = c + m + m * r.length := by rw [List.length_cons, Nat.mul_add, Nat.mul_one]; omega
      rw [this]; exact d2
    · rcases List.mem_cons.mp hy with rfl | hy
      · exact hP h1 h2 _ _ p1 s2 d2
      · exact p2 y hy
end
/-! ### equality with a text -/
@[simp] theorem eqT_int {h : Hh} {a b : Int} : eqT h (.int a) (.int b) = some (a == b) := rfl
@[simp] theorem neT_int {h : Hh} {a b : Int} : neT h (.int a) (.int b) = some (!(a == b)) := rfl
@[simp] theorem neT_bl {h : Hh} {a b : Bool} : neT h (.bl a) (.bl b) = some (!(a == b)) := rfl
@[simp] theorem idx_tup0 {h : Hh} {x : D} {r : List D} : idxD (.tup (x :: r)) (.int 0) h = .ok x h := by
  show (match L2.atI (x :: r) 0 with
    | some v => R.ok v h
    | none => .bad) = _
  rw [at0]
@[simp] theorem idx_tup1 {h : Hh} {x y : D} {r : List D} : idxD (.tup (x :: y :: r)) (.int 1) h = .ok y h := by
  show (match L2.atI (x :: y :: r) 1 with
    | some v => R.ok v h
    | none => .bad) = _
  rw [at1]
@[simp] theorem idx_tup2 {h : Hh} {x y z : D} {r : List D} : idxD (.tup (x :: y :: z :: r)) (.int 2) h = .ok z h := by
  show (match L2.atI (x :: y :: z :: r) 2 with
    | some v => R.ok v h
    | none => .bad) = _
  rw [at2]
def sB (w : Str) : D → Bool
  | .str y => y == w
  | _ => false
theorem plain_map {h : Hh} {a : Nat} {o : O} (e : h[a]? = some o) (p : o.plain = true) : (h[a]?.map O.plain) = some true := by rw [e]; exact congrArg some p
theorem eqs_r {h : Hh} {s b l m n : Nat} {x : D} {w : Str} (d : Dat h s b l m x) : eqD h (n + 1) x (.str w) = some (sB w x) := by
  have fl : ∀ a, Flat h s b (.ref a) → eqD h (n + 1) (.ref a) (.str w) = some false := fun a ⟨o, e, p⟩ => by
    show (if (h[a]?.map O.plain) = some true then some false else none) = _
    rw [if_pos (plain_map e p)]
  cases x with
  | lck q => cases m <;> exact (show Flat h s b (.lck q) from d).elim
  | ref a => cases m <;> exact fl a d
  | _ => rfl
theorem eqs_l {h : Hh} {s b l m n : Nat} {x : D} {w : Str} (d : Dat h s b l m x) : eqD h (n + 1) (.str w) x = some (sB w x) := by
  have fl : ∀ a, Flat h s b (.ref a) → eqD h (n + 1) (.str w) (.ref a) = some false := fun a ⟨o, e, p⟩ => by
    show (if (h[a]?.map O.plain) = some true then some false else none) = _
    rw [if_pos (plain_map e p)]
  cases x with
  | lck q => cases m <;> exact (show Flat h s b (.lck q) from d).elim
  | ref a => cases m <;> exact fl a d
  | str y => show some (w == y) = some (y == w); rw [Bool.beq_comm]
  | _ => rfl
theorem eqT_str {h : Hh} {s b l m : Nat} {x : D} {w : Str} (d : Dat h s b l m x) : eqT h x (.str w) = some (sB w x) := by
  have e : eqT h x (.str w) = eqD h 60 x (.str w) := by cases x <;> rfl
  rw [e]; exact eqs_r d
theorem any_lits {h : Hh} {s b l m : Nat} {x : D} (d : Dat h s b l m x) : ∀ ws : List Str, anyD h x (ws.map D.str) = some (ws.any fun w => sB w x)
  | [] => rfl
  | w :: r => by
    show (match eqD h 60 (.str w) x, anyD h x (r.map D.str) with
      | some a, some b => some (a || b)
      | _, _ => none) = _
    rw [any_lits d r, eqs_l d]; rfl
theorem Dat.thing {h : Hh} {s b l m : Nat} {x : D} (hs : s ≤ 16777216) (d : Dat h s b l m x) : Thing h x := by
  cases x with
  | lck q => cases m <;> exact (show Flat h s b (.lck q) from d).elim
  | ref a => cases m <;> exact d
  | str y =>
    have : y.length ≤ s := by cases m <;> exact d
    exact Nat.le_trans this hs
  | _ => trivial
theorem Dat.item {h : Hh} {s b l m : Nat} {xs : List D} (d : Dat h s b l m (.tup xs)) : ∀ x ∈ xs, Dat h s b l m x := by
  cases m with
  | zero => exact d.elim
  | succ m => exact fun x hx => Dat.mono (PK.refl (h := h)) (Nat.le_refl _) (Nat.le_refl _) (Nat.le_refl _) (Nat.le_succ m) (d.2 x hx)
theorem isTup {h : Hh} {s b l m : Nat} {x : D} (d : Dat h s b l m x) : isTy x h .tuple = some (match x with | .tup _ => true | _ => false) := by
  cases x with
  | lck _ => rfl
  | ref a =>
    obtain ⟨o, e, p⟩ : ∃ o : O, h[a]? = some o ∧ o.plain = true := by cases m <;> exact d
    cases o with
    | ins _ _ => cases p
    | _ => simp only [isTy, e]
  | _ => rfl
end IX
end

section
set_option Elab.async false
set_option linter.all false
set_option maxRecDepth 100000
set_option maxHeartbeats 4000000
/-! IX31: a law over the script's cells. -/
namespace IX
open PySem
def bLaw (f : Nat) (most : Int) : IX.S := (.seq (.loop [1, 2] true (.enum (.slc (.bop .add (.loc 0) (.lst (.cons (.cst (.int 3)) .nil))) .nil (.bi .max (.cons (.cst (.int 1)) (.cons (.bi .min (.cons (.cst (.int most)) (.cons (.bi .len (.cons (.loc 0) .nil)) .nil))) .nil))))) (.seq (.ite (.not (.call f (.cons (.loc 2) (.cons (.loc 1) .nil)))) (.seq (.ret (.cst (.bl false)))
    .skip) .skip)
    .skip))
    (.seq (.ret (.cst (.bl true)))
    .skip))
theorem law_gen {T : Tbl} {f g n : Nat} {most : Int} (hT : T.fn g = some ⟨1, 3, bLaw f most⟩) (right : ∀ (h : Hh) (cell k : Int), 0 ≤ k → k ≤ 1000000 → callF T n f [.int cell, .int k] h = .ok (.bl true) h) : ∀ ns : List Int, ns.length ≤ 63 → ∃ h', callF T (n + 1) g [.lck (ns.map D.int)] [] = .ok (.bl true) h' := by
  intro ns hl
  rw [callF_succ hT rfl]
  obtain ⟨zs, hz⟩ : ∃ zs : List D, zs = ns.map D.int ++ [.int 3] := ⟨_, rfl⟩
  have lz : zs.length ≤ 64 := by rw [hz]; simp; omega
  obtain ⟨L, hL⟩ : ∃ L : Int, L = ((ns.map D.int).length : Int) := ⟨_, rfl⟩
  have q1 : ∀ h, biD .len [.lck (ns.map D.int)] h = .ok (.int L) h := fun h => by rw [hL]; rfl
  obtain ⟨m, hm⟩ : ∃ m : Int, ∀ h, biD .max [.int 1, .int (if L < most then L else most)] h = .ok (.int m) h := ⟨_, fun _ => rfl⟩
  have q2 : ∀ h, biD .min [.int most, .int L] h = .ok (.int (if L < most then L else most)) h := fun _ => rfl
  have ad : binop .add (.lck (ns.map D.int)) (.ref 0) [.lst [.int 3]] = .ok (.ref 1) [.lst [.int 3], .lst zs] := by
    rw [hz]
    show (if (ns.map D.int).length + [D.int 3].length ≤ line then R.new (.lst (ns.map D.int ++ [D.int 3])) [.lst [.int 3]] else R.bad) = _
    rw [if_pos (by simp; have : line = 16777216 := rfl; omega)]
    rfl
  have sl : slcD (.ref 1) none (some m) [.lst [.int 3], .lst zs] = .ok (.ref 2) [.lst [.int 3], .lst zs, .lst (cutD zs none (some m))] := rfl
  have lc : (cutD zs none (some m)).length ≤ 64 := by
    unfold cutD
    rw [List.length_take, List.length_drop]
    omega
  have mc : ∀ x ∈ cutD zs none (some m), ∃ i : Int, x = .int i := fun x hx => by
    have h1 : x ∈ zs := List.mem_of_mem_drop (List.mem_of_mem_take hx)
    rw [hz] at h1
    rcases List.mem_append.mp h1 with h1 | h1
    · obtain ⟨i, _, rfl⟩ := List.mem_map.mp h1; exact ⟨i, rfl⟩
    · simp at h1; exact ⟨3, h1⟩
  obtain ⟨cs, hcs⟩ : ∃ cs, cs = cutD zs none (some m) := ⟨_, rfl⟩
  rw [← hcs] at sl lc mc
  have it : evalIt ⟨callF T n, T.meth, T.init⟩ (.enum (.slc (.bop .add (.loc 0) (.lst (.cons (.cst (.int 3)) .nil))) .nil (.bi .max (.cons (.cst (.int 1)) (.cons (.bi .min (.cons (.cst (.int most)) (.cons (.bi .len (.cons (.loc 0) .nil)) .nil))) .nil))))) [some (.lck (ns.map D.int)), none, none] []
      = .ok ⟨enumFrom 0 cs, some (2, .lst cs)⟩ [.lst [.int 3], .lst zs, .lst cs] :=
    it_enumD (x := .ref 2) (by simp [ad, q1, q2, hm, sl]) rfl
  obtain ⟨σ', h', e, hh⟩ := loop_inv (f := lpF ⟨callF T n, T.meth, T.init⟩ [1, 2] true (.seq (.ite (.not (.call f (.cons (.loc 2) (.cons (.loc 1) .nil)))) (.seq (.ret (.cst (.bl false))) .skip) .skip) .skip)) (t := ⟨enumFrom 0 cs, some (2, .lst cs)⟩)
    (I := fun σ H => (∃ x1 x2, σ = [some (.lck (ns.map D.int)), x1, x2]) ∧ H = [.lst [.int 3], .lst zs, .lst cs]) (fun σ H i => by rw [i.2]; rfl) (xs := enumFrom 0 cs) (σ := [some (.lck (ns.map D.int)), none, none]) (h := [.lst [.int 3], .lst zs, .lst cs])
    (fun x hx σ H ⟨⟨x1, x2, e⟩, eH⟩ => by
      subst e eH
      obtain ⟨k, y, rfl, my, _, lk⟩ := enum_mem hx
      obtain ⟨i, rfl⟩ := mc y my
      have r := right [.lst [.int 3], .lst zs, .lst cs] i (k : Int) (by omega) (by omega)
      refine ⟨[some (.lck (ns.map D.int)), some (.int k), some (.int i)], [.lst [.int 3], .lst zs, .lst cs], ?_, ⟨some (.int k), some (.int i), rfl⟩, rfl⟩
      rw [lpF_tup (σ1 := [some (.lck (ns.map D.int)), some (.int k), some (.int i)]) rfl]
      simp [r]) ⟨⟨_, _, rfl⟩, rfl⟩
  refine ⟨IX.gc [] (.bl true) h', ?_⟩
  have el := ex_loop (P := ⟨callF T n, T.meth, T.init⟩) it e
  show leave [] (exec ⟨callF T n, T.meth, T.init⟩ (bLaw f most) [some (.lck (ns.map D.int)), none, none] []) = _
  simp only [bLaw, ex_seq]
  rw [el]
  simp
end IX
end

section
set_option Elab.async false
set_option linter.all false
set_option maxRecDepth 100000
set_option maxHeartbeats 4000000
/-! IX32: names and terms drawn. -/
namespace IX
open PySem
def bNames (nx pk : Nat) : IX.S := (.seq (.set 2 (.cst (.str "abcdefghijklmnopqrstuvwxyz")))
    (.seq (.set 3 (.call nx (.cons (.loc 0) (.cons (.cst (.int 26)) .nil))))
    (.seq (.set 4 (.call pk (.cons (.loc 0) (.cons (.lst (.cons (.cst (.str "x")) (.cons (.cst (.str "")) (.cons (.cst (.str "qxqx")) (.cons (.bop .add (.idx (.loc 2) (.call nx (.cons (.loc 0) (.cons (.cst (.int 26)) .nil)))) (.cst (.str "xx"))) (.cons (.cst (.str "qxqxq")) .nil)))))) .nil))))
    (.seq (.ret (.lc (.bop .add (.idx (.loc 2) (.bop .mod (.bop .add (.loc 3) (.bop .mul (.cst (.int 5)) (.loc 5))) (.cst (.int 26)))) (.loc 4)) [5] false (.rng1 (.loc 1)) .nil))
    .skip))))
theorem letter_at {i : Int} (i0 : 0 ≤ i) (i1 : i < 26) : ∃ s : Str, (∀ h, idxD (.str "abcdefghijklmnopqrstuvwxyz") (.int i) h = .ok (.str s) h) ∧ s.length = 1 := by
  have hi : i.toNat < (Str.ofString "abcdefghijklmnopqrstuvwxyz").cps.toList.length := by
    have : (Str.ofString "abcdefghijklmnopqrstuvwxyz").cps.toList.length = 26 := by decide +kernel
    omega
  refine ⟨⟨#[(Str.ofString "abcdefghijklmnopqrstuvwxyz").cps.toList[i.toNat]]⟩, fun h => ?_, rfl⟩
  show (match L2.atI (Str.ofString "abcdefghijklmnopqrstuvwxyz").cps.toList i with
    | some c => R.ok (D.str ⟨#[c]⟩) h
    | none => .bad) = _
  rw [at_nat i0 (List.getElem?_eq_getElem hi)]
theorem range_mem {x : D} : ∀ {n : Nat} {lo : Int}, x ∈ rangeL lo n → ∃ i : Int, x = .int i ∧ lo ≤ i ∧ i < lo + n
  | 0, _, h => nomatch h
  | n + 1, lo, h => by
    rcases List.mem_cons.mp h with rfl | h
    · exact ⟨lo, rfl, by omega, by omega⟩
    · obtain ⟨i, e, h1, h2⟩ := range_mem h
      exact ⟨i, e, by omega, by omega⟩
theorem fm_all {g : D → Option D} {Q : D → Prop} : ∀ {xs : List D}, (∀ x ∈ xs, ∃ y, g x = some y ∧ Q y) → (xs.filterMap g).length = xs.length ∧ ∀ y ∈ xs.filterMap g, Q y
  | [], _ => ⟨rfl, by simp⟩
  | x :: r, h => by
    obtain ⟨y, e, q⟩ := h x List.mem_cons_self
    obtain ⟨l, a⟩ := fm_all (xs := r) fun z hz => h z (List.mem_cons_of_mem _ hz)
    rw [List.filterMap_cons_some e]
    exact ⟨congrArg Nat.succ l, fun z hz => by rcases List.mem_cons.mp hz with rfl | hz; exact q; exact a z hz⟩
theorem names_eq {T : Tbl} {f nx pk n : Nat} (hT : T.fn f = some ⟨2, 6, bNames nx pk⟩) (hP : T.fn pk = some ⟨2, 2, bPick nx⟩) (hN : T.fn nx = some ⟨2, 4, bNext⟩) {h : Hh} {a c : Nat} {m : Int} (d : Dr h a c) (hc : c < 900000) (m0 : 0 ≤ m) (m1 : m ≤ 1000) :
    ∃ (u : Nat) (h' : Hh) (ws : List Str), callF T (n + 3) f [.ref a, .int m] h = .ok (.ref u) h' ∧ Step a h h' ∧ Dr h' a (c + 3) ∧ h'[u]? = some (.lst (ws.map D.str)) ∧ a ≠ u ∧ ws.length = m.toNat ∧ ∀ w ∈ ws, w.length ≤ 6 := by
  rw [callF_succ hT rfl]
  have la := d.lt
  obtain ⟨ld, o1, l0, l1, f1, _, d1, e1⟩ := next_eq (n := n + 1) hN (z := 26) d (by omega) (by decide) (by decide)
  obtain ⟨li, o2, i0, i1, f2, _, d2, e2⟩ := next_eq (n := n + 1) hN (z := 26) d1 (by omega) (by decide) (by decide)
  rw [List.set_set] at d2 e2
  obtain ⟨lt, elt, llt⟩ := letter_at i0 i1
  have xx : (Str.ofString "xx").length = 2 := by decide +kernel
  obtain ⟨t3, ht3⟩ : ∃ t3, t3 = lt ++ Str.ofString "xx" := ⟨_, rfl⟩
  have p3 : ∀ h, binop .add (.str lt) (.str "xx") h = .ok (.str t3) h := fun h => by rw [ht3]; exact op_addS (by omega)
  obtain ⟨xs, hxs⟩ : ∃ xs : List D, xs = [.str "x", .str "", .str "qxqx", .str t3, .str "qxqxq"] := ⟨_, rfl⟩
  have lxs : xs.length = 5 := by rw [hxs]; rfl
  have lh : (h.set a o2).length = h.length := List.length_set
  have g1 : (h.set a o2 ++ [O.lst xs])[h.length]? = some (.lst xs) := by rw [← lh]; exact get_new
  obtain ⟨y, o3, my, f3, _, d3, e3⟩ := pick_lst (n := n) hP hN (d2.ext (h' := h.set a o2 ++ [O.lst xs]) ⟨_, rfl⟩) (by omega) g1 (by omega) (by intro z; rw [z] at lxs; cases lxs) (by rw [lxs]; decide)
  obtain ⟨tail, rfl, ltl⟩ : ∃ tail : Str, y = .str tail ∧ tail.length ≤ 5 := by
    rw [hxs] at my
    simp only [List.mem_cons, List.mem_nil_iff, or_false] at my
    rcases my with rfl | rfl | rfl | rfl | rfl
    · exact ⟨_, rfl, by decide +kernel⟩
    · exact ⟨_, rfl, by decide +kernel⟩
    · exact ⟨_, rfl, by decide +kernel⟩
    · exact ⟨_, rfl, by rw [ht3, str_len_app]; omega⟩
    · exact ⟨_, rfl, by decide +kernel⟩
  obtain ⟨H, hH⟩ : ∃ H, H = (h.set a o2 ++ [O.lst xs]).set a o3 := ⟨_, rfl⟩
  rw [← hH] at d3 e3
  have stH : Step a h H := by rw [hH]; exact Step.trans la ((Step.of_set f2).app) (Step.of_set f3)
  -- one name
  have one : ∀ i : Int, ∃ s : Str, s.length ≤ 6 ∧ ∀ h x0 x1, lcF ⟨callF T (n + 2), T.meth, T.init⟩ (.bop .add (.idx (.loc 2) (.bop .mod (.bop .add (.loc 3) (.bop .mul (.cst (.int 5)) (.loc 5))) (.cst (.int 26)))) (.loc 4)) [5] false .nil [x0, x1, some (.str "abcdefghijklmnopqrstuvwxyz"), some (.int ld), some (.str tail), none] (.int i) h = .ok (some (.str s)) h := fun i => by
    obtain ⟨s, es, ls⟩ := letter_at (i := (ld + 5 * i) % 26) (Int.emod_nonneg _ (by decide)) (Int.emod_lt_of_pos _ (by decide))
    have pm : ∀ h, binop .mul (.int 5) (.int i) h = .ok (.int (5 * i)) h := fun h => op_mulV rfl (.inl (by decide))
    have pa : ∀ h, binop .add (.str s) (.str tail) h = .ok (.str (s ++ tail)) h := fun h => op_addS (by omega)
    refine ⟨s ++ tail, by rw [str_len_app]; omega, fun h x0 x1 => ?_⟩
    simp [wipeD, pm, op_modI, es, pa]
  have tp := turns_pure (f := lcF ⟨callF T (n + 2), T.meth, T.init⟩ (.bop .add (.idx (.loc 2) (.bop .mod (.bop .add (.loc 3) (.bop .mul (.cst (.int 5)) (.loc 5))) (.cst (.int 26)))) (.loc 4)) [5] false .nil [some (.ref a), some (.int m), some (.str "abcdefghijklmnopqrstuvwxyz"), some (.int ld), some (.str tail), none])
    (t := ⟨rangeL 0 m.toNat, none⟩) (h := H) trivial (fun x => match x with
    | .int i => some (.str (Classical.choose (one i)))
    | _ => none) (xs := rangeL 0 m.toNat) (fun x hx => by
      obtain ⟨i, rfl, _⟩ := range_mem hx
      exact (Classical.choose_spec (one i)).2 H _ _)
  obtain ⟨fl, fa⟩ := fm_all (g := fun x => match x with
    | .int i => some (.str (Classical.choose (one i)))
    | _ => none) (Q := fun y => ∃ s : Str, y = .str s ∧ s.length ≤ 6) (xs := rangeL 0 m.toNat) (fun x hx => by
      obtain ⟨i, rfl, _⟩ := range_mem hx
      exact ⟨_, rfl, _, rfl, (Classical.choose_spec (one i)).1⟩)
  obtain ⟨ws, ews, lws⟩ := strs_of fa
  rw [ews] at tp fl
  rw [List.length_map, rangeL_len] at fl
  have lc := ev_lc (P := ⟨callF T (n + 2), T.meth, T.init⟩) (it := .rng1 (.loc 1)) (it_rng1 (j := m) (h := H) rfl (by unfold small; simp; omega)) (by show (rangeL 0 m.toNat).length ≤ line; rw [rangeL_len]; have : line = 16777216 := rfl; omega) tp
  refine ⟨H.length, H ++ [.lst (ws.map D.str)], ws, ?_, stH.app, (d3.ext ⟨_, rfl⟩).mono (by omega), get_new, by have := stH.len; omega, fl, lws⟩
  simp [bNames, IX.start, e1, e2, elt, p3, ← hxs, lxs, e3, lc, gc_ref]
end IX
end

section
set_option Elab.async false
set_option linter.all false
set_option maxRecDepth 100000
set_option maxHeartbeats 4000000
/-! IX33: terms drawn. -/
namespace IX
open PySem
def bTerm (self nx pk nb : Nat) : IX.S := (.seq (.set 4 (.call nx (.cons (.loc 0) (.cons (.cst (.int 7)) .nil))))
    (.seq (.ite (.or (.bop .eq (.loc 3) (.cst (.int 0))) (.bop .lt (.loc 4) (.cst (.int 4)))) (.seq (.ite (.bop .eq (.bop .mod (.loc 4) (.cst (.int 2))) (.cst (.int 0))) (.seq (.ret (.tup (.cons (.cst (.str "box")) (.cons (.call pk (.cons (.loc 0) (.cons (.loc 2) .nil))) .nil))))
    .skip) .skip)
    (.seq (.ret (.tup (.cons (.cst (.str "number")) (.cons (.call nb (.cons (.loc 0) (.cons (.loc 1) .nil))) .nil))))
    .skip)) .skip)
    (.seq (.set 5 (.call pk (.cons (.loc 0) (.cons (.lst (.cons (.cst (.str "plus")) (.cons (.cst (.str "less")) (.cons (.cst (.str "times")) (.cons (.cst (.str "part")) (.cons (.cst (.str "under")) (.cons (.cst (.str "same")) (.cons (.cst (.str "plus")) (.cons (.cst (.str "under")) .nil))))))))) .nil))))
    (.seq (.set 6 (.call self (.cons (.loc 0) (.cons (.loc 1) (.cons (.loc 2) (.cons (.bop .sub (.loc 3) (.cst (.int 1))) .nil))))))
    (.seq (.ret (.tup (.cons (.loc 5) (.cons (.loc 6) (.cons (.call self (.cons (.loc 0) (.cons (.loc 1) (.cons (.loc 2) (.cons (.bop .sub (.loc 3) (.cst (.int 1))) .nil))))) .nil)))))
    .skip)))))
/-- a term: names of 6 signs, numbers within the top -/
inductive Term (top : Int) (ws : List Str) : Nat → D → Prop
  | box {m : Nat} {w : Str} : w ∈ ws → Term top ws m (.tup [.str "box", .str w])
  | num {m : Nat} {i : Int} : 0 ≤ i → i ≤ top → Term top ws m (.tup [.str "number", .int i])
  | two {m : Nat} {w : Str} {x y : D} : w ∈ (["plus", "less", "times", "part", "under", "same"] : List Str) → Term top ws m x → Term top ws m y → Term top ws (m + 1) (.tup [.str w, x, y])
theorem Term.pure {top : Int} {ws : List Str} {m : Nat} {t : D} (h : Term top ws m t) : t.pure = true := by
  induction h with
  | box _ => rfl
  | num _ _ => rfl
  | two _ _ _ ih1 ih2 => simp [D.pure, D.pureL, ih1, ih2]
theorem Term.src {top : Int} {ws : List Str} {m : Nat} {t : D} (h : Term top ws m t) (hw : ∀ w ∈ ws, w.length ≤ 6) (ht : top ≤ 1000000000) : Src 6 31 3 (m + 1) t := by
  induction h with
  | @box m w mw => exact ⟨show 2 ≤ 3 by decide, fun x hx => by
      simp only [List.mem_cons, List.mem_nil_iff, or_false] at hx
      rcases hx with rfl | rfl
      · cases m <;> exact (by decide +kernel : (Str.ofString "box").length ≤ 6)
      · cases m <;> exact hw _ mw⟩
  | @num m i i0 i1 => exact ⟨show 2 ≤ 3 by decide, fun x hx => by
      simp only [List.mem_cons, List.mem_nil_iff, or_false] at hx
      rcases hx with rfl | rfl
      · cases m <;> exact (by decide +kernel : (Str.ofString "number").length ≤ 6)
      · have : i.natAbs < 2 ^ 31 := by show _ < 2147483648; omega
        cases m <;> exact this⟩
  | @two m w x y mw _ _ ih1 ih2 => exact ⟨show 3 ≤ 3 by decide, fun z hz => by
      simp only [List.mem_cons, List.mem_nil_iff, or_false] at hz
      rcases hz with rfl | rfl | rfl
      · exact (by decide +kernel : ∀ w ∈ (["plus", "less", "times", "part", "under", "same"] : List Str), w.length ≤ 6) w mw
      · exact ih1
      · exact ih2⟩
/-- how often a term draws at most -/
def tC : Nat → Nat
  | 0 => 3
  | m + 1 => 2 * tC m + 2
theorem tC_succ (m : Nat) : tC (m + 1) = 2 * tC m + 2 := rfl
theorem tC_ge : ∀ m, 3 ≤ tC m
  | 0 => Nat.le_refl _
  | m + 1 => by unfold tC; have := tC_ge m; omega
theorem term_eq {T : Tbl} {f nx pk nb n : Nat} (hT : T.fn f = some ⟨4, 7, bTerm f nx pk nb⟩) (hP : T.fn pk = some ⟨2, 2, bPick nx⟩) (hN : T.fn nx = some ⟨2, 4, bNext⟩) (hB : T.fn nb = some ⟨2, 4, bNumber nx⟩) {a u : Nat} {top : Int} {ws : List Str} (t0 : 0 ≤ top) (nu : a ≠ u) (nw : ws ≠ []) (lw : ws.length ≤ 1000) :
    ∀ {m : Nat} {h : Hh} {c : Nat}, Dr h a c → c + tC m ≤ 800000 → h[u]? = some (.lst (ws.map D.str)) →
      ∃ (t : D) (o : O), Term top ws m t ∧ o.flat = true ∧ Dr (h.set a o) a (c + tC m) ∧ callF T (n + m + 3) f [.ref a, .int top, .ref u, .int (m : Int)] h = .ok t (h.set a o) := by
  intro m
  -- a leaf
  have leaf : ∀ (k m : Nat) (h : Hh) (c : Nat) (o1 : O) (w : Int) (q : Int), Dr (h.set a o1) a (c + 1) → Dr h a c → c + 3 ≤ 800000 → h[u]? = some (.lst (ws.map D.str)) → 0 ≤ w → callF T (n + k + 2) nx [.ref a, .int 7] h = .ok (.int w) (h.set a o1) → (q = 0 ∨ w < 4) →
      ∃ (t : D) (o : O), Term top ws m t ∧ o.flat = true ∧ Dr (h.set a o) a (c + 3) ∧ leave h (exec ⟨callF T (n + k + 2), T.meth, T.init⟩ (bTerm f nx pk nb) [some (.ref a), some (.int top), some (.ref u), some (.int q), none, none, none] h) = .ok t (h.set a o) := by
    intro k m h c o1 w q d1 d hc hu w0 e1 hq
    have cond : ((q == 0) = true ∨ ((q == 0) = false ∧ w < 4)) := by
      by_cases z : q = 0
      · exact .inl (by simpa using z)
      · exact .inr ⟨by simpa using z, by rcases hq with h | h; exact absurd h z; exact h⟩
    have q2 : ∀ h, binop .mod (.int w) (.int 2) h = .ok (.int (w % 2)) h := fun h => op_modI (by decide)
    by_cases par : w % 2 = 0
    · obtain ⟨y, o2, my, f2, _, d2, e2⟩ := pick_lst (n := n + k) hP hN d1 (by omega) (set_other nu hu) nu (by simpa using nw) (by rw [List.length_map]; have : line = 16777216 := rfl; omega)
      rw [List.set_set] at d2 e2
      obtain ⟨s, ms, rfl⟩ := List.mem_map.mp my
      refine ⟨_, o2, .box ms, f2, d2.mono (by omega), ?_⟩
      rcases cond with c1 | ⟨c1, c2⟩
      · simp [bTerm, e1, c1, q2, par, e2]
      · simp [bTerm, e1, c1, c2, q2, par, e2]
    · obtain ⟨i, o2, i0, i1, f2, _, d2, e2⟩ := number_eq (n := n + k) hB hN d1 (by omega) t0
      rw [List.set_set] at d2 e2
      have hp : (w % 2 == 0) = false := by simpa using par
      refine ⟨_, o2, .num i0 i1, f2, d2.mono (by omega), ?_⟩
      rcases cond with c1 | ⟨c1, c2⟩
      · simp [bTerm, e1, c1, q2, hp, e2]
      · simp [bTerm, e1, c1, c2, q2, hp, e2]
  induction m with
  | zero =>
    intro h c d hc hu
    rw [callF_succ hT rfl]
    obtain ⟨w, o1, w0, w1, f1, _, d1, e1⟩ := next_eq (n := n + 1) hN (z := 7) d (by unfold tC at hc; omega) (by decide) (by decide)
    exact leaf 0 0 h c o1 w 0 d1 d hc hu w0 e1 (.inl rfl)
  | succ m ih =>
    intro h c d hc hu
    have la := d.lt
    have g3 := tC_ge m
    rw [tC_succ] at hc ⊢
    rw [callF_succ hT rfl]
    obtain ⟨w, o1, w0, w1, f1, _, d1, e1⟩ := next_eq (n := n + m + 2) hN (z := 7) d (by omega) (by decide) (by decide)
    by_cases c4 : w < 4
    · obtain ⟨t, o, ht, fo, dr, e⟩ := leaf (m + 1) (m + 1) h c o1 w ((m + 1 : Nat) : Int) d1 d (by omega) hu w0 e1 (.inr c4)
      exact ⟨t, o, ht, fo, dr.mono (by omega), e⟩
    · obtain ⟨xs, hxs⟩ : ∃ xs : List D, xs = (["plus", "less", "times", "part", "under", "same", "plus", "under"] : List Str).map D.str := ⟨_, rfl⟩
      have lxs : xs.length = 8 := by rw [hxs]; rfl
      have hxs' : [D.str "plus", .str "less", .str "times", .str "part", .str "under", .str "same", .str "plus", .str "under"] = xs := by rw [hxs]; rfl
      have lh : (h.set a o1).length = h.length := List.length_set
      have g1 : (h.set a o1 ++ [O.lst xs])[h.length]? = some (.lst xs) := by rw [← lh]; exact get_new
      obtain ⟨y, o2, my, f2, _, d2, e2⟩ := pick_lst (n := n + m + 1) hP hN (d1.ext (h' := h.set a o1 ++ [O.lst xs]) ⟨_, rfl⟩) (by omega) g1 (by omega) (by intro z; rw [z] at lxs; cases lxs) (by rw [lxs]; decide)
      obtain ⟨wd, mwd, rfl⟩ : ∃ wd : Str, wd ∈ (["plus", "less", "times", "part", "under", "same"] : List Str) ∧ y = .str wd := by
        rw [hxs] at my
        obtain ⟨s, ms, rfl⟩ := List.mem_map.mp my
        refine ⟨s, ?_, rfl⟩
        simp only [List.mem_cons, List.mem_nil_iff, or_false] at ms ⊢
        rcases ms with h | h | h | h | h | h | h | h <;> simp [h]
      have app : ∀ o, (h.set a o1 ++ [O.lst xs]).set a o = h.set a o ++ [O.lst xs] := fun o => by rw [List.set_append_left _ _ (by rw [lh]; exact la), List.set_set]
      have app2 : ∀ o o', (h.set a o ++ [O.lst xs]).set a o' = h.set a o' ++ [O.lst xs] := fun o o' => by rw [List.set_append_left _ _ (by rw [List.length_set]; exact la), List.set_set]
      rw [app] at d2 e2
      have hu2 : ∀ o, (h.set a o ++ [O.lst xs])[u]? = some (.lst (ws.map D.str)) := fun o => get_old (set_other nu hu)
      obtain ⟨x1, o3, h1, f3, d3, e3⟩ := ih d2 (by omega) (hu2 o2)
      rw [app2] at d3 e3
      obtain ⟨x2, o4, h2, f4, d4, e4⟩ := ih d3 (by omega) (hu2 o3)
      rw [app2] at d4 e4
      have ht : Term top ws (m + 1) (.tup [.str wd, x1, x2]) := .two mwd h1 h2
      have st : IX.Step a h (h.set a o4 ++ [O.lst xs]) := (IX.Step.of_set f4).app
      obtain ⟨o, fo, eg, dg⟩ := st.gc ht.pure d4 la
      refine ⟨_, o, ht, fo, dg.mono (by omega), ?_⟩
      have n0 : (((m : Int) + 1) == 0) = false := by simp; omega
      have sb : ∀ h, binop .sub (.int ((m : Int) + 1)) (.int 1) h = .ok (.int (m : Int)) h := fun h => by
        show R.ok (D.int ((m : Int) + 1 - 1)) h = _
        rw [Int.add_sub_cancel]
      have cm : ((m + 1 : Nat) : Int) = (m : Int) + 1 := by omega
      have c4' : decide (w < 4) = false := by simpa using c4
      show leave h (exec ⟨callF T (n + m + 3), T.meth, T.init⟩ (bTerm f nx pk nb) [some (.ref a), some (.int top), some (.ref u), some (.int ((m + 1 : Nat) : Int)), none, none, none] h) = _
      rw [cm]
      simp only [bTerm]
      simp [e1, n0, c4, hxs', lxs, e2, sb, e3, e4, eg]
end IX
end

section
set_option Elab.async false
set_option linter.all false
set_option maxRecDepth 100000
set_option maxHeartbeats 4000000
namespace K02
open PySem PySem.Spec PyProof.Rows L2 IX

def top (i : Nat) : Stmt := PySem.Challenge.pw_pausebook_k02_terms_changed_anywhere.main.body.getD i (.Pass ⟨0, 0, 0, 0⟩)
def tbl : List (Str × GK) := [("LETTERS", .cst (.str "abcdefghijklmnopqrstuvwxyz")),
  ("MOST_LETTERS", .cst (.int 6)),
  ("TAKEN_WORDS", .cst (.tup [(.str "always"), (.str "catch"), (.str "close"), (.str "done"), (.str "else"), (.str "end"), (.str "halt"), (.str "if"), (.str "leave"), (.str "next"), (.str "none"), (.str "put"), (.str "send"), (.str "throw"), (.str "top"), (.str "try"), (.str "while")])),
  ("is_number", .fn 0),
  ("is_worth", .fn 1),
  ("is_name", .fn 2),
  ("WORDS", .cst (.tup [(.str "plus"), (.str "less"), (.str "times"), (.str "part"), (.str "under"), (.str "same")])),
  ("MOST_DEEP", .cst (.int 8)),
  ("is_within", .fn 3),
  ("is_term", .fn 4),
  ("_law_begun", .fn 5),
  ("_law_next", .fn 6),
  ("_law_pick", .fn 7),
  ("_law_names", .fn 8),
  ("_law_top", .fn 9),
  ("_law_number", .fn 10),
  ("_law_term", .fn 11),
  ("_law_is_name", .fn 12),
  ("_law_is_worth", .fn 13),
  ("_law_is_term", .fn 14),
  ("_law_changed", .fn 15),
  ("_law_steep", .fn 16),
  ("_law_right", .fn 17),
  ("law", .fn 18)]
def G : Gam := ⟨fun x => tbl.lookup x, fun _ => none⟩
/-- is_number -/
abbrev N0 : List Str := ["thing", "least", "most"]
def b0 : IX.S := (.seq (.ret (.and (.isi (.loc 0) [.int]) (.and (.not (.isi (.loc 0) [.bool])) (.cmp2 .le .le (.loc 1) (.loc 0) (.loc 2)))))
    .skip)
/-- is_worth -/
abbrev N1 : List Str := ["thing", "top"]
def b1 : IX.S := (.seq (.ret (.call 0 (.cons (.loc 0) (.cons (.cst (.int 0)) (.cons (.loc 1) .nil)))))
    .skip)
/-- is_name -/
abbrev N2 : List Str := ["thing", "letter"]
def b2 : IX.S := (.seq (.ite (.or (.not (.isi (.loc 0) [.str])) (.or (.not (.cmp2 .le .le (.cst (.int 1)) (.bi .len (.cons (.loc 0) .nil)) (.cst (.int 6)))) (.bop .isin (.loc 0) (.cst (.tup [(.str "always"), (.str "catch"), (.str "close"), (.str "done"), (.str "else"), (.str "end"), (.str "halt"), (.str "if"), (.str "leave"), (.str "next"), (.str "none"), (.str "put"), (.str "send"), (.str "throw"), (.str "top"), (.str "try"), (.str "while")]))))) (.seq (.ret (.cst (.bl false)))
    .skip) .skip)
    (.seq (.ret (.bi .all (.cons (.lc (.bop .isin (.loc 1) (.cst (.str "abcdefghijklmnopqrstuvwxyz"))) [1] false (.loc 0) .nil) .nil)))
    .skip))
/-- is_within -/
abbrev N3 : List Str := ["thing", "top", "deep"]
def b3 : IX.S := (.seq (.ite (.or (.not (.isi (.loc 0) [.tuple])) (.or (.bop .notin (.bi .len (.cons (.loc 0) .nil)) (.tup (.cons (.cst (.int 2)) (.cons (.cst (.int 3)) .nil)))) (.or (.bop .eq (.loc 2) (.cst (.int 0))) (.not (.isi (.idx (.loc 0) (.cst (.int 0))) [.str]))))) (.seq (.ret (.cst (.bl false)))
    .skip) .skip)
    (.seq (.ite (.bop .eq (.bi .len (.cons (.loc 0) .nil)) (.cst (.int 2))) (.seq (.ret (.or (.and (.bop .eq (.idx (.loc 0) (.cst (.int 0))) (.cst (.str "number"))) (.call 1 (.cons (.idx (.loc 0) (.cst (.int 1))) (.cons (.loc 1) .nil)))) (.and (.bop .eq (.idx (.loc 0) (.cst (.int 0))) (.cst (.str "box"))) (.call 2 (.cons (.idx (.loc 0) (.cst (.int 1))) .nil)))))
    .skip) .skip)
    (.seq (.ite (.bop .notin (.idx (.loc 0) (.cst (.int 0))) (.cst (.tup [(.str "plus"), (.str "less"), (.str "times"), (.str "part"), (.str "under"), (.str "same")]))) (.seq (.ret (.cst (.bl false)))
    .skip) .skip)
    (.seq (.ret (.and (.call 3 (.cons (.idx (.loc 0) (.cst (.int 1))) (.cons (.loc 1) (.cons (.bop .sub (.loc 2) (.cst (.int 1))) .nil)))) (.call 3 (.cons (.idx (.loc 0) (.cst (.int 2))) (.cons (.loc 1) (.cons (.bop .sub (.loc 2) (.cst (.int 1))) .nil))))))
    .skip))))
/-- is_term -/
abbrev N4 : List Str := ["thing", "top"]
def b4 : IX.S := (.seq (.ret (.call 3 (.cons (.loc 0) (.cons (.loc 1) (.cons (.cst (.int 8)) .nil)))))
    .skip)
/-- _law_begun -/
abbrev N5 : List Str := ["_law_cell", "_law_k", "_law_seed"]
def b5 : IX.S := (.seq (.set 2 (.bop .add (.cst (.int 1)) (.bop .mod (.bop .pow (.bop .add (.bop .add (.bop .mul (.bop .mod (.loc 0) (.cst (.int 2147483647))) (.cst (.int 48271))) (.bop .mul (.cst (.int 104729)) (.loc 1))) (.cst (.int 7))) (.cst (.int 3))) (.cst (.int 2147483629)))))
    (.seq (.ite (.bop .ge (.loc 0) (.bop .pow (.cst (.int 10)) (.cst (.int 18)))) (.seq (.ret (.lst (.cons (.bop .sub (.loc 0) (.bop .pow (.cst (.int 10)) (.cst (.int 18)))) (.cons (.loc 2) (.cons (.cst (.int 0)) .nil)))))
    .skip) .skip)
    (.seq (.ret (.lst (.cons (.cst (.int 0)) (.cons (.loc 2) (.cons (.cst (.int 0)) .nil)))))
    .skip)))
/-- _law_next -/
abbrev N6 : List Str := ["_law_draw", "_law_size", "_law_found", "_law_mixed"]
def b6 : IX.S := (.seq (.ite (.bop .gt (.idx (.loc 0) (.cst (.int 0))) (.cst (.int 0))) (.seq (.set 2 (.bop .mod (.idx (.loc 0) (.cst (.int 0))) (.loc 1)))
    (.seq (.seti (.loc 0) (.cst (.int 0)) (.bop .fdiv (.idx (.loc 0) (.cst (.int 0))) (.loc 1)))
    (.seq (.ret (.loc 2))
    .skip))) .skip)
    (.seq (.seti (.loc 0) (.cst (.int 2)) (.bop .add (.idx (.loc 0) (.cst (.int 2))) (.cst (.int 1))))
    (.seq (.set 3 (.bop .mod (.bop .pow (.bop .add (.bop .add (.bop .mul (.idx (.loc 0) (.cst (.int 1))) (.bop .add (.bop .mul (.cst (.int 2)) (.idx (.loc 0) (.cst (.int 2)))) (.cst (.int 1)))) (.bop .mul (.bop .mul (.cst (.int 7919)) (.idx (.loc 0) (.cst (.int 2)))) (.idx (.loc 0) (.cst (.int 2))))) (.cst (.int 11))) (.cst (.int 5))) (.cst (.int 2147483647))))
    (.seq (.ret (.bop .mod (.bop .fdiv (.loc 3) (.cst (.int 11))) (.loc 1)))
    .skip))))
/-- _law_pick -/
abbrev N7 : List Str := ["_law_draw", "_law_some"]
def b7 : IX.S := (.seq (.ret (.idx (.loc 1) (.call 6 (.cons (.loc 0) (.cons (.bi .len (.cons (.loc 1) .nil)) .nil)))))
    .skip)
/-- _law_names -/
abbrev N8 : List Str := ["_law_draw", "_law_many", "_law_letters", "_law_lead", "_law_tail", "_law_k"]
def b8 : IX.S := (.seq (.set 2 (.cst (.str "abcdefghijklmnopqrstuvwxyz")))
    (.seq (.set 3 (.call 6 (.cons (.loc 0) (.cons (.cst (.int 26)) .nil))))
    (.seq (.set 4 (.call 7 (.cons (.loc 0) (.cons (.lst (.cons (.cst (.str "x")) (.cons (.cst (.str "")) (.cons (.cst (.str "qxqx")) (.cons (.bop .add (.idx (.loc 2) (.call 6 (.cons (.loc 0) (.cons (.cst (.int 26)) .nil)))) (.cst (.str "xx"))) (.cons (.cst (.str "qxqxq")) .nil)))))) .nil))))
    (.seq (.ret (.lc (.bop .add (.idx (.loc 2) (.bop .mod (.bop .add (.loc 3) (.bop .mul (.cst (.int 5)) (.loc 5))) (.cst (.int 26)))) (.loc 4)) [5] false (.rng1 (.loc 1)) .nil))
    .skip))))
/-- _law_top -/
abbrev N9 : List Str := ["_law_draw"]
def b9 : IX.S := (.seq (.ret (.call 7 (.cons (.loc 0) (.cons (.lst (.cons (.cst (.int 3)) (.cons (.cst (.int 1)) (.cons (.cst (.int 2)) (.cons (.cst (.int 9)) (.cons (.cst (.int 2)) (.cons (.cst (.int 5)) (.cons (.bop .pow (.cst (.int 10)) (.cst (.int 9))) (.cons (.bop .add (.cst (.int 3)) (.call 6 (.cons (.loc 0) (.cons (.cst (.int 1000)) .nil)))) .nil))))))))) .nil))))
    .skip)
/-- _law_number -/
abbrev N10 : List Str := ["_law_draw", "_law_top_here", "_law_way", "_law_small"]
def b10 : IX.S := (.seq (.set 2 (.call 6 (.cons (.loc 0) (.cons (.cst (.int 4)) .nil))))
    (.seq (.set 3 (.call 6 (.cons (.loc 0) (.cons (.bop .add (.bi .min (.cons (.loc 1) (.cons (.cst (.int 5)) .nil))) (.cst (.int 1))) .nil))))
    (.seq (.ret (.ite (.bop .eq (.loc 2) (.cst (.int 0))) (.bop .sub (.loc 1) (.loc 3)) (.loc 3)))
    .skip)))
/-- _law_term -/
abbrev N11 : List Str := ["_law_draw", "_law_top_here", "_law_names_here", "_law_deep", "_law_way", "_law_word", "_law_one"]
def b11 : IX.S := (.seq (.set 4 (.call 6 (.cons (.loc 0) (.cons (.cst (.int 7)) .nil))))
    (.seq (.ite (.or (.bop .eq (.loc 3) (.cst (.int 0))) (.bop .lt (.loc 4) (.cst (.int 4)))) (.seq (.ite (.bop .eq (.bop .mod (.loc 4) (.cst (.int 2))) (.cst (.int 0))) (.seq (.ret (.tup (.cons (.cst (.str "box")) (.cons (.call 7 (.cons (.loc 0) (.cons (.loc 2) .nil))) .nil))))
    .skip) .skip)
    (.seq (.ret (.tup (.cons (.cst (.str "number")) (.cons (.call 10 (.cons (.loc 0) (.cons (.loc 1) .nil))) .nil))))
    .skip)) .skip)
    (.seq (.set 5 (.call 7 (.cons (.loc 0) (.cons (.lst (.cons (.cst (.str "plus")) (.cons (.cst (.str "less")) (.cons (.cst (.str "times")) (.cons (.cst (.str "part")) (.cons (.cst (.str "under")) (.cons (.cst (.str "same")) (.cons (.cst (.str "plus")) (.cons (.cst (.str "under")) .nil))))))))) .nil))))
    (.seq (.set 6 (.call 11 (.cons (.loc 0) (.cons (.loc 1) (.cons (.loc 2) (.cons (.bop .sub (.loc 3) (.cst (.int 1))) .nil))))))
    (.seq (.ret (.tup (.cons (.loc 5) (.cons (.loc 6) (.cons (.call 11 (.cons (.loc 0) (.cons (.loc 1) (.cons (.loc 2) (.cons (.bop .sub (.loc 3) (.cst (.int 1))) .nil))))) .nil)))))
    .skip)))))
/-- _law_is_name -/
abbrev N12 : List Str := ["_law_thing", "_law_words", "_law_sign"]
def b12 : IX.S := (.seq (.set 1 (.me .split (.cst (.str "always catch close done else end halt if leave next none put send throw top try while")) (.cons (.cst (.str " ")) .nil)))
    (.seq (.ite (.or (.not (.isi (.loc 0) [.str])) (.or (.not (.cmp2 .lt .lt (.cst (.int 0)) (.bi .len (.cons (.loc 0) .nil)) (.cst (.int 7)))) (.bop .isin (.loc 0) (.loc 1)))) (.seq (.ret (.cst (.bl false)))
    .skip) .skip)
    (.seq (.ret (.bop .eq (.lc (.loc 2) [2] false (.loc 0) (.bop .notin (.loc 2) (.cst (.str "abcdefghijklmnopqrstuvwxyz")))) (.lst .nil)))
    .skip)))
/-- _law_is_worth -/
abbrev N13 : List Str := ["_law_thing", "_law_top_here"]
def b13 : IX.S := (.seq (.ret (.and (.isi (.loc 0) [.int]) (.and (.not (.isi (.loc 0) [.bool])) (.cmp2 .le .le (.cst (.int 0)) (.loc 0) (.loc 1)))))
    .skip)
/-- _law_is_term -/
abbrev N14 : List Str := ["_law_thing", "_law_top_here", "_law_deep"]
def b14 : IX.S := (.seq (.ite (.or (.not (.isi (.loc 0) [.tuple])) (.bop .eq (.loc 2) (.cst (.int 0)))) (.seq (.ret (.cst (.bl false)))
    .skip) .skip)
    (.seq (.ite (.and (.bop .eq (.bi .len (.cons (.loc 0) .nil)) (.cst (.int 2))) (.bop .eq (.idx (.loc 0) (.cst (.int 0))) (.cst (.str "number")))) (.seq (.ret (.call 13 (.cons (.idx (.loc 0) (.cst (.int 1))) (.cons (.loc 1) .nil))))
    .skip) .skip)
    (.seq (.ite (.and (.bop .eq (.bi .len (.cons (.loc 0) .nil)) (.cst (.int 2))) (.bop .eq (.idx (.loc 0) (.cst (.int 0))) (.cst (.str "box")))) (.seq (.ret (.call 12 (.cons (.idx (.loc 0) (.cst (.int 1))) .nil)))
    .skip) .skip)
    (.seq (.ite (.or (.bop .ne (.bi .len (.cons (.loc 0) .nil)) (.cst (.int 3))) (.bop .notin (.idx (.loc 0) (.cst (.int 0))) (.tup (.cons (.cst (.str "plus")) (.cons (.cst (.str "less")) (.cons (.cst (.str "times")) (.cons (.cst (.str "part")) (.cons (.cst (.str "under")) (.cons (.cst (.str "same")) .nil))))))))) (.seq (.ret (.cst (.bl false)))
    .skip) .skip)
    (.seq (.ret (.and (.call 14 (.cons (.idx (.loc 0) (.cst (.int 1))) (.cons (.loc 1) (.cons (.bop .sub (.loc 2) (.cst (.int 1))) .nil)))) (.call 14 (.cons (.idx (.loc 0) (.cst (.int 2))) (.cons (.loc 1) (.cons (.bop .sub (.loc 2) (.cst (.int 1))) .nil))))))
    .skip)))))
/-- _law_changed -/
abbrev N15 : List Str := ["_law_draw", "_law_whole", "_law_way", "_law_at", "_law_letter", "_law_pick_here", "_law_some"]
def b15 : IX.S := (.seq (.set 2 (.call 6 (.cons (.loc 0) (.cons (.cst (.int 5)) .nil))))
    (.seq (.ite (.and (.isi (.loc 1) [.tuple]) (.and (.bop .gt (.bi .len (.cons (.loc 1) .nil)) (.cst (.int 0))) (.bop .gt (.loc 2) (.cst (.int 0))))) (.seq (.set 3 (.call 6 (.cons (.loc 0) (.cons (.bi .len (.cons (.loc 1) .nil)) .nil))))
    (.seq (.ret (.bop .add (.bop .add (.slc (.loc 1) .nil (.loc 3)) (.tup (.cons (.call 15 (.cons (.loc 0) (.cons (.idx (.loc 1) (.loc 3)) .nil))) .nil))) (.slc (.loc 1) (.bop .add (.loc 3) (.cst (.int 1))) .nil)))
    .skip)) .skip)
    (.seq (.set 3 (.call 6 (.cons (.loc 0) (.cons (.cst (.int 12)) .nil))))
    (.seq (.set 4 (.idx (.cst (.str "abcdefghijklmnopqrstuvwxyz")) (.call 6 (.cons (.loc 0) (.cons (.cst (.int 26)) .nil)))))
    (.seq (.set 5 (.call 6 (.cons (.loc 0) (.cons (.cst (.int 64)) .nil))))
    (.seq (.set 6 (.lst (.cons (.cst .non) (.cons (.cst (.bl true)) (.cons (.cst (.bl false)) (.cons (.cst (.int 0)) (.cons (.cst (.int 1)) (.cons (.bop .sub (.cst (.int 0)) (.cst (.int 1))) (.cons (.cst (.str "")) (.cons (.cst (.str "x")) (.cons (.tup .nil) (.cons (.lst .nil) (.cons (.dic .nil) (.cons (.tup (.cons (.cst (.str "number")) (.cons (.cst (.int 0)) .nil))) (.cons (.tup (.cons (.cst (.str "box")) (.cons (.cst (.str "x")) .nil))) (.cons (.cst (.str "end")) (.cons (.tup (.cons (.cst (.str "box")) (.cons (.cst (.str "plus")) .nil))) .nil)))))))))))))))))
    (.seq (.ite (.isi (.loc 1) [.tuple]) (.seq (.set 3 (.bop .mod (.loc 3) (.bop .add (.bi .len (.cons (.loc 1) .nil)) (.cst (.int 1)))))
    (.seq (.set 6 (.bop .add (.loc 6) (.lst (.cons (.bi .list (.cons (.loc 1) .nil)) (.cons (.bop .add (.slc (.loc 1) .nil (.loc 3)) (.slc (.loc 1) (.bop .add (.loc 3) (.cst (.int 1))) .nil)) (.cons (.bop .add (.bop .add (.slc (.loc 1) .nil (.loc 3)) (.slc (.slc (.loc 1) (.loc 3) .nil) .nil (.cst (.int 1)))) (.slc (.loc 1) (.loc 3) .nil)) (.cons (.rev (.loc 1)) .nil)))))))
    .skip)) (.seq (.ite (.isi (.loc 1) [.int]) (.seq (.set 6 (.bop .add (.loc 6) (.lst (.cons (.bop .add (.loc 1) (.cst (.int 1))) (.cons (.bop .sub (.loc 1) (.cst (.int 1))) (.cons (.bop .add (.loc 1) (.cst (.int 2))) (.cons (.bop .sub (.cst (.int 0)) (.loc 1)) (.cons (.bi .str (.cons (.loc 1) .nil)) (.cons (.bop .mul (.loc 1) (.cst (.int 10))) (.cons (.bop .pow (.cst (.int 10)) (.cst (.int 9))) (.cons (.bop .add (.bop .pow (.cst (.int 10)) (.cst (.int 9))) (.cst (.int 1))) .nil)))))))))))
    .skip) (.seq (.ite (.isi (.loc 1) [.str]) (.seq (.set 3 (.bop .mod (.loc 3) (.bop .add (.bi .len (.cons (.loc 1) .nil)) (.cst (.int 1)))))
    (.seq (.set 6 (.bop .add (.loc 6) (.lst (.cons (.bop .add (.bop .add (.slc (.loc 1) .nil (.loc 3)) (.loc 4)) (.slc (.loc 1) (.loc 3) .nil)) (.cons (.bop .add (.bop .add (.slc (.loc 1) .nil (.loc 3)) (.loc 4)) (.slc (.loc 1) (.bop .add (.loc 3) (.cst (.int 1))) .nil)) .nil)))))
    (.seq (.set 6 (.bop .add (.loc 6) (.lst (.cons (.bop .add (.slc (.loc 1) .nil (.loc 3)) (.slc (.loc 1) (.bop .add (.loc 3) (.cst (.int 1))) .nil)) (.cons (.me .upper (.loc 1) .nil) (.cons (.bop .add (.loc 1) (.cst (.str " "))) (.cons (.tup (.cons (.loc 1) .nil)) (.cons (.cst (.str "plus")) (.cons (.cst (.str "under")) .nil)))))))))
    (.seq (.set 6 (.bop .add (.loc 6) (.lst (.cons (.cst (.str "less")) (.cons (.cst (.str "number")) (.cons (.cst (.str "box")) (.cons (.bop .add (.loc 1) (.loc 1)) .nil)))))))
    .skip)))) .skip)
    .skip))
    .skip))
    (.seq (.ret (.idx (.loc 6) (.bop .mod (.loc 5) (.bi .len (.cons (.loc 6) .nil)))))
    .skip))))))))
/-- _law_steep -/
abbrev N16 : List Str := ["_law_draw", "_law_many", "_law_part", "_law_k", "_law_side"]
def b16 : IX.S := (.seq (.loop [3] false (.rng1 (.loc 1)) (.seq (.set 4 (.call 6 (.cons (.loc 0) (.cons (.cst (.int 2)) .nil))))
    (.seq (.set 2 (.ite (.bop .eq (.loc 4) (.cst (.int 0))) (.tup (.cons (.cst (.str "under")) (.cons (.loc 2) (.cons (.tup (.cons (.cst (.str "number")) (.cons (.cst (.int 0)) .nil))) .nil)))) (.tup (.cons (.cst (.str "same")) (.cons (.tup (.cons (.cst (.str "number")) (.cons (.cst (.int 1)) .nil))) (.cons (.loc 2) .nil))))))
    .skip)))
    (.seq (.ret (.loc 2))
    .skip))
/-- _law_right -/
abbrev N17 : List Str := ["_law_cell", "_law_k", "_law_draw", "_law_top_here", "_law_other", "_law_ka", "_law_things", "_law_thing", "_law_bound", "_law_found", "_law_turn"]
def b17 : IX.S := (.seq (.set 2 (.call 5 (.cons (.loc 0) (.cons (.loc 1) .nil))))
    (.seq (.set 3 (.call 9 (.cons (.loc 2) .nil)))
    (.seq (.set 4 (.call 9 (.cons (.loc 2) .nil)))
    (.seq (.set 5 (.call 11 (.cons (.loc 2) (.cons (.loc 3) (.cons (.call 8 (.cons (.loc 2) (.cons (.cst (.int 3)) .nil))) (.cons (.bop .add (.cst (.int 1)) (.call 6 (.cons (.loc 2) (.cons (.cst (.int 3)) .nil)))) .nil))))))
    (.seq (.set 6 (.bop .add (.lst (.cons (.loc 5) .nil)) (.lc (.call 15 (.cons (.loc 2) (.cons (.loc 5) .nil))) [10] false (.rng1 (.cst (.int 4))) .nil)))
    (.seq (.set 6 (.bop .add (.loc 6) (.lst (.cons (.call 16 (.cons (.loc 2) (.cons (.bop .add (.cst (.int 5)) (.call 6 (.cons (.loc 2) (.cons (.cst (.int 4)) .nil)))) (.cons (.tup (.cons (.cst (.str "box")) (.cons (.cst (.str "x")) .nil))) .nil)))) (.cons (.call 16 (.cons (.loc 2) (.cons (.cst (.int 4)) (.cons (.loc 5) .nil)))) .nil)))))
    (.seq (.loop [7] false (.loc 6) (.seq (.loop [8] false (.tup (.cons (.loc 3) (.cons (.loc 4) .nil))) (.seq (.set 9 (.call 4 (.cons (.loc 7) (.cons (.loc 8) .nil))))
    (.seq (.ite (.or (.not (.isi (.loc 9) [.bool])) (.bop .ne (.loc 9) (.call 14 (.cons (.loc 7) (.cons (.loc 8) (.cons (.cst (.int 8)) .nil)))))) (.seq (.ret (.cst (.bl false)))
    .skip) .skip)
    .skip)))
    .skip))
    (.seq (.ret (.cst (.bl true)))
    .skip))))))))
/-- law -/
abbrev N18 : List Str := ["_law_script", "_law_k", "_law_cell", "_law_deep"]
def b18 : IX.S := (.seq (.loop [1, 2] true (.enum (.slc (.bop .add (.loc 0) (.lst (.cons (.cst (.int 3)) .nil))) .nil (.bi .max (.cons (.cst (.int 1)) (.cons (.bi .min (.cons (.cst (.int 16)) (.cons (.bi .len (.cons (.loc 0) .nil)) .nil))) .nil))))) (.seq (.ite (.not (.call 17 (.cons (.loc 2) (.cons (.loc 1) .nil)))) (.seq (.ret (.cst (.bl false)))
    .skip) .skip)
    .skip))
    (.seq (.set 3 (.tup (.cons (.cst (.str "box")) (.cons (.cst (.str "x")) .nil))))
    (.seq (.loop [1] false (.rng1 (.cst (.int 3000))) (.seq (.set 3 (.tup (.cons (.cst (.str "plus")) (.cons (.loc 3) (.cons (.tup (.cons (.cst (.str "number")) (.cons (.cst (.int 1)) .nil))) .nil)))))
    .skip))
    (.seq (.ret (.and (.bop .is_ (.call 4 (.cons (.loc 3) (.cons (.cst (.int 9)) .nil))) (.cst (.bl false))) (.bop .is_ (.call 4 (.cons (.lst (.cons (.loc 3) .nil)) (.cons (.cst (.int 9)) .nil))) (.cst (.bl false)))))
    .skip))))
def T : Tbl := ⟨fun i => match i with
  | 0 => some ⟨3, 3, b0⟩
  | 1 => some ⟨2, 2, b1⟩
  | 2 => some ⟨1, 2, b2⟩
  | 3 => some ⟨3, 3, b3⟩
  | 4 => some ⟨2, 2, b4⟩
  | 5 => some ⟨2, 3, b5⟩
  | 6 => some ⟨2, 4, b6⟩
  | 7 => some ⟨2, 2, b7⟩
  | 8 => some ⟨2, 6, b8⟩
  | 9 => some ⟨1, 1, b9⟩
  | 10 => some ⟨2, 4, b10⟩
  | 11 => some ⟨4, 7, b11⟩
  | 12 => some ⟨1, 3, b12⟩
  | 13 => some ⟨2, 2, b13⟩
  | 14 => some ⟨3, 3, b14⟩
  | 15 => some ⟨2, 7, b15⟩
  | 16 => some ⟨3, 5, b16⟩
  | 17 => some ⟨2, 11, b17⟩
  | 18 => some ⟨1, 4, b18⟩
  | _ => none, fun _ _ => none, fun _ => none⟩

theorem sc0 : FnScope N0 ["thing", "least", "most"] (defScope (top 4)) := ⟨rfl, rfl, rfl, by decide +kernel, rfl, by decide +kernel, by decide +kernel⟩
theorem ok0 : compSs (compS G N0 60 (defScope (top 4))) (defBody (top 4)) = some b0 := by kernel_rfl
theorem sc1 : FnScope N1 ["thing", "top"] (defScope (top 5)) := ⟨rfl, rfl, rfl, by decide +kernel, rfl, by decide +kernel, by decide +kernel⟩
theorem ok1 : compSs (compS G N1 60 (defScope (top 5))) (defBody (top 5)) = some b1 := by kernel_rfl
theorem sc2 : FnScope N2 ["thing"] (defScope (top 6)) := ⟨rfl, rfl, rfl, by decide +kernel, rfl, by decide +kernel, by decide +kernel⟩
theorem ok2 : compSs (compS G N2 60 (defScope (top 6))) (defBody (top 6)) = some b2 := by kernel_rfl
theorem sc3 : FnScope N3 ["thing", "top", "deep"] (defScope (top 11)) := ⟨rfl, rfl, rfl, by decide +kernel, rfl, by decide +kernel, by decide +kernel⟩
theorem ok3 : compSs (compS G N3 60 (defScope (top 11))) (defBody (top 11)) = some b3 := by kernel_rfl
theorem sc4 : FnScope N4 ["thing", "top"] (defScope (top 12)) := ⟨rfl, rfl, rfl, by decide +kernel, rfl, by decide +kernel, by decide +kernel⟩
theorem ok4 : compSs (compS G N4 60 (defScope (top 12))) (defBody (top 12)) = some b4 := by kernel_rfl
theorem sc5 : FnScope N5 ["_law_cell", "_law_k"] (defScope (top 14)) := ⟨rfl, rfl, rfl, by decide +kernel, rfl, by decide +kernel, by decide +kernel⟩
theorem ok5 : compSs (compS G N5 60 (defScope (top 14))) (defBody (top 14)) = some b5 := by kernel_rfl
theorem sc6 : FnScope N6 ["_law_draw", "_law_size"] (defScope (top 15)) := ⟨rfl, rfl, rfl, by decide +kernel, rfl, by decide +kernel, by decide +kernel⟩
theorem ok6 : compSs (compS G N6 60 (defScope (top 15))) (defBody (top 15)) = some b6 := by kernel_rfl
theorem sc7 : FnScope N7 ["_law_draw", "_law_some"] (defScope (top 16)) := ⟨rfl, rfl, rfl, by decide +kernel, rfl, by decide +kernel, by decide +kernel⟩
theorem ok7 : compSs (compS G N7 60 (defScope (top 16))) (defBody (top 16)) = some b7 := by kernel_rfl
theorem sc8 : FnScope N8 ["_law_draw", "_law_many"] (defScope (top 17)) := ⟨rfl, rfl, rfl, by decide +kernel, rfl, by decide +kernel, by decide +kernel⟩
theorem ok8 : compSs (compS G N8 60 (defScope (top 17))) (defBody (top 17)) = some b8 := by kernel_rfl
theorem sc9 : FnScope N9 ["_law_draw"] (defScope (top 18)) := ⟨rfl, rfl, rfl, by decide +kernel, rfl, by decide +kernel, by decide +kernel⟩
theorem ok9 : compSs (compS G N9 60 (defScope (top 18))) (defBody (top 18)) = some b9 := by kernel_rfl
theorem sc10 : FnScope N10 ["_law_draw", "_law_top_here"] (defScope (top 19)) := ⟨rfl, rfl, rfl, by decide +kernel, rfl, by decide +kernel, by decide +kernel⟩
theorem ok10 : compSs (compS G N10 60 (defScope (top 19))) (defBody (top 19)) = some b10 := by kernel_rfl
theorem sc11 : FnScope N11 ["_law_draw", "_law_top_here", "_law_names_here", "_law_deep"] (defScope (top 20)) := ⟨rfl, rfl, rfl, by decide +kernel, rfl, by decide +kernel, by decide +kernel⟩
theorem ok11 : compSs (compS G N11 60 (defScope (top 20))) (defBody (top 20)) = some b11 := by kernel_rfl
theorem sc12 : FnScope N12 ["_law_thing"] (defScope (top 21)) := ⟨rfl, rfl, rfl, by decide +kernel, rfl, by decide +kernel, by decide +kernel⟩
theorem ok12 : compSs (compS G N12 60 (defScope (top 21))) (defBody (top 21)) = some b12 := by kernel_rfl
theorem sc13 : FnScope N13 ["_law_thing", "_law_top_here"] (defScope (top 22)) := ⟨rfl, rfl, rfl, by decide +kernel, rfl, by decide +kernel, by decide +kernel⟩
theorem ok13 : compSs (compS G N13 60 (defScope (top 22))) (defBody (top 22)) = some b13 := by kernel_rfl
theorem sc14 : FnScope N14 ["_law_thing", "_law_top_here", "_law_deep"] (defScope (top 23)) := ⟨rfl, rfl, rfl, by decide +kernel, rfl, by decide +kernel, by decide +kernel⟩
theorem ok14 : compSs (compS G N14 60 (defScope (top 23))) (defBody (top 23)) = some b14 := by kernel_rfl
theorem sc15 : FnScope N15 ["_law_draw", "_law_whole"] (defScope (top 24)) := ⟨rfl, rfl, rfl, by decide +kernel, rfl, by decide +kernel, by decide +kernel⟩
theorem ok15 : compSs (compS G N15 60 (defScope (top 24))) (defBody (top 24)) = some b15 := by kernel_rfl
theorem sc16 : FnScope N16 ["_law_draw", "_law_many", "_law_part"] (defScope (top 25)) := ⟨rfl, rfl, rfl, by decide +kernel, rfl, by decide +kernel, by decide +kernel⟩
theorem ok16 : compSs (compS G N16 60 (defScope (top 25))) (defBody (top 25)) = some b16 := by kernel_rfl
theorem sc17 : FnScope N17 ["_law_cell", "_law_k"] (defScope (top 26)) := ⟨rfl, rfl, rfl, by decide +kernel, rfl, by decide +kernel, by decide +kernel⟩
theorem ok17 : compSs (compS G N17 60 (defScope (top 26))) (defBody (top 26)) = some b17 := by kernel_rfl
theorem sc18 : FnScope N18 ["_law_script"] (defScope (top 27)) := ⟨rfl, rfl, rfl, by decide +kernel, rfl, by decide +kernel, by decide +kernel⟩
theorem ok18 : compSs (compS G N18 60 (defScope (top 27))) (defBody (top 27)) = some b18 := by kernel_rfl
end K02
end

section
set_option Elab.async false
set_option linter.all false
set_option maxRecDepth 100000
set_option maxHeartbeats 4000000
namespace K02
open PySem IX
def words : List Str := ["always", "catch", "close", "done", "else", "end", "halt", "if", "leave", "next", "none", "put", "send", "throw", "top", "try", "while"]
def letters : Str := "abcdefghijklmnopqrstuvwxyz"
def pS (s : Str) : Bool := !(Builtin.Str.occurrences letters s 0 letters.length 1).isEmpty
def nameB (x : Str) : Bool := decide (1 ≤ (x.length : Int)) && decide ((x.length : Int) ≤ 6) && !(words.any (· == x)) && x.cps.toList.all fun c => pS ⟨#[c]⟩
theorem in_words {h : Hh} {x : Str} : inD (.str x) (.tup [(.str "always"), (.str "catch"), (.str "close"), (.str "done"), (.str "else"), (.str "end"), (.str "halt"), (.str "if"), (.str "leave"), (.str "next"), (.str "none"), (.str "put"), (.str "send"), (.str "throw"), (.str "top"), (.str "try"), (.str "while")]) h = some (words.any (· == x)) :=
  any_strs (h := h) (x := x) (ys := words)
theorem items_str {x : Str} {h : Hh} : itemsD (.str x) h = some (x.cps.toList.map fun c => .str ⟨#[c]⟩, none) := rfl
theorem in_letters {h : Hh} {s : Str} : inD (.str s) (.str "abcdefghijklmnopqrstuvwxyz") h = some (pS s) := rfl
theorem lc_all {P : Pg} {h : Hh} {x : Str} (hl : x.length ≤ line) : evalE P (.lc (.bop .isin (.loc 1) (.cst (.str "abcdefghijklmnopqrstuvwxyz"))) [1] false (.loc 0) .nil) [some (.str x), none] h = .ok (.ref h.length) (h ++ [.lst (x.cps.toList.map fun c => .bl (pS ⟨#[c]⟩))]) := by
  refine ev_lc (t := ⟨x.cps.toList.map fun c => .str ⟨#[c]⟩, none⟩) (it_val rfl rfl items_str) (by simpa [Str.length] using hl) ?_
  rw [turns_pure (show Its.stands ⟨_, none⟩ h from trivial) (fun y => match y with
    | .str s => some (.bl (pS s))
    | _ => none)]
  · congr 1
    rw [List.filterMap_map]
    induction x.cps.toList with
    | nil => rfl
    | cons c r ih => simp [ih]
  · intro y hy
    obtain ⟨c, _, rfl⟩ := List.mem_map.mp hy
    simp [wipeD, in_letters]
theorem all_at {h : Hh} {l : List D} : biD .all [.ref h.length] (h ++ [.lst l]) = bl! (allBl l) (h ++ [.lst l]) := by
  show (match (h ++ [O.lst l])[h.length]? with
    | some (.lst xs) => bl! (allBl xs) (h ++ [O.lst l])
    | _ => R.bad) = _
  rw [get_new]
theorem is_name_str {n : Nat} {h : Hh} {x : Str} (hl : x.length ≤ line) : callF T (n + 1) 2 [.str x] h = .ok (.bl (nameB x)) h := by
  rw [callF_succ (d := ⟨1, 2, b2⟩) rfl rfl]
  obtain ⟨L, hL⟩ : ∃ L : Int, L = (x.length : Int) := ⟨_, rfl⟩
  have q2 : ∀ h, biD .len [.str x] h = .ok (.int L) h := fun _ => by rw [hL]; rfl
  unfold nameB
  rw [← hL]
  have q4 : allBl (x.cps.toList.map fun c => .bl (pS ⟨#[c]⟩)) = some (x.cps.toList.all fun c => pS ⟨#[c]⟩) := allBl_map
  by_cases c1 : 1 ≤ L
  · by_cases c2 : L ≤ 6
    · cases c3 : words.any (· == x) with
      | true => simp [b2, IX.start, isTy, q2, c1, c2, in_words, c3]
      | false => simp [b2, IX.start, isTy, q2, c1, c2, in_words, c3, lc_all hl, all_at, q4]
    · simp [b2, IX.start, isTy, q2, c1, c2]
  · simp [b2, IX.start, isTy, q2, c1]
theorem is_name_no {n : Nat} {h : Hh} {d : D} (hd : isTy d h .str = some false) : callF T (n + 1) 2 [d] h = .ok (.bl false) h := by
  rw [callF_succ (d := ⟨1, 2, b2⟩) rfl rfl]
  simp [b2, IX.start, hd]
theorem split_words : Txt.split "always catch close done else end halt if leave next none put send throw top try while" " " = words := by decide +kernel
theorem split_at {h : Hh} : meD .split (.str "always catch close done else end halt if leave next none put send throw top try while") [.str " "] h = .ok (.ref h.length) (h ++ [.lst (words.map D.str)]) :=
  me_splitD split_words (by decide +kernel)
theorem lc_no {P : Pg} {h : Hh} {x : Str} {d : D} (hl : x.length ≤ line) : evalE P (.lc (.loc 2) [2] false (.loc 0) (.bop .notin (.loc 2) (.cst (.str "abcdefghijklmnopqrstuvwxyz")))) [some (.str x), some d, none] h = .ok (.ref h.length) (h ++ [.lst ((x.cps.toList.filter fun c => !pS ⟨#[c]⟩).map fun c => .str ⟨#[c]⟩)]) := by
  refine ev_lc (t := ⟨x.cps.toList.map fun c => .str ⟨#[c]⟩, none⟩) (it_val rfl rfl items_str) (by simpa [Str.length] using hl) ?_
  rw [turns_pure (show Its.stands ⟨_, none⟩ h from trivial) (fun y => match y with
    | .str s => if pS s = true then none else some (.str s)
    | _ => none)]
  · congr 1
    rw [List.filterMap_map]
    induction x.cps.toList with
    | nil => rfl
    | cons c r ih =>
      cases q : pS ⟨#[c]⟩ with
      | true => simpa [q] using ih
      | false => simpa [q] using ih
  · intro y hy
    obtain ⟨c, _, rfl⟩ := List.mem_map.mp hy
    cases q : pS ⟨#[c]⟩ with
    | true => simp [wipeD, in_letters, q]
    | false => simp [wipeD, in_letters, q]
theorem is_name2_str {n : Nat} {h : Hh} {x : Str} (hl : x.length ≤ line) : callF T (n + 1) 12 [.str x] h = .ok (.bl (nameB x)) h := by
  rw [callF_succ (d := ⟨1, 3, b12⟩) rfl rfl]
  obtain ⟨L, hL⟩ : ∃ L : Int, L = (x.length : Int) := ⟨_, rfl⟩
  have q2 : ∀ h, biD .len [.str x] h = .ok (.int L) h := fun _ => by rw [hL]; rfl
  unfold nameB
  rw [← hL]
  have q3 : inD (.str x) (.ref h.length) (h ++ [.lst (words.map D.str)]) = some (words.any (· == x)) := by
    show (match (h ++ [O.lst (words.map D.str)])[h.length]? with
      | some (.lst ys) => anyD _ (.str x) ys
      | some (.dic kvs) => if (keyD (.str x)).isSome then some (lookD (.str x) kvs).isSome else none
      | _ => none) = _
    rw [get_new]
    exact any_strs
  have c1' : 0 < L ↔ 1 ≤ L := by omega
  have c2' : L < 7 ↔ L ≤ 6 := by omega
  by_cases c1 : 1 ≤ L
  · by_cases c2 : L ≤ 6
    · cases c3 : words.any (· == x) with
      | true => simp [b12, IX.start, isTy, q2, split_at, c1', c2', c1, c2, q3, c3]
      | false =>
        simp [b12, IX.start, isTy, q2, split_at, c1', c2', c1, c2, q3, c3, lc_no hl]
        rw [eq_empty (by omega) get_app get_app]
        simp
        rw [none_left, Array.all_toList]
    · simp [b12, IX.start, isTy, q2, split_at, c1', c2', c1, c2]
  · simp [b12, IX.start, isTy, q2, split_at, c1', c1]
theorem is_name2_no {n : Nat} {h : Hh} {d : D} (hd : isTy d h .str = some false) : callF T (n + 1) 12 [d] h = .ok (.bl false) h := by
  rw [callF_succ (d := ⟨1, 3, b12⟩) rfl rfl]
  have hd2 : isTy d (h ++ [.lst (words.map D.str)]) .str = some false := isTy_ext ⟨_, rfl⟩ hd
  simp [b12, IX.start, split_at, hd2]
def wB (top : Int) : D → Bool
  | .int i => decide (0 ≤ i) && decide (i ≤ top)
  | _ => false
theorem number_int {n : Nat} {h : Hh} {i lo top : Int} : callF T (n + 1) 0 [.int i, .int lo, .int top] h = .ok (.bl (decide (lo ≤ i) && decide (i ≤ top))) h := by
  rw [callF_succ (d := ⟨3, 3, b0⟩) rfl rfl]
  by_cases c : lo ≤ i
  · simp [b0, IX.start, isTy, c]
  · simp [b0, IX.start, isTy, c]
theorem number_bl {n : Nat} {h : Hh} {k : Bool} {lo top : Int} : callF T (n + 1) 0 [.bl k, .int lo, .int top] h = .ok (.bl false) h := by
  rw [callF_succ (d := ⟨3, 3, b0⟩) rfl rfl]
  simp [b0, IX.start, isTy]
theorem number_no {n : Nat} {h : Hh} {d : D} {lo top : Int} (hd : isTy d h .int = some false) : callF T (n + 1) 0 [d, .int lo, .int top] h = .ok (.bl false) h := by
  rw [callF_succ (d := ⟨3, 3, b0⟩) rfl rfl]
  simp [b0, IX.start, hd]
theorem worth_eq {n : Nat} {h : Hh} {d : D} {top : Int} (hd : Thing h d) : callF T (n + 2) 1 [d, .int top] h = .ok (.bl (wB top d)) h := by
  rw [callF_succ (d := ⟨2, 2, b1⟩) rfl rfl]
  cases d with
  | int i => simp [b1, IX.start, number_int, wB]
  | bl k => simp [b1, IX.start, number_bl, wB]
  | lck _ => exact hd.elim
  | ref a =>
    obtain ⟨o, e, p⟩ := hd
    have q : isTy (.ref a) h .int = some false := by
      cases o with
      | ins _ _ => cases p
      | _ => simp [isTy, e]
    simp [b1, IX.start, number_no q, wB]
  | non => simp [b1, IX.start, number_no (h := h) (d := .non) rfl, wB]
  | str s => simp [b1, IX.start, number_no (h := h) (d := .str s) rfl, wB]
  | tup xs => simp [b1, IX.start, number_no (h := h) (d := .tup xs) rfl, wB]
theorem worth2_eq {n : Nat} {h : Hh} {d : D} {top : Int} (hd : Thing h d) : callF T (n + 1) 13 [d, .int top] h = .ok (.bl (wB top d)) h := by
  rw [callF_succ (d := ⟨2, 2, b13⟩) rfl rfl]
  cases d with
  | int i =>
    by_cases c : 0 ≤ i
    · simp [b13, IX.start, isTy, wB, c]
    · simp [b13, IX.start, isTy, wB, c]
  | lck _ => exact hd.elim
  | ref a =>
    obtain ⟨o, e, p⟩ := hd
    have q : isTy (.ref a) h .int = some false := by
      cases o with
      | ins _ _ => cases p
      | _ => simp [isTy, e]
    simp [b13, IX.start, q, wB]
  | _ => simp [b13, IX.start, isTy, wB]
def nB : D → Bool
  | .str x => nameB x
  | _ => false
theorem name_eq {n : Nat} {h : Hh} {d : D} (hd : Thing h d) : callF T (n + 1) 2 [d] h = .ok (.bl (nB d)) h ∧ callF T (n + 1) 12 [d] h = .ok (.bl (nB d)) h := by
  cases d with
  | str x => exact ⟨is_name_str hd, is_name2_str hd⟩
  | lck _ => exact hd.elim
  | ref a =>
    obtain ⟨o, e, p⟩ := hd
    have q : isTy (.ref a) h .str = some false := by
      cases o with
      | ins _ _ => cases p
      | _ => simp [isTy, e]
    exact ⟨is_name_no q, is_name2_no q⟩
  | _ => exact ⟨is_name_no rfl, is_name2_no rfl⟩

theorem hNext : T.fn 6 = some ⟨2, 4, bNext⟩ := rfl
theorem hPick : T.fn 7 = some ⟨2, 2, bPick 6⟩ := rfl
theorem hBegun : T.fn 5 = some ⟨2, 3, bBegun⟩ := rfl
theorem hNames : T.fn 8 = some ⟨2, 6, bNames 6 7⟩ := rfl
theorem hTop : T.fn 9 = some ⟨1, 1, bTop 7 6⟩ := rfl
theorem hNumber : T.fn 10 = some ⟨2, 4, bNumber 6⟩ := rfl
theorem hTerm : T.fn 11 = some ⟨4, 7, bTerm 11 6 7 10⟩ := rfl
theorem hChanged : T.fn 15 = some ⟨2, 7, bChanged 15 6⟩ := rfl
/-- what both say of a thing, k deep -/
def tB (top : Int) : Nat → D → Bool
  | 0, _ => false
  | k + 1, d => match d with
    | .tup [x, y] => (sB "number" x && wB top y) || (sB "box" x && nB y)
    | .tup [x, y, z] => (["plus", "less", "times", "part", "under", "same"] : List Str).any (fun w => sB w x) && (tB top k y && tB top k z)
    | _ => false
theorem sB_str {x : D} {w : Str} (h : sB w x = true) : x = .str w := by
  cases x <;> first | (cases h; done) | skip
  rename_i y
  exact congrArg D.str (eq_of_beq h)
theorem isStr {h : Hh} {s b l m : Nat} {x : D} (d : Dat h s b l m x) : isTy x h .str = some (match x with | .str _ => true | _ => false) := by
  cases x with
  | lck _ => rfl
  | ref a =>
    obtain ⟨o, e, p⟩ : ∃ o : O, h[a]? = some o ∧ o.plain = true := by cases m <;> exact d
    cases o with
    | ins _ _ => cases p
    | _ => simp only [isTy, e]
  | _ => rfl
theorem len23 {h : Hh} {j : Int} : inD (.int j) (.tup [.int 2, .int 3]) h = some ((2 == j) || ((3 == j) || false)) := rfl
variable {h : Hh} {s b l m : Nat} {top : Int}
theorem within_eq {n : Nat} (hs : s ≤ 16777216) : ∀ (k : Nat) {d : D}, Dat h s b l m d → callF T (n + k + 3) 3 [d, .int top, .int (k : Int)] h = .ok (.bl (tB top k d)) h := by
  intro k
  induction k with
  | zero =>
    intro d dt
    rw [callF_succ (d := ⟨3, 3, b3⟩) rfl rfl]
    have it := isTup dt
    cases d with
    | tup xs =>
      obtain ⟨L, hL⟩ : ∃ L : Int, L = (xs.length : Int) := ⟨_, rfl⟩
      have q1 : ∀ h, biD .len [.tup xs] h = .ok (.int L) h := fun h => by rw [hL]; rfl
      obtain ⟨cc, hcc⟩ : ∃ cc, ∀ h, inD (.int L) (.tup [.int 2, .int 3]) h = some cc := ⟨_, fun h => len23⟩
      cases cc with
      | true => simp [b3, IX.start, isTy, q1, hcc, tB]
      | false => simp [b3, IX.start, isTy, q1, hcc, tB]
    | _ =>
      simp only at it
      simp [b3, IX.start, it, tB]
  | succ k ih =>
    intro d dt
    rw [callF_succ (d := ⟨3, 3, b3⟩) rfl rfl]
    have it := isTup dt
    have ck : (((k + 1 : Nat) : Int) == 0) = false := by simp; omega
    have sk : ∀ h, binop .sub (.int ((k + 1 : Nat) : Int)) (.int 1) h = .ok (.int (k : Int)) h := fun h => by
      show R.ok (D.int (((k + 1 : Nat) : Int) - 1)) h = _
      rw [show (((k + 1 : Nat) : Int) - 1) = (k : Int) by omega]
    generalize hK : ((k + 1 : Nat) : Int) = Kk at ck sk
    show leave h (exec ⟨callF T (n + k + 3), T.meth, T.init⟩ b3 [some d, some (.int top), some (.int Kk)] h) = _
    cases d with
    | tup xs =>
      match xs, dt with
      | [x, y], dt =>
        have dx := dt.item x (by simp)
        have dy := dt.item y (by simp)
        have is := isStr dx
        have e1 := eqT_str (w := "number") dx
        have e2 := eqT_str (w := "box") dx
        have w := worth_eq (n := n + k + 1) (top := top) (dy.thing hs)
        have nm := (name_eq (n := n + k + 2) (dy.thing hs)).1
        have eb : tB top (k + 1) (.tup [x, y]) = ((sB "number" x && wB top y) || (sB "box" x && nB y)) := rfl
        rw [eb]
        cases x with
        | str z =>
          cases c1 : sB "number" (.str z) with
          | true =>
            have c2 : sB "box" (.str z) = false := by
              have := sB_str c1
              injection this with this
              rw [this]; decide +kernel
            rw [c1] at e1
            rw [c2] at e2
            rw [c2]
            cases c3 : wB top y with
            | true => rw [c3] at w; simp [b3, isTy, len23, ck, e1, w]
            | false => rw [c3] at w; simp [b3, isTy, len23, ck, e1, e2, w]
          | false =>
            rw [c1] at e1
            cases c2 : sB "box" (.str z) with
            | true => rw [c2] at e2; simp [b3, isTy, len23, ck, e1, e2, nm]
            | false => rw [c2] at e2; simp [b3, isTy, len23, ck, e1, e2]
        | _ =>
          simp only at is
          simp [b3, show ∀ q, isTy (.tup q) h .tuple = some true from fun _ => rfl, len23, ck, is, sB]
      | [x, y, z], dt =>
        have dx := dt.item x (by simp)
        have dy := ih (dt.item y (by simp))
        have dz := ih (dt.item z (by simp))
        have is := isStr dx
        have e3 : inD x (.tup [.str "plus", .str "less", .str "times", .str "part", .str "under", .str "same"]) h = some ((["plus", "less", "times", "part", "under", "same"] : List Str).any (fun w => sB w x)) := any_lits dx ["plus", "less", "times", "part", "under", "same"]
        obtain ⟨q, hq⟩ : ∃ q, q = (["plus", "less", "times", "part", "under", "same"] : List Str).any (fun w => sB w x) := ⟨_, rfl⟩
        have eb : tB top (k + 1) (.tup [x, y, z]) = (q && (tB top k y && tB top k z)) := by rw [hq]; rfl
        rw [← hq] at e3
        rw [eb]
        cases x with
        | str w =>
          cases q with
          | false => simp [b3, isTy, len23, ck, e3]
          | true =>
            cases c1 : tB top k y with
            | true => rw [c1] at dy; simp [b3, isTy, len23, ck, e3, sk, dy, dz]
            | false => rw [c1] at dy; simp [b3, isTy, len23, ck, e3, sk, dy]
        | _ =>
          have hq2 : q = false := by rw [hq]; rfl
          rw [hq2]
          simp only at is
          simp [b3, show ∀ q, isTy (.tup q) h .tuple = some true from fun _ => rfl, len23, ck, is]
      | [], dt => simp [b3, isTy, len23, tB]
      | [x], dt => simp [b3, isTy, len23, tB]
      | x :: y :: z :: u :: r, dt =>
        have c : ∀ h, inD (.int ((r.length : Int) + 1 + 1 + 1 + 1)) (.tup [.int 2, .int 3]) h = some false := fun h => by
          rw [len23]
          have a1 : ((2 : Int) == (r.length : Int) + 1 + 1 + 1 + 1) = false := by simp; omega
          have a2 : ((3 : Int) == (r.length : Int) + 1 + 1 + 1 + 1) = false := by simp; omega
          rw [a1, a2]; rfl
        simp [b3, isTy, c, tB]
    | _ =>
      simp only at it
      simp [b3, it, tB]
/-- the law's own look -/
theorem term2_eq {n : Nat} (hs : s ≤ 16777216) : ∀ (k : Nat) {d : D}, Dat h s b l m d → callF T (n + k + 3) 14 [d, .int top, .int (k : Int)] h = .ok (.bl (tB top k d)) h := by
  intro k
  induction k with
  | zero =>
    intro d dt
    rw [callF_succ (d := ⟨3, 3, b14⟩) rfl rfl]
    have it := isTup dt
    cases d with
    | tup xs => simp [b14, IX.start, isTy, tB]
    | _ =>
      simp only at it
      simp [b14, IX.start, it, tB]
  | succ k ih =>
    intro d dt
    rw [callF_succ (d := ⟨3, 3, b14⟩) rfl rfl]
    have it := isTup dt
    have ck : (((k + 1 : Nat) : Int) == 0) = false := by simp; omega
    have sk : ∀ h, binop .sub (.int ((k + 1 : Nat) : Int)) (.int 1) h = .ok (.int (k : Int)) h := fun h => by
      show R.ok (D.int (((k + 1 : Nat) : Int) - 1)) h = _
      rw [show (((k + 1 : Nat) : Int) - 1) = (k : Int) by omega]
    generalize hK : ((k + 1 : Nat) : Int) = Kk at ck sk
    show leave h (exec ⟨callF T (n + k + 3), T.meth, T.init⟩ b14 [some d, some (.int top), some (.int Kk)] h) = _
    cases d with
    | tup xs =>
      match xs, dt with
      | [x, y], dt =>
        have dx := dt.item x (by simp)
        have dy := dt.item y (by simp)
        have e1 := eqT_str (w := "number") dx
        have e2 := eqT_str (w := "box") dx
        have w := worth2_eq (n := n + k + 2) (top := top) (dy.thing hs)
        have nm := (name_eq (n := n + k + 2) (dy.thing hs)).2
        have eb : tB top (k + 1) (.tup [x, y]) = ((sB "number" x && wB top y) || (sB "box" x && nB y)) := rfl
        rw [eb]
        cases c1 : sB "number" x with
        | true =>
          have c2 : sB "box" x = false := by
            rw [sB_str c1]; decide +kernel
          rw [c1] at e1
          rw [c2]
          simp [b14, isTy, ck, e1, w]
        | false =>
          rw [c1] at e1
          cases c2 : sB "box" x with
          | true => rw [c2] at e2; simp [b14, isTy, ck, e1, e2, nm]
          | false => rw [c2] at e2; simp [b14, isTy, ck, e1, e2]
      | [x, y, z], dt =>
        have dx := dt.item x (by simp)
        have dy := ih (dt.item y (by simp))
        have dz := ih (dt.item z (by simp))
        have e3 : inD x (.tup [.str "plus", .str "less", .str "times", .str "part", .str "under", .str "same"]) h = some ((["plus", "less", "times", "part", "under", "same"] : List Str).any (fun w => sB w x)) := any_lits dx ["plus", "less", "times", "part", "under", "same"]
        obtain ⟨q, hq⟩ : ∃ q, q = (["plus", "less", "times", "part", "under", "same"] : List Str).any (fun w => sB w x) := ⟨_, rfl⟩
        have eb : tB top (k + 1) (.tup [x, y, z]) = (q && (tB top k y && tB top k z)) := by rw [hq]; rfl
        rw [← hq] at e3
        rw [eb]
        cases q with
        | false => simp [b14, isTy, ck, e3]
        | true =>
          cases c1 : tB top k y with
          | true => rw [c1] at dy; simp [b14, isTy, ck, e3, sk, dy, dz]
          | false => rw [c1] at dy; simp [b14, isTy, ck, e3, sk, dy]
      | [], dt => simp [b14, isTy, ck, tB]
      | [x], dt => simp [b14, isTy, ck, tB]
      | x :: y :: z :: u :: r, dt =>
        have a1 : ((r.length : Int) + 1 + 1 + 1 + 1 == 2) = false := by simp; omega
        have a2 : ((r.length : Int) + 1 + 1 + 1 + 1 == 3) = false := by simp; omega
        simp [b14, isTy, ck, a1, a2, tB]
    | _ =>
      simp only at it
      simp [b14, it, tB]
theorem is_term_eq {n : Nat} (hs : s ≤ 16777216) {d : D} (dt : Dat h s b l m d) : callF T (n + 12) 4 [d, .int top] h = .ok (.bl (tB top 8 d)) h := by
  rw [callF_succ (d := ⟨2, 2, b4⟩) rfl rfl]
  have e := within_eq (n := n) (top := top) hs 8 dt
  simp [b4, IX.start]
  rw [show ((8 : Nat) : Int) = 8 from rfl] at e
  rw [show n + 11 = n + 8 + 3 by omega, e]
  simp
end K02
end

section
set_option Elab.async false
set_option linter.all false
set_option maxRecDepth 100000
set_option maxHeartbeats 4000000
namespace K02
open PySem IX
section
open Classical
theorem loop_nil {f : D → St → Hh → R Fl} {t : Its} {σ : St} {h : Hh} (s1 : t.stands h) : loopF f t [] σ h = .ok (.nx σ) h := if_pos s1
theorem loop_cons {f : D → St → Hh → R Fl} {t : Its} {x : D} {r : List D} {σ σ1 : St} {h h1 : Hh} {q : R Fl} (s1 : t.stands h) (e : f x σ h = .ok (.nx σ1) h1) (e2 : loopF f t r σ1 h1 = q) : loopF f t (x :: r) σ h = q := by
  show (if t.stands h then (f x σ h).bind _ else _) = _
  rw [if_pos s1, e]
  exact e2
end
def bSteep : IX.S := (.seq (.set 4 (.call 6 (.cons (.loc 0) (.cons (.cst (.int 2)) .nil))))
    (.seq (.set 2 (.ite (.bop .eq (.loc 4) (.cst (.int 0))) (.tup (.cons (.cst (.str "under")) (.cons (.loc 2) (.cons (.tup (.cons (.cst (.str "number")) (.cons (.cst (.int 0)) .nil))) .nil)))) (.tup (.cons (.cst (.str "same")) (.cons (.tup (.cons (.cst (.str "number")) (.cons (.cst (.int 1)) .nil))) (.cons (.loc 2) .nil))))))
    .skip))
/-- a plain term of a size -/
def PD (m : Nat) (p : D) : Prop := p.pure = true ∧ ∀ h, Dat h 6 31 3 m p
theorem pd_step {m : Nat} {p : D} (hm : 1 ≤ m) (q : PD m p) : PD (m + 1) (.tup [.str "under", p, .tup [.str "number", .int 0]]) ∧ PD (m + 1) (.tup [.str "same", .tup [.str "number", .int 1], p]) := by
  have st : ∀ (w : Str) h m, w.length ≤ 6 → Dat h 6 31 3 m (.str w) := fun w h m hw => Flat.dat (d := .str w) hw m
  have nm : ∀ (i : Int) h, i.natAbs < 2 → Dat h 6 31 3 m (.tup [.str "number", .int i]) := fun i h hi => by
    cases m with
    | zero => omega
    | succ m => exact ⟨show 2 ≤ 3 by decide, fun x hx => by
        simp only [List.mem_cons, List.mem_nil_iff, or_false] at hx
        rcases hx with rfl | rfl
        · exact st _ _ _ (by decide +kernel)
        · exact Flat.dat (show Flat h 6 31 (.int i) from (show i.natAbs < 2 ^ 31 by show _ < 2147483648; omega)) m⟩
  refine ⟨⟨by simp [D.pure, D.pureL, q.1], fun h => ⟨show 3 ≤ 3 by decide, fun x hx => ?_⟩⟩, ⟨by simp [D.pure, D.pureL, q.1], fun h => ⟨show 3 ≤ 3 by decide, fun x hx => ?_⟩⟩⟩
  · simp only [List.mem_cons, List.mem_nil_iff, or_false] at hx
    rcases hx with rfl | rfl | rfl
    · exact st _ _ _ (by decide +kernel)
    · exact q.2 h
    · exact nm 0 h (by decide)
  · simp only [List.mem_cons, List.mem_nil_iff, or_false] at hx
    rcases hx with rfl | rfl | rfl
    · exact st _ _ _ (by decide +kernel)
    · exact nm 1 h (by decide)
    · exact q.2 h
theorem steep_loop {n a : Nat} {xs0 : List D} {x1 : Option D} : ∀ {xs : List D} {h : Hh} {c m : Nat} {p : D} {x3 x4 : Option D}, Dr h a c → c + xs.length ≤ 800000 → 1 ≤ m → PD m p →
    ∃ (p' : D) (o : O) (y3 y4 : Option D), loopF (lpF ⟨callF T (n + 1), T.meth, T.init⟩ [3] false bSteep) ⟨xs0, none⟩ xs [some (.ref a), x1, some p, x3, x4] h = .ok (.nx [some (.ref a), x1, some p', y3, y4]) (h.set a o) ∧ o.flat = true ∧ Dr (h.set a o) a (c + xs.length) ∧ PD (m + xs.length) p'
  | [], h, c, m, p, x3, x4, d, _, _, q => by
    obtain ⟨o, f, e⟩ := d.self
    exact ⟨p, o, x3, x4, by rw [e]; exact loop_nil trivial, f, by rw [e]; exact d, q⟩
  | x :: r, h, c, m, p, x3, x4, d, hc, hm, q => by
    rw [List.length_cons] at hc
    obtain ⟨w, o1, w0, w1, f1, _, d1, e1⟩ := next_eq (n := n) hNext (z := 2) d (by omega) (by decide) (by decide)
    have st := pd_step hm q
    obtain ⟨p1, hp1, turn⟩ : ∃ p1, PD (m + 1) p1 ∧ lpF ⟨callF T (n + 1), T.meth, T.init⟩ [3] false bSteep x [some (.ref a), x1, some p, x3, x4] h = .ok (.nx [some (.ref a), x1, some p1, some x, some (.int w)]) (h.set a o1) := by
      by_cases z : w = 0
      · subst z
        exact ⟨_, st.1, by rw [lpF_one]; simp [bSteep, e1]⟩
      · have hz : (w == 0) = false := by simpa using z
        exact ⟨_, st.2, by rw [lpF_one]; simp [bSteep, e1, hz]⟩
    obtain ⟨p', o, y3, y4, e, fo, dr, q'⟩ := steep_loop (n := n) (xs0 := xs0) (x1 := x1) (xs := r) d1 (by omega) (by omega) hp1
    rw [List.set_set] at e dr
    refine ⟨p', o, y3, y4, loop_cons trivial turn e, fo, dr.mono (by rw [List.length_cons]; omega), ?_⟩
    have : m + (x :: r).length = m + 1 + r.length := by rw [List.length_cons]; omega
    rw [this]; exact q'
theorem steep_eq {n a c m : Nat} {h : Hh} {j : Int} {p : D} (d : Dr h a c) (hc : c < 700000) (j0 : 0 ≤ j) (j1 : j ≤ 1000) (hm : 1 ≤ m) (q : PD m p) :
    ∃ (p' : D) (o : O), o.flat = true ∧ Dr (h.set a o) a (c + j.toNat) ∧ PD (m + j.toNat) p' ∧ callF T (n + 2) 16 [.ref a, .int j, p] h = .ok p' (h.set a o) := by
  rw [callF_succ (d := ⟨3, 5, b16⟩) rfl rfl]
  have it : evalIt ⟨callF T (n + 1), T.meth, T.init⟩ (.rng1 (.loc 1)) [some (.ref a), some (.int j), some p, none, none] h = .ok ⟨rangeL 0 j.toNat, none⟩ h := it_rng1 (j := j) rfl (by unfold small; simp; omega)
  obtain ⟨p', o, y3, y4, e, fo, dr, q'⟩ := steep_loop (n := n) (a := a) (xs0 := rangeL 0 j.toNat) (x1 := some (.int j)) (xs := rangeL 0 j.toNat) (x3 := none) (x4 := none) d (by rw [rangeL_len]; omega) hm q
  rw [rangeL_len] at dr q'
  have el := ex_loop it e
  refine ⟨p', o, fo, dr, q', ?_⟩
  have eb : b16 = .seq (.loop [3] false (.rng1 (.loc 1)) bSteep) (.seq (.ret (.loc 2)) .skip) := rfl
  show leave h (exec _ b16 [some (.ref a), some (.int j), some p, none, none] h) = _
  rw [eb]
  simp [el]
/-! ### both bounds for one thing -/
def bIn : IX.S := (.seq (.set 9 (.call 4 (.cons (.loc 7) (.cons (.loc 8) .nil))))
    (.seq (.ite (.or (.not (.isi (.loc 9) [.bool])) (.bop .ne (.loc 9) (.call 14 (.cons (.loc 7) (.cons (.loc 8) (.cons (.cst (.int 8)) .nil)))))) (.seq (.ret (.cst (.bl false)))
    .skip) .skip)
    .skip))
def bOut : IX.S := (.seq (.loop [8] false (.tup (.cons (.loc 3) (.cons (.loc 4) .nil))) bIn) .skip)
theorem out_eq {n : Nat} {H : Hh} {s b l m : Nat} {d : D} (hs : s ≤ 16777216) (dt : Dat H s b l m d) {x0 x1 x2 x5 x6 x8 x9 x10 : Option D} {t1 t2 : Int} :
    exec ⟨callF T (n + 12), T.meth, T.init⟩ bOut [x0, x1, x2, some (.int t1), some (.int t2), x5, x6, some d, x8, x9, x10] H = .ok (.nx [x0, x1, x2, some (.int t1), some (.int t2), x5, x6, some d, some (.int t2), some (.bl (tB t2 8 d)), x10]) H := by
  have e1 := fun t => is_term_eq (n := n) (top := t) hs dt
  have e2 : ∀ t : Int, callF T (n + 12) 14 [d, .int t, .int 8] H = .ok (.bl (tB t 8 d)) H := fun t => term2_eq (n := n + 1) (top := t) hs 8 dt
  have it : evalIt ⟨callF T (n + 12), T.meth, T.init⟩ (.tup (.cons (.loc 3) (.cons (.loc 4) .nil))) [x0, x1, x2, some (.int t1), some (.int t2), x5, x6, some d, x8, x9, x10] H = .ok ⟨[.int t1, .int t2], none⟩ H := it_val (x := .tup [.int t1, .int t2]) rfl (by simp) rfl
  have turn : ∀ t y8 y9, lpF ⟨callF T (n + 12), T.meth, T.init⟩ [8] false bIn (.int t) [x0, x1, x2, some (.int t1), some (.int t2), x5, x6, some d, y8, y9, x10] H = .ok (.nx [x0, x1, x2, some (.int t1), some (.int t2), x5, x6, some d, some (.int t), some (.bl (tB t 8 d)), x10]) H := fun t y8 y9 => by
    rw [lpF_one]
    simp [bIn, isTy, e1, e2]
  have lp : exec ⟨callF T (n + 12), T.meth, T.init⟩ (.loop [8] false (.tup (.cons (.loc 3) (.cons (.loc 4) .nil))) bIn) [x0, x1, x2, some (.int t1), some (.int t2), x5, x6, some d, x8, x9, x10] H = .ok (.nx [x0, x1, x2, some (.int t1), some (.int t2), x5, x6, some d, some (.int t2), some (.bl (tB t2 8 d)), x10]) H :=
    ex_loop it (loop_cons trivial (turn t1 x8 x9) (loop_cons trivial (turn t2 _ _) (loop_nil trivial)))
  simp [bOut, lp]
end K02
end

section
set_option Elab.async false
set_option linter.all false
set_option maxRecDepth 100000
set_option maxHeartbeats 4000000
namespace K02
open PySem IX
theorem b17_eq : b17 = (.seq (.set 2 (.call 5 (.cons (.loc 0) (.cons (.loc 1) .nil))))
    (.seq (.set 3 (.call 9 (.cons (.loc 2) .nil)))
    (.seq (.set 4 (.call 9 (.cons (.loc 2) .nil)))
    (.seq (.set 5 (.call 11 (.cons (.loc 2) (.cons (.loc 3) (.cons (.call 8 (.cons (.loc 2) (.cons (.cst (.int 3)) .nil))) (.cons (.bop .add (.cst (.int 1)) (.call 6 (.cons (.loc 2) (.cons (.cst (.int 3)) .nil)))) .nil))))))
    (.seq (.set 6 (.bop .add (.lst (.cons (.loc 5) .nil)) (.lc (.call 15 (.cons (.loc 2) (.cons (.loc 5) .nil))) [10] false (.rng1 (.cst (.int 4))) .nil)))
    (.seq (.set 6 (.bop .add (.loc 6) (.lst (.cons (.call 16 (.cons (.loc 2) (.cons (.bop .add (.cst (.int 5)) (.call 6 (.cons (.loc 2) (.cons (.cst (.int 4)) .nil)))) (.cons (.tup (.cons (.cst (.str "box")) (.cons (.cst (.str "x")) .nil))) .nil)))) (.cons (.call 16 (.cons (.loc 2) (.cons (.cst (.int 4)) (.cons (.loc 5) .nil)))) .nil)))))
    (.seq (.loop [7] false (.loc 6) bOut)
    (.seq (.ret (.cst (.bl true)))
    .skip)))))))) := rfl
theorem right_eq {n : Nat} {h : Hh} {cell k : Int} (k0 : 0 ≤ k) (k1 : k ≤ 1000000) : callF T (n + 20) 17 [.int cell, .int k] h = .ok (.bl true) h := by
  rw [callF_succ (d := ⟨2, 11, b17⟩) rfl rfl]
  obtain ⟨o0, d0, e0⟩ := begun_eq (n := n + 18) hBegun h cell k0 k1
  obtain ⟨t1, o1, a1, b1, _, _, d1, e1⟩ := top_eq (n := n + 16) hTop hPick hNext d0 (by decide)
  rw [set_mid] at d1 e1
  obtain ⟨t2, o2, a2, b2, _, _, d2, e2⟩ := top_eq (n := n + 16) hTop hPick hNext d1 (by decide)
  rw [set_mid] at d2 e2
  obtain ⟨u, Hn, ws, e3, s3, d3, g3, nu, lw, wl⟩ := names_eq (n := n + 16) (m := 3) hNames hPick hNext d2 (by decide) (by decide) (by decide)
  have la : h.length < Hn.length := by have := s3.len; simp at this; omega
  obtain ⟨r, o4, r0, r1, f4, _, d4, e4⟩ := next_eq (n := n + 18) hNext (z := 3) d3 (by decide) (by decide) (by decide)
  have tcb : tC (1 + r).toNat ≤ 100 := by
    have : (1 + r).toNat = 1 ∨ (1 + r).toNat = 2 ∨ (1 + r).toNat = 3 := by omega
    rcases this with h | h | h <;> rw [h] <;> decide
  obtain ⟨ka, o5, tk, f5, d5, e5⟩ := term_eq (n := n + 16 - (1 + r).toNat) (m := (1 + r).toNat) hTerm hPick hNext hNumber (by omega : 0 ≤ t1) nu (by intro z; rw [z] at lw; cases lw) (by omega) d4 (by omega) (set_other nu g3)
  rw [List.set_set] at d5 e5
  have mm : (((1 + r).toNat : Nat) : Int) = 1 + r := by omega
  rw [mm, show n + 16 - (1 + r).toNat + (1 + r).toNat + 3 = n + 19 by omega] at e5
  have sk : Src 6 31 3 4 ka := by
    have := tk.src wl b1
    have hm : (1 + r).toNat = 1 ∨ (1 + r).toNat = 2 ∨ (1 + r).toNat = 3 := by omega
    have up : ∀ {m : Nat} {d : D}, Src 6 31 3 m d → Src 6 31 3 (m + 1) d := by
      intro m
      induction m with
      | zero => intro d q; cases d <;> first | exact q | exact q.elim
      | succ m ih =>
        intro d q
        cases d with
        | tup xs => exact ⟨q.1, fun x hx => ih (q.2 x hx)⟩
        | int i => exact q
        | str x => exact q
        | _ => exact q.elim
    rcases hm with h | h | h
    · rw [h] at this; exact up (up this)
    · rw [h] at this; exact up this
    · rw [h] at this; exact this
  have pk : PD 4 ka := ⟨tk.pure, fun h => sk.dat⟩
  -- the changed ones
  obtain ⟨H, hH⟩ : ∃ H, H = Hn.set h.length o5 := ⟨_, rfl⟩
  have lH : H.length = Hn.length := by rw [hH]; exact List.length_set
  rw [← hH] at d5 e5
  have sH : IX.Step h.length Hn H := by rw [hH]; exact IX.Step.of_set f5
  obtain ⟨H1, hH1⟩ : ∃ H1, H1 = H ++ [O.lst [ka]] := ⟨_, rfl⟩
  have d6 : Dr H1 h.length 120 := by rw [hH1]; exact (d5.ext ⟨_, rfl⟩).mono (by omega)
  obtain ⟨vs, H2, e7, l7, s7, d7, p7⟩ := turns_step (a := h.length) (m := 30) (B := 1000) (I := fun _ => True) (Pv := fun H v => Dat H 2018 71 14 20 v) (xs0 := rangeL 0 4) (xs := rangeL 0 4) (h := H1)
    (f := lcF ⟨callF T (n + 19), T.meth, T.init⟩ (.call 15 (.cons (.loc 2) (.cons (.loc 5) .nil))) [10] false .nil [some (.int cell), some (.int k), some (.ref h.length), some (.int t1), some (.int t2), some ka, none, none, none, none, none])
    (by decide) (fun _ _ _ _ _ _ => trivial) (fun h h' c v pv st dr => Dat.mono (PK.step st dr) (Nat.le_refl _) (Nat.le_refl _) (Nat.le_refl _) (Nat.le_refl _) pv)
    (fun x hx h c dd hc _ => by
      obtain ⟨y, h', e, st, dr, dt⟩ := changed_eq (n := n + 13) hChanged hNext (s := 6) (b := 31) (l := 3) (by decide) (by decide) (by decide) dd (by omega) sk
      exact ⟨y, h', by simp [wipeD, e], st, dr.mono (by omega), Dat.mono PK.refl (by decide) (by decide) (by decide) (by decide) dt⟩) d6 trivial (by decide)
  have lvs : vs.length = 4 := l7
  have lc : evalE ⟨callF T (n + 19), T.meth, T.init⟩ (.lc (.call 15 (.cons (.loc 2) (.cons (.loc 5) .nil))) [10] false (.rng1 (.cst (.int 4))) .nil) [some (.int cell), some (.int k), some (.ref h.length), some (.int t1), some (.int t2), some ka, none, none, none, none, none] H1 = .ok (.ref H2.length) (H2 ++ [.lst vs]) :=
    ev_lc (it_rng1 (j := 4) rfl (by decide)) (by decide) e7
  have ne : h.length ≠ H.length := by omega
  have gH : H1[H.length]? = some (.lst [ka]) := by rw [hH1]; exact get_new
  have gH2 := s7.get ne gH
  have a8 : binop .add (.ref H.length) (.ref H2.length) (H2 ++ [.lst vs]) = .ok (.ref (H2.length + 1)) (H2 ++ [.lst vs, .lst (ka :: vs)]) := by
    have := op_addL (h := H2 ++ [.lst vs]) (u := H.length) (w := H2.length) (xs := [ka]) (ys := vs) (Ext.get ⟨_, rfl⟩ gH2) get_new (by rw [lvs]; show 1 + 4 ≤ _; omega)
    simpa using this
  rw [hH1] at lc
  -- the steep ones
  obtain ⟨H3, hH3⟩ : ∃ H3, H3 = H2 ++ [O.lst vs, .lst (ka :: vs)] := ⟨_, rfl⟩
  have lH3 : H3.length = H2.length + 2 := by rw [hH3]; simp
  have d8 : Dr H3 h.length 240 := by rw [hH3]; exact d7.ext ⟨_, rfl⟩
  obtain ⟨q, o8, q0, q1, f8, _, d9, e9⟩ := next_eq (n := n + 18) hNext (z := 4) d8 (by decide) (by decide) (by decide)
  have bx : PD 1 (.tup [.str "box", .str "x"]) := ⟨rfl, fun h => ⟨show 2 ≤ 3 by decide, fun x hx => by
    simp only [List.mem_cons, List.mem_nil_iff, or_false] at hx
    rcases hx with rfl | rfl
    · exact Flat.dat (show Flat h 6 31 (.str "box") from (by decide +kernel : (Str.ofString "box").length ≤ 6)) 0
    · exact Flat.dat (show Flat h 6 31 (.str "x") from (by decide +kernel : (Str.ofString "x").length ≤ 6)) 0⟩⟩
  obtain ⟨s1, o9, f9, dA, ps1, eA⟩ := steep_eq (n := n + 17) (j := 5 + q) d9 (by decide) (by omega) (by omega) (Nat.le_refl 1) bx
  rw [List.set_set] at dA eA
  obtain ⟨s2, o10, f10, dB, ps2, eB⟩ := steep_eq (n := n + 17) (j := 4) dA (by omega) (by decide) (by decide) (by decide) pk
  rw [List.set_set] at dB eB
  obtain ⟨H4, hH4⟩ : ∃ H4, H4 = H3.set h.length o10 := ⟨_, rfl⟩
  have lH4 : H4.length = H3.length := by rw [hH4]; exact List.length_set
  rw [← hH4] at dB eB
  have lt2 : Hn.length < H2.length := by have := s7.len; rw [hH1] at this; simp at this; omega
  have gL : H4[H2.length + 1]? = some (.lst (ka :: vs)) := by
    rw [hH4]; exact set_other (by omega) (by rw [hH3]; exact get_app)
  obtain ⟨zs, hzs⟩ : ∃ zs, zs = ka :: vs ++ [s1, s2] := ⟨_, rfl⟩
  have aC : binop .add (.ref (H2.length + 1)) (.ref H4.length) (H4 ++ [.lst [s1, s2]]) = .ok (.ref (H4.length + 1)) (H4 ++ [.lst [s1, s2], .lst zs]) := by
    have := op_addL (h := H4 ++ [.lst [s1, s2]]) (u := H2.length + 1) (w := H4.length) (xs := ka :: vs) (ys := [s1, s2]) (Ext.get ⟨_, rfl⟩ gL) get_new (by rw [List.length_cons, lvs]; show 4 + 1 + 2 ≤ _; omega)
    rw [← hzs] at this
    simpa using this
  obtain ⟨H9, hH9⟩ : ∃ H9, H9 = H4 ++ [O.lst [s1, s2], .lst zs] := ⟨_, rfl⟩
  have g9 : H9[H4.length + 1]? = some (.lst zs) := by rw [hH9]; exact get_app
  have s34 : IX.Step h.length H3 H4 := by rw [hH4]; exact IX.Step.of_set f10
  have s23 : IX.Step h.length H2 H3 := by rw [hH3]; exact (IX.Step.refl d7).app
  have s49 : IX.Step h.length H4 H9 := by rw [hH9]; exact (IX.Step.refl dB).app
  have dr9 : Dr H9 h.length (240 + 1 + (5 + q).toNat + (4 : Int).toNat) := by rw [hH9]; exact dB.ext ⟨_, rfl⟩
  have s29 : IX.Step h.length H2 H9 := (s23.trans d7.lt s34).trans d7.lt s49
  have dts : ∀ z ∈ zs, Dat H9 2018 71 14 20 z := by
    intro z hz
    rw [hzs] at hz
    rcases List.mem_append.mp hz with hz | hz
    · rcases List.mem_cons.mp hz with rfl | hz
      · exact Dat.mono (PK.refl (h := H9)) (by decide) (by decide) (by decide) (by decide) (sk.dat (h := H9))
      · exact Dat.mono (PK.step s29 dr9) (Nat.le_refl _) (Nat.le_refl _) (Nat.le_refl _) (Nat.le_refl _) (p7 z hz)
    · simp only [List.mem_cons, List.mem_nil_iff, or_false] at hz
      rcases hz with rfl | rfl
      · exact Dat.mono (PK.refl (h := H9)) (by decide) (by decide) (by decide) (by omega) (ps1.2 H9)
      · exact Dat.mono (PK.refl (h := H9)) (by decide) (by decide) (by decide) (by decide) (ps2.2 H9)
  have it : evalIt ⟨callF T (n + 19), T.meth, T.init⟩ (.loc 6) [some (.int cell), some (.int k), some (.ref h.length), some (.int t1), some (.int t2), some ka, some (.ref (H4.length + 1)), none, none, none, none] H9 = .ok ⟨zs, some (H4.length + 1, .lst zs)⟩ H9 :=
    it_val (x := .ref (H4.length + 1)) rfl rfl (by simp only [itemsD, g9])
  obtain ⟨σ', h', e, ⟨y7, y8, y9, y10, eσ⟩, eh⟩ := loop_inv (f := lpF ⟨callF T (n + 19), T.meth, T.init⟩ [7] false bOut) (t := ⟨zs, some (H4.length + 1, .lst zs)⟩)
    (I := fun σ H => (∃ y7 y8 y9 y10, σ = [some (.int cell), some (.int k), some (.ref h.length), some (.int t1), some (.int t2), some ka, some (.ref (H4.length + 1)), y7, y8, y9, y10]) ∧ H = H9) (fun σ H i => by rw [i.2]; exact g9)
    (xs := zs) (σ := [some (.int cell), some (.int k), some (.ref h.length), some (.int t1), some (.int t2), some ka, some (.ref (H4.length + 1)), none, none, none, none]) (h := H9)
    (fun z hz σ H ⟨⟨y7, y8, y9, y10, e⟩, eH⟩ => by
      subst e eH
      refine ⟨_, _, lpF_one.trans (out_eq (n := n + 7) (by decide) (dts z hz)), ⟨_, _, _, _, rfl⟩, rfl⟩) ⟨⟨_, _, _, _, rfl⟩, rfl⟩
  subst eσ
  rw [eh] at e
  have el : exec ⟨callF T (n + 19), T.meth, T.init⟩ (.loop [7] false (.loc 6) bOut) [some (.int cell), some (.int k), some (.ref h.length), some (.int t1), some (.int t2), some ka, some (.ref (H4.length + 1)), none, none, none, none] H9 = _ := ex_loop it e
  have extH : Ext h H9 := by
    have q2 : IX.Step h.length H H1 := by rw [hH1]; exact (IX.Step.refl d5).app
    have l0 : h.length < (h ++ [o2]).length := by simp
    have q3 : IX.Step h.length (h ++ [o2]) H9 := (((s3.trans l0 sH).trans l0 q2).trans l0 s7).trans l0 s29
    obtain ⟨o, f, xx⟩ := q3
    rw [set_mid] at xx
    exact Ext.trans ⟨_, rfl⟩ xx
  show leave h (exec ⟨callF T (n + 19), T.meth, T.init⟩ b17 [some (.int cell), some (.int k), none, none, none, none, none, none, none, none, none] h) = _
  rw [b17_eq]
  rw [← hH3] at a8
  rw [← hH9] at aC
  simp [e0, e1, e2, e3, e4, e5, lc, a8, e9, eA, eB, aC, el]
  exact extH.gc (d := .bl true) rfl
end K02
end

section
set_option Elab.async false
set_option linter.all false
set_option maxRecDepth 100000
set_option maxHeartbeats 4000000
namespace K02
open PySem IX
def bCell : IX.S := (.seq (.ite (.not (.call 17 (.cons (.loc 2) (.cons (.loc 1) .nil)))) (.seq (.ret (.cst (.bl false)))
    .skip) .skip)
    .skip)
def eCells : IX.E := (.enum (.slc (.bop .add (.loc 0) (.lst (.cons (.cst (.int 3)) .nil))) .nil (.bi .max (.cons (.cst (.int 1)) (.cons (.bi .min (.cons (.cst (.int 16)) (.cons (.bi .len (.cons (.loc 0) .nil)) .nil))) .nil)))))
def bDeep : IX.S := (.seq (.set 3 (.tup (.cons (.cst (.str "plus")) (.cons (.loc 3) (.cons (.tup (.cons (.cst (.str "number")) (.cons (.cst (.int 1)) .nil))) .nil)))))
    .skip)
theorem b18_eq : b18 = (.seq (.loop [1, 2] true eCells bCell)
    (.seq (.set 3 (.tup (.cons (.cst (.str "box")) (.cons (.cst (.str "x")) .nil))))
    (.seq (.loop [1] false (.rng1 (.cst (.int 3000))) bDeep)
    (.seq (.ret (.and (.bop .is_ (.call 4 (.cons (.loc 3) (.cons (.cst (.int 9)) .nil))) (.cst (.bl false))) (.bop .is_ (.call 4 (.cons (.lst (.cons (.loc 3) .nil)) (.cons (.cst (.int 9)) .nil))) (.cst (.bl false)))))
    .skip)))) := rfl
theorem cells_eq {ns : List Int} (hl : ns.length ≤ 63) : ∃ (x1 x2 : Option D) (H : Hh), exec ⟨callF T 59, T.meth, T.init⟩ (.loop [1, 2] true eCells bCell) [some (.lck (ns.map D.int)), none, none, none] [] = .ok (.nx [some (.lck (ns.map D.int)), x1, x2, none]) H := by
  obtain ⟨zs, hz⟩ : ∃ zs : List D, zs = ns.map D.int ++ [.int 3] := ⟨_, rfl⟩
  have lz : zs.length ≤ 64 := by rw [hz]; simp; omega
  obtain ⟨L, hL⟩ : ∃ L : Int, L = ((ns.map D.int).length : Int) := ⟨_, rfl⟩
  have q1 : ∀ h, biD .len [.lck (ns.map D.int)] h = .ok (.int L) h := fun h => by rw [hL]; rfl
  obtain ⟨m, hm⟩ : ∃ m : Int, ∀ h, biD .max [.int 1, .int (if L < 16 then L else 16)] h = .ok (.int m) h := ⟨_, fun _ => rfl⟩
  have q2 : ∀ h, biD .min [.int 16, .int L] h = .ok (.int (if L < 16 then L else 16)) h := fun _ => rfl
  have ad : binop .add (.lck (ns.map D.int)) (.ref 0) [.lst [.int 3]] = .ok (.ref 1) [.lst [.int 3], .lst zs] := by
    rw [hz]
    show (if (ns.map D.int).length + [D.int 3].length ≤ line then R.new (.lst (ns.map D.int ++ [D.int 3])) [.lst [.int 3]] else R.bad) = _
    rw [if_pos (by simp; have : line = 16777216 := rfl; omega)]
    rfl
  have sl : slcD (.ref 1) none (some m) [.lst [.int 3], .lst zs] = .ok (.ref 2) [.lst [.int 3], .lst zs, .lst (cutD zs none (some m))] := rfl
  have lc : (cutD zs none (some m)).length ≤ 64 := Nat.le_trans cut_lenD lz
  have mc : ∀ x ∈ cutD zs none (some m), ∃ i : Int, x = .int i := fun x hx => by
    have h1 : x ∈ zs := cut_sub x hx
    rw [hz] at h1
    rcases List.mem_append.mp h1 with h1 | h1
    · obtain ⟨i, _, rfl⟩ := List.mem_map.mp h1; exact ⟨i, rfl⟩
    · simp at h1; exact ⟨3, h1⟩
  obtain ⟨cs, hcs⟩ : ∃ cs, cs = cutD zs none (some m) := ⟨_, rfl⟩
  rw [← hcs] at sl lc mc
  have it : evalIt ⟨callF T 59, T.meth, T.init⟩ eCells [some (.lck (ns.map D.int)), none, none, none] [] = .ok ⟨enumFrom 0 cs, some (2, .lst cs)⟩ [.lst [.int 3], .lst zs, .lst cs] :=
    it_enumD (x := .ref 2) (by simp [ad, q1, q2, hm, sl]) rfl
  obtain ⟨σ', h', e, ⟨x1, x2, eσ⟩, hh⟩ := loop_inv (f := lpF ⟨callF T 59, T.meth, T.init⟩ [1, 2] true bCell) (t := ⟨enumFrom 0 cs, some (2, .lst cs)⟩)
    (I := fun σ H => (∃ x1 x2, σ = [some (.lck (ns.map D.int)), x1, x2, none]) ∧ H = [.lst [.int 3], .lst zs, .lst cs]) (fun σ H i => by rw [i.2]; rfl) (xs := enumFrom 0 cs) (σ := [some (.lck (ns.map D.int)), none, none, none]) (h := [.lst [.int 3], .lst zs, .lst cs])
    (fun x hx σ H ⟨⟨x1, x2, e⟩, eH⟩ => by
      subst e eH
      obtain ⟨k, y, rfl, my, _, lk⟩ := enum_mem hx
      obtain ⟨i, rfl⟩ := mc y my
      have r := right_eq (n := 39) (h := [.lst [.int 3], .lst zs, .lst cs]) (cell := i) (k := (k : Int)) (by omega) (by omega)
      refine ⟨[some (.lck (ns.map D.int)), some (.int k), some (.int i), none], [.lst [.int 3], .lst zs, .lst cs], ?_, ⟨some (.int k), some (.int i), rfl⟩, rfl⟩
      rw [lpF_tup (σ1 := [some (.lck (ns.map D.int)), some (.int k), some (.int i), none]) rfl]
      simp [bCell, r]) ⟨⟨_, _, rfl⟩, rfl⟩
  subst eσ
  exact ⟨x1, x2, h', ex_loop it e⟩
/-- a box with n sums about it -/
def dp : Nat → D
  | 0 => .tup [.str "box", .str "x"]
  | n + 1 => .tup [.str "plus", dp n, .tup [.str "number", .int 1]]
theorem dp_dat {h : Hh} : ∀ n, Dat h 6 31 3 (n + 1) (dp n)
  | 0 => ⟨show 2 ≤ 3 by decide, fun x hx => by
    simp only [List.mem_cons, List.mem_nil_iff, or_false] at hx
    rcases hx with rfl | rfl
    · exact (by decide +kernel : (Str.ofString "box").length ≤ 6)
    · exact (by decide +kernel : (Str.ofString "x").length ≤ 6)⟩
  | n + 1 => ⟨show 3 ≤ 3 by decide, fun x hx => by
    simp only [List.mem_cons, List.mem_nil_iff, or_false] at hx
    rcases hx with rfl | rfl | rfl
    · exact (by decide +kernel : (Str.ofString "plus").length ≤ 6)
    · exact dp_dat n
    · exact ⟨show 2 ≤ 3 by decide, fun y hy => by
        simp only [List.mem_cons, List.mem_nil_iff, or_false] at hy
        rcases hy with rfl | rfl
        · exact Flat.dat (show Flat h 6 31 (.str "number") from (by decide +kernel : (Str.ofString "number").length ≤ 6)) n
        · exact Flat.dat (show Flat h 6 31 (.int 1) from (show 1 < 2 ^ 31 by decide)) n⟩⟩
theorem dp_no {top : Int} : ∀ (j r : Nat), tB top j (dp (j + r)) = false
  | 0, r => rfl
  | j + 1, r => by
    have e : j + 1 + r = (j + r) + 1 := by omega
    rw [e]
    have eb : ∀ x y z : D, tB top (j + 1) (.tup [x, y, z]) = ((["plus", "less", "times", "part", "under", "same"] : List Str).any (fun w => sB w x) && (tB top j y && tB top j z)) := fun _ _ _ => rfl
    show tB top (j + 1) (.tup [.str "plus", dp (j + r), .tup [.str "number", .int 1]]) = false
    rw [eb, dp_no j r, Bool.false_and, Bool.and_false]
theorem deep_loop {P : Pg} {xs0 : List D} {x0 x2 : Option D} {H : Hh} : ∀ {xs : List D} {j : Nat} {x1 : Option D}, ∃ y1, loopF (lpF P [1] false bDeep) ⟨xs0, none⟩ xs [x0, x1, x2, some (dp j)] H = .ok (.nx [x0, y1, x2, some (dp (j + xs.length))]) H
  | [], j, x1 => ⟨x1, loop_nil trivial⟩
  | x :: r, j, x1 => by
    obtain ⟨y1, e⟩ := deep_loop (P := P) (xs0 := xs0) (x0 := x0) (x2 := x2) (H := H) (xs := r) (j := j + 1) (x1 := some x)
    have t : lpF P [1] false bDeep x [x0, x1, x2, some (dp j)] H = .ok (.nx [x0, some x, x2, some (dp (j + 1))]) H := by
      rw [lpF_one]
      simp [bDeep, dp]
    refine ⟨y1, ?_⟩
    have : j + (x :: r).length = j + 1 + r.length := by rw [List.length_cons]; omega
    rw [this]
    exact loop_cons trivial t e
theorem law_true : ∀ ns : List Int, ns.length ≤ 63 → ∃ h', callF T 60 18 [.lck (ns.map D.int)] [] = .ok (.bl true) h' := by
  intro ns hl
  rw [callF_succ (n := 59) (d := ⟨1, 4, b18⟩) rfl rfl]
  obtain ⟨x1, x2, H, e1⟩ := cells_eq hl
  obtain ⟨y1, e2⟩ := deep_loop (P := ⟨callF T 59, T.meth, T.init⟩) (xs0 := rangeL 0 (3000 : Int).toNat) (x0 := some (.lck (ns.map D.int))) (x2 := x2) (H := H) (xs := rangeL 0 (3000 : Int).toNat) (j := 0) (x1 := x1)
  have e3 : exec ⟨callF T 59, T.meth, T.init⟩ (.loop [1] false (.rng1 (.cst (.int 3000))) bDeep) [some (.lck (ns.map D.int)), x1, x2, some (dp 0)] H = _ := ex_loop (it_rng1 (j := 3000) rfl (by decide)) e2
  rw [rangeL_len] at e3
  obtain ⟨N, hN, h8⟩ : ∃ N : Nat, 0 + (3000 : Int).toNat = N ∧ 8 ≤ N := ⟨_, rfl, by decide⟩
  rw [hN] at e3
  have n1 : tB 9 8 (dp N) = false := by
    have := dp_no (top := 9) 8 (N - 8)
    rw [show 8 + (N - 8) = N by omega] at this; exact this
  have c1 := is_term_eq (n := 47) (top := 9) (h := H) (s := 6) (b := 31) (l := 3) (m := N + 1) (by decide) (dp_dat N)
  rw [n1] at c1
  have c2 := is_term_eq (n := 47) (top := 9) (h := H ++ [.lst [dp N]]) (s := 6) (b := 31) (l := 3) (m := 0) (d := .ref H.length) (by decide) ⟨.lst [dp N], get_new, rfl⟩
  have n2 : tB 9 8 (.ref H.length) = false := rfl
  rw [n2] at c2
  have isf : isD (.bl false) (.bl false) = some true := rfl
  have d0 : D.tup [.str "box", .str "x"] = dp 0 := rfl
  refine ⟨IX.gc [] (.bl true) (H ++ [.lst [dp N]]), ?_⟩
  show leave [] (exec ⟨callF T 59, T.meth, T.init⟩ b18 [some (.lck (ns.map D.int)), none, none, none] []) = _
  rw [b18_eq]
  simp only [ex_seq]
  rw [e1]
  simp only [kseq_nx, ex_seq, ex_set, ev_tup, evs_cons, evs_nil, ev_cst, ka1_ok, ka2_ok, ktup_ok, List.length_cons, List.length_nil, kset_ok, List.set]
  simp only [show (0 + 1 + 1 ≤ 16777216) from by decide, if_true, kset_ok, kseq_nx, List.set_cons_succ, List.set_cons_zero, d0]
  rw [ex_seq, e3]
  simp [c1, c2, isf]
end K02
end
section
set_option Elab.async false
set_option linter.all false
set_option maxRecDepth 100000
set_option maxHeartbeats 4000000
namespace K02
open PySem PySem.Spec PyProof.Rows L2 IX
theorem all_mk {l : PySem.W.OpenLaw} {w : World} {K : PySem.W.Frag} {h : Heap} {mg : Str → Option Value} {fa : Addr} (X : K.In h) (Gn : h.Ns mainGlobals mg) (hfa : mg "law" = some (.ref fa))
    {f0 f1 f2 f3 f4 f5 f6 f7 f8 f9 f10 f11 f12 f13 f14 f15 f16 f17 f18 : Addr} {od0 an0 od1 an1 od2 an2 od3 an3 od4 an4 od5 an5 od6 an6 od7 an7 od8 an8 od9 an9 od10 an10 od11 an11 od12 an12 od13 an13 od14 an14 od15 an15 od16 an16 od17 an17 od18 an18 : Option Addr} {sl0 sl1 sl2 sl3 sl4 sl5 sl6 sl7 sl8 sl9 sl10 sl11 sl12 sl13 sl14 sl15 sl16 sl17 sl18 : Array (Option Value)} {oc0 kV0 dc0 pm0 cd0 ct0 oc1 kV1 dc1 pm1 cd1 ct1 oc2 kV2 dc2 pm2 cd2 ct2 oc3 kV3 dc3 pm3 cd3 ct3 oc4 kV4 dc4 pm4 cd4 ct4 oc5 kV5 dc5 pm5 cd5 ct5 oc6 kV6 dc6 pm6 cd6 ct6 oc7 kV7 dc7 pm7 cd7 ct7 oc8 kV8 dc8 pm8 cd8 ct8 oc9 kV9 dc9 pm9 cd9 ct9 oc10 kV10 dc10 pm10 cd10 ct10 oc11 kV11 dc11 pm11 cd11 ct11 oc12 kV12 dc12 pm12 cd12 ct12 oc13 kV13 dc13 pm13 cd13 ct13 oc14 kV14 dc14 pm14 cd14 ct14 oc15 kV15 dc15 pm15 cd15 ct15 oc16 kV16 dc16 pm16 cd16 ct16 oc17 kV17 dc17 pm17 cd17 ct17 oc18 kV18 dc18 pm18 cd18 ct18 : Value} {tk0 : Tok} {tk1 : Tok} {p2 : Addr} {pd2 : Option Addr} {pn2 : Nat} {ps2 : Array (Option Value)} {tk2_0 tk2_1 tk2_2 tk2_3 tk2_4 tk2_5 tk2_6 tk2_7 tk2_8 tk2_9 tk2_10 tk2_11 tk2_12 tk2_13 tk2_14 tk2_15 tk2_16 : Tok} {p3 : Addr} {pd3 : Option Addr} {pn3 : Nat} {ps3 : Array (Option Value)} {tk3_0 tk3_1 tk3_2 tk3_3 tk3_4 tk3_5 : Tok} {tk4 : Tok}
    (a0 : PySem.W.nsIn K mainGlobals "is_number" = some (some (.ref f0))) (l0 : K.lookup f0 = some ⟨oc0, od0, .func (PySem.W.fnOf "is_number" "is_number" (defArgs (top 4)) (defBody (top 4)) (defScope (top 4)) .none kV0 dc0 pm0 an0 cd0 ct0), sl0⟩) (c0 : PySem.W.codeIn K cd0 "is_number" = true) (k0 : PySem.W.keepIn K (.ref f0) = true)
    (a1 : PySem.W.nsIn K mainGlobals "is_worth" = some (some (.ref f1))) (l1 : K.lookup f1 = some ⟨oc1, od1, .func (PySem.W.fnOf "is_worth" "is_worth" (defArgs (top 5)) (defBody (top 5)) (defScope (top 5)) .none kV1 dc1 pm1 an1 cd1 ct1), sl1⟩) (c1 : PySem.W.codeIn K cd1 "is_worth" = true) (k1 : PySem.W.keepIn K (.ref f1) = true)
    (a2 : PySem.W.nsIn K mainGlobals "is_name" = some (some (.ref f2))) (l2 : K.lookup f2 = some ⟨oc2, od2, .func (PySem.W.fnOf "is_name" "is_name" (defArgs (top 6)) (defBody (top 6)) (defScope (top 6)) .none kV2 dc2 pm2 an2 cd2 ct2), sl2⟩) (c2 : PySem.W.codeIn K cd2 "is_name" = true) (k2 : PySem.W.keepIn K (.ref f2) = true)
    (a3 : PySem.W.nsIn K mainGlobals "is_within" = some (some (.ref f3))) (l3 : K.lookup f3 = some ⟨oc3, od3, .func (PySem.W.fnOf "is_within" "is_within" (defArgs (top 11)) (defBody (top 11)) (defScope (top 11)) .none kV3 dc3 pm3 an3 cd3 ct3), sl3⟩) (c3 : PySem.W.codeIn K cd3 "is_within" = true) (k3 : PySem.W.keepIn K (.ref f3) = true)
    (a4 : PySem.W.nsIn K mainGlobals "is_term" = some (some (.ref f4))) (l4 : K.lookup f4 = some ⟨oc4, od4, .func (PySem.W.fnOf "is_term" "is_term" (defArgs (top 12)) (defBody (top 12)) (defScope (top 12)) .none kV4 dc4 pm4 an4 cd4 ct4), sl4⟩) (c4 : PySem.W.codeIn K cd4 "is_term" = true) (k4 : PySem.W.keepIn K (.ref f4) = true)
    (a5 : PySem.W.nsIn K mainGlobals "_law_begun" = some (some (.ref f5))) (l5 : K.lookup f5 = some ⟨oc5, od5, .func (PySem.W.fnOf "_law_begun" "_law_begun" (defArgs (top 14)) (defBody (top 14)) (defScope (top 14)) .none kV5 dc5 pm5 an5 cd5 ct5), sl5⟩) (c5 : PySem.W.codeIn K cd5 "_law_begun" = true) (k5 : PySem.W.keepIn K (.ref f5) = true)
    (a6 : PySem.W.nsIn K mainGlobals "_law_next" = some (some (.ref f6))) (l6 : K.lookup f6 = some ⟨oc6, od6, .func (PySem.W.fnOf "_law_next" "_law_next" (defArgs (top 15)) (defBody (top 15)) (defScope (top 15)) .none kV6 dc6 pm6 an6 cd6 ct6), sl6⟩) (c6 : PySem.W.codeIn K cd6 "_law_next" = true) (k6 : PySem.W.keepIn K (.ref f6) = true)
    (a7 : PySem.W.nsIn K mainGlobals "_law_pick" = some (some (.ref f7))) (l7 : K.lookup f7 = some ⟨oc7, od7, .func (PySem.W.fnOf "_law_pick" "_law_pick" (defArgs (top 16)) (defBody (top 16)) (defScope (top 16)) .none kV7 dc7 pm7 an7 cd7 ct7), sl7⟩) (c7 : PySem.W.codeIn K cd7 "_law_pick" = true) (k7 : PySem.W.keepIn K (.ref f7) = true)
    (a8 : PySem.W.nsIn K mainGlobals "_law_names" = some (some (.ref f8))) (l8 : K.lookup f8 = some ⟨oc8, od8, .func (PySem.W.fnOf "_law_names" "_law_names" (defArgs (top 17)) (defBody (top 17)) (defScope (top 17)) .none kV8 dc8 pm8 an8 cd8 ct8), sl8⟩) (c8 : PySem.W.codeIn K cd8 "_law_names" = true) (k8 : PySem.W.keepIn K (.ref f8) = true)
    (a9 : PySem.W.nsIn K mainGlobals "_law_top" = some (some (.ref f9))) (l9 : K.lookup f9 = some ⟨oc9, od9, .func (PySem.W.fnOf "_law_top" "_law_top" (defArgs (top 18)) (defBody (top 18)) (defScope (top 18)) .none kV9 dc9 pm9 an9 cd9 ct9), sl9⟩) (c9 : PySem.W.codeIn K cd9 "_law_top" = true) (k9 : PySem.W.keepIn K (.ref f9) = true)
    (a10 : PySem.W.nsIn K mainGlobals "_law_number" = some (some (.ref f10))) (l10 : K.lookup f10 = some ⟨oc10, od10, .func (PySem.W.fnOf "_law_number" "_law_number" (defArgs (top 19)) (defBody (top 19)) (defScope (top 19)) .none kV10 dc10 pm10 an10 cd10 ct10), sl10⟩) (c10 : PySem.W.codeIn K cd10 "_law_number" = true) (k10 : PySem.W.keepIn K (.ref f10) = true)
    (a11 : PySem.W.nsIn K mainGlobals "_law_term" = some (some (.ref f11))) (l11 : K.lookup f11 = some ⟨oc11, od11, .func (PySem.W.fnOf "_law_term" "_law_term" (defArgs (top 20)) (defBody (top 20)) (defScope (top 20)) .none kV11 dc11 pm11 an11 cd11 ct11), sl11⟩) (c11 : PySem.W.codeIn K cd11 "_law_term" = true) (k11 : PySem.W.keepIn K (.ref f11) = true)
    (a12 : PySem.W.nsIn K mainGlobals "_law_is_name" = some (some (.ref f12))) (l12 : K.lookup f12 = some ⟨oc12, od12, .func (PySem.W.fnOf "_law_is_name" "_law_is_name" (defArgs (top 21)) (defBody (top 21)) (defScope (top 21)) .none kV12 dc12 pm12 an12 cd12 ct12), sl12⟩) (c12 : PySem.W.codeIn K cd12 "_law_is_name" = true) (k12 : PySem.W.keepIn K (.ref f12) = true)
    (a13 : PySem.W.nsIn K mainGlobals "_law_is_worth" = some (some (.ref f13))) (l13 : K.lookup f13 = some ⟨oc13, od13, .func (PySem.W.fnOf "_law_is_worth" "_law_is_worth" (defArgs (top 22)) (defBody (top 22)) (defScope (top 22)) .none kV13 dc13 pm13 an13 cd13 ct13), sl13⟩) (c13 : PySem.W.codeIn K cd13 "_law_is_worth" = true) (k13 : PySem.W.keepIn K (.ref f13) = true)
    (a14 : PySem.W.nsIn K mainGlobals "_law_is_term" = some (some (.ref f14))) (l14 : K.lookup f14 = some ⟨oc14, od14, .func (PySem.W.fnOf "_law_is_term" "_law_is_term" (defArgs (top 23)) (defBody (top 23)) (defScope (top 23)) .none kV14 dc14 pm14 an14 cd14 ct14), sl14⟩) (c14 : PySem.W.codeIn K cd14 "_law_is_term" = true) (k14 : PySem.W.keepIn K (.ref f14) = true)
    (a15 : PySem.W.nsIn K mainGlobals "_law_changed" = some (some (.ref f15))) (l15 : K.lookup f15 = some ⟨oc15, od15, .func (PySem.W.fnOf "_law_changed" "_law_changed" (defArgs (top 24)) (defBody (top 24)) (defScope (top 24)) .none kV15 dc15 pm15 an15 cd15 ct15), sl15⟩) (c15 : PySem.W.codeIn K cd15 "_law_changed" = true) (k15 : PySem.W.keepIn K (.ref f15) = true)
    (a16 : PySem.W.nsIn K mainGlobals "_law_steep" = some (some (.ref f16))) (l16 : K.lookup f16 = some ⟨oc16, od16, .func (PySem.W.fnOf "_law_steep" "_law_steep" (defArgs (top 25)) (defBody (top 25)) (defScope (top 25)) .none kV16 dc16 pm16 an16 cd16 ct16), sl16⟩) (c16 : PySem.W.codeIn K cd16 "_law_steep" = true) (k16 : PySem.W.keepIn K (.ref f16) = true)
    (a17 : PySem.W.nsIn K mainGlobals "_law_right" = some (some (.ref f17))) (l17 : K.lookup f17 = some ⟨oc17, od17, .func (PySem.W.fnOf "_law_right" "_law_right" (defArgs (top 26)) (defBody (top 26)) (defScope (top 26)) .none kV17 dc17 pm17 an17 cd17 ct17), sl17⟩) (c17 : PySem.W.codeIn K cd17 "_law_right" = true) (k17 : PySem.W.keepIn K (.ref f17) = true)
    (a18 : PySem.W.nsIn K mainGlobals "law" = some (some (.ref f18))) (l18 : K.lookup f18 = some ⟨oc18, od18, .func (PySem.W.fnOf "law" "law" (defArgs (top 27)) (defBody (top 27)) (defScope (top 27)) .none kV18 dc18 pm18 an18 cd18 ct18), sl18⟩) (c18 : PySem.W.codeIn K cd18 "law" = true) (k18 : PySem.W.keepIn K (.ref f18) = true)
    (u0 : PySem.W.nsIn K mainGlobals "LETTERS" = some (some (.str "abcdefghijklmnopqrstuvwxyz" tk0)))
    (u1 : PySem.W.nsIn K mainGlobals "MOST_LETTERS" = some (some (.int (6) tk1)))
    (u2 : PySem.W.nsIn K mainGlobals "TAKEN_WORDS" = some (some (.ref p2))) (v2 : K.lookup p2 = some ⟨.type "tuple", pd2, .seq #[.str "always" tk2_0, .str "catch" tk2_1, .str "close" tk2_2, .str "done" tk2_3, .str "else" tk2_4, .str "end" tk2_5, .str "halt" tk2_6, .str "if" tk2_7, .str "leave" tk2_8, .str "next" tk2_9, .str "none" tk2_10, .str "put" tk2_11, .str "send" tk2_12, .str "throw" tk2_13, .str "top" tk2_14, .str "try" tk2_15, .str "while" tk2_16] pn2, ps2⟩)
    (u3 : PySem.W.nsIn K mainGlobals "WORDS" = some (some (.ref p3))) (v3 : K.lookup p3 = some ⟨.type "tuple", pd3, .seq #[.str "plus" tk3_0, .str "less" tk3_1, .str "times" tk3_2, .str "part" tk3_3, .str "under" tk3_4, .str "same" tk3_5] pn3, ps3⟩)
    (u4 : PySem.W.nsIn K mainGlobals "MOST_DEEP" = some (some (.int (8) tk4)))
    (z0 : PySem.W.nsIn K mainGlobals "len" = some none) (z1 : PySem.W.nsIn K mainGlobals "max" = some none) (z2 : PySem.W.nsIn K mainGlobals "min" = some none) (z3 : PySem.W.nsIn K mainGlobals "int" = some none) (z4 : PySem.W.nsIn K mainGlobals "str" = some none) (z5 : PySem.W.nsIn K mainGlobals "list" = some none) (z6 : PySem.W.nsIn K mainGlobals "tuple" = some none) (z7 : PySem.W.nsIn K mainGlobals "all" = some none) (z8 : PySem.W.nsIn K mainGlobals "isinstance" = some none) (z9 : PySem.W.nsIn K mainGlobals "range" = some none) (z10 : PySem.W.nsIn K mainGlobals "enumerate" = some none) (z11 : PySem.W.nsIn K mainGlobals "bool" = some none) (z12 : PySem.W.nsIn K mainGlobals "dict" = some none) :
    ∃ fd : FuncData, (∀ (s : Shared) (v : Value), BindsTo s fd ⟨[v], []⟩ [("_law_script", v)]) ∧ ∀ base : Heap, K.In base → base.Ns mainGlobals mg → FnOk l.prog w K mg base (L2.CX l.prog w) 60 fa fd ["_law_script"] (IX.spLaw K) := by
  have e := hfa.symm.trans (PySem.W.mg_of X Gn a18)
  cases e
  have D0 := def_at (G := G) (T := T) (f := 0) (fuel := 60) (d := ⟨3, N0.length, b0⟩) X Gn a0 l0 c0 k0 sc0 (fun _ _ _ _ _ _ us hl => match us, hl with | [_, _, _], _ => rfl) rfl rfl rfl ok0
  have D1 := def_at (G := G) (T := T) (f := 1) (fuel := 60) (d := ⟨2, N1.length, b1⟩) X Gn a1 l1 c1 k1 sc1 (fun _ _ _ _ _ _ us hl => match us, hl with | [_, _], _ => rfl) rfl rfl rfl ok1
  have D2 := def_at (G := G) (T := T) (f := 2) (fuel := 60) (d := ⟨1, N2.length, b2⟩) X Gn a2 l2 c2 k2 sc2 (fun _ _ _ _ _ _ us hl => match us, hl with | [_], _ => rfl) rfl rfl rfl ok2
  have D3 := def_at (G := G) (T := T) (f := 3) (fuel := 60) (d := ⟨3, N3.length, b3⟩) X Gn a3 l3 c3 k3 sc3 (fun _ _ _ _ _ _ us hl => match us, hl with | [_, _, _], _ => rfl) rfl rfl rfl ok3
  have D4 := def_at (G := G) (T := T) (f := 4) (fuel := 60) (d := ⟨2, N4.length, b4⟩) X Gn a4 l4 c4 k4 sc4 (fun _ _ _ _ _ _ us hl => match us, hl with | [_, _], _ => rfl) rfl rfl rfl ok4
  have D5 := def_at (G := G) (T := T) (f := 5) (fuel := 60) (d := ⟨2, N5.length, b5⟩) X Gn a5 l5 c5 k5 sc5 (fun _ _ _ _ _ _ us hl => match us, hl with | [_, _], _ => rfl) rfl rfl rfl ok5
  have D6 := def_at (G := G) (T := T) (f := 6) (fuel := 60) (d := ⟨2, N6.length, b6⟩) X Gn a6 l6 c6 k6 sc6 (fun _ _ _ _ _ _ us hl => match us, hl with | [_, _], _ => rfl) rfl rfl rfl ok6
  have D7 := def_at (G := G) (T := T) (f := 7) (fuel := 60) (d := ⟨2, N7.length, b7⟩) X Gn a7 l7 c7 k7 sc7 (fun _ _ _ _ _ _ us hl => match us, hl with | [_, _], _ => rfl) rfl rfl rfl ok7
  have D8 := def_at (G := G) (T := T) (f := 8) (fuel := 60) (d := ⟨2, N8.length, b8⟩) X Gn a8 l8 c8 k8 sc8 (fun _ _ _ _ _ _ us hl => match us, hl with | [_, _], _ => rfl) rfl rfl rfl ok8
  have D9 := def_at (G := G) (T := T) (f := 9) (fuel := 60) (d := ⟨1, N9.length, b9⟩) X Gn a9 l9 c9 k9 sc9 (fun _ _ _ _ _ _ us hl => match us, hl with | [_], _ => rfl) rfl rfl rfl ok9
  have D10 := def_at (G := G) (T := T) (f := 10) (fuel := 60) (d := ⟨2, N10.length, b10⟩) X Gn a10 l10 c10 k10 sc10 (fun _ _ _ _ _ _ us hl => match us, hl with | [_, _], _ => rfl) rfl rfl rfl ok10
  have D11 := def_at (G := G) (T := T) (f := 11) (fuel := 60) (d := ⟨4, N11.length, b11⟩) X Gn a11 l11 c11 k11 sc11 (fun _ _ _ _ _ _ us hl => match us, hl with | [_, _, _, _], _ => rfl) rfl rfl rfl ok11
  have D12 := def_at (G := G) (T := T) (f := 12) (fuel := 60) (d := ⟨1, N12.length, b12⟩) X Gn a12 l12 c12 k12 sc12 (fun _ _ _ _ _ _ us hl => match us, hl with | [_], _ => rfl) rfl rfl rfl ok12
  have D13 := def_at (G := G) (T := T) (f := 13) (fuel := 60) (d := ⟨2, N13.length, b13⟩) X Gn a13 l13 c13 k13 sc13 (fun _ _ _ _ _ _ us hl => match us, hl with | [_, _], _ => rfl) rfl rfl rfl ok13
  have D14 := def_at (G := G) (T := T) (f := 14) (fuel := 60) (d := ⟨3, N14.length, b14⟩) X Gn a14 l14 c14 k14 sc14 (fun _ _ _ _ _ _ us hl => match us, hl with | [_, _, _], _ => rfl) rfl rfl rfl ok14
  have D15 := def_at (G := G) (T := T) (f := 15) (fuel := 60) (d := ⟨2, N15.length, b15⟩) X Gn a15 l15 c15 k15 sc15 (fun _ _ _ _ _ _ us hl => match us, hl with | [_, _], _ => rfl) rfl rfl rfl ok15
  have D16 := def_at (G := G) (T := T) (f := 16) (fuel := 60) (d := ⟨3, N16.length, b16⟩) X Gn a16 l16 c16 k16 sc16 (fun _ _ _ _ _ _ us hl => match us, hl with | [_, _, _], _ => rfl) rfl rfl rfl ok16
  have D17 := def_at (G := G) (T := T) (f := 17) (fuel := 60) (d := ⟨2, N17.length, b17⟩) X Gn a17 l17 c17 k17 sc17 (fun _ _ _ _ _ _ us hl => match us, hl with | [_, _], _ => rfl) rfl rfl rfl ok17
  have D18 := def_at (G := G) (T := T) (f := 18) (fuel := 60) (d := ⟨1, N18.length, b18⟩) X Gn a18 l18 c18 k18 sc18 (fun _ _ _ _ _ _ us hl => match us, hl with | [_], _ => rfl) rfl rfl rfl ok18
  have M : Mods K mg G T := mods_of (tbl := tbl) ⟨cst_str X Gn u0 (by decide +kernel), cst_int X Gn u1, cst_tup X Gn u2 v2 (.cons (.str _ _ (by decide +kernel)) (.cons (.str _ _ (by decide +kernel)) (.cons (.str _ _ (by decide +kernel)) (.cons (.str _ _ (by decide +kernel)) (.cons (.str _ _ (by decide +kernel)) (.cons (.str _ _ (by decide +kernel)) (.cons (.str _ _ (by decide +kernel)) (.cons (.str _ _ (by decide +kernel)) (.cons (.str _ _ (by decide +kernel)) (.cons (.str _ _ (by decide +kernel)) (.cons (.str _ _ (by decide +kernel)) (.cons (.str _ _ (by decide +kernel)) (.cons (.str _ _ (by decide +kernel)) (.cons (.str _ _ (by decide +kernel)) (.cons (.str _ _ (by decide +kernel)) (.cons (.str _ _ (by decide +kernel)) (.cons (.str _ _ (by decide +kernel)) (.nil)))))))))))))))))) (by show 17 ≤ line; decide), ⟨_, _, _, D0⟩, ⟨_, _, _, D1⟩, ⟨_, _, _, D2⟩, cst_tup X Gn u3 v3 (.cons (.str _ _ (by decide +kernel)) (.cons (.str _ _ (by decide +kernel)) (.cons (.str _ _ (by decide +kernel)) (.cons (.str _ _ (by decide +kernel)) (.cons (.str _ _ (by decide +kernel)) (.cons (.str _ _ (by decide +kernel)) (.nil))))))) (by show 6 ≤ line; decide), cst_int X Gn u4, ⟨_, _, _, D3⟩, ⟨_, _, _, D4⟩, ⟨_, _, _, D5⟩, ⟨_, _, _, D6⟩, ⟨_, _, _, D7⟩, ⟨_, _, _, D8⟩, ⟨_, _, _, D9⟩, ⟨_, _, _, D10⟩, ⟨_, _, _, D11⟩, ⟨_, _, _, D12⟩, ⟨_, _, _, D13⟩, ⟨_, _, _, D14⟩, ⟨_, _, _, D15⟩, ⟨_, _, _, D16⟩, ⟨_, _, _, D17⟩, ⟨_, _, _, D18⟩, trivial⟩ (non_of X Gn z0 z1 z2 z3 z4 z5 z6 z7 z8 z9 z10 z11 z12)
  exact ⟨_, fun s v => .of_eq rfl, fun base _ _ => law_fn M D18 law_true⟩
end K02
open PySem PySem.W PyProof.Rows
set_option maxRecDepth 100000 in
set_option maxHeartbeats 0 in
theorem PySem.Challenge.cw_pausebook_k02_terms_changed_anywhere_holds : PySem.Challenge.rw_pausebook_k02_terms_changed_anywhere.Holds := by
  w_on; o_law; k_head; (case hw => w_witness2)
  k_fill
  refine IX.walk_law (l := PySem.Challenge.rw_pausebook_k02_terms_changed_anywhere) (x := "_law_script") rfl rfl (fun w h Y => PySem.W.kIn_of Y) ?F
  case F =>
    intro w mg fa h KX Gn hmg
    refine' K02.all_mk KX Gn hmg ?a0 ?l0 ?c0 ?k0 ?a1 ?l1 ?c1 ?k1 ?a2 ?l2 ?c2 ?k2 ?a3 ?l3 ?c3 ?k3 ?a4 ?l4 ?c4 ?k4 ?a5 ?l5 ?c5 ?k5 ?a6 ?l6 ?c6 ?k6 ?a7 ?l7 ?c7 ?k7 ?a8 ?l8 ?c8 ?k8 ?a9 ?l9 ?c9 ?k9 ?a10 ?l10 ?c10 ?k10 ?a11 ?l11 ?c11 ?k11 ?a12 ?l12 ?c12 ?k12 ?a13 ?l13 ?c13 ?k13 ?a14 ?l14 ?c14 ?k14 ?a15 ?l15 ?c15 ?k15 ?a16 ?l16 ?c16 ?k16 ?a17 ?l17 ?c17 ?k17 ?a18 ?l18 ?c18 ?k18 ?u0 ?u1 ?u2 ?v2 ?u3 ?v3 ?u4 ?z0 ?z1 ?z2 ?z3 ?z4 ?z5 ?z6 ?z7 ?z8 ?z9 ?z10 ?z11 ?z12
    (case a0 => k_is)
    (case l0 => k_is)
    (case c0 => k_is)
    (case k0 => k_is)
    (case a1 => k_is)
    (case l1 => k_is)
    (case c1 => k_is)
    (case k1 => k_is)
    (case a2 => k_is)
    (case l2 => k_is)
    (case c2 => k_is)
    (case k2 => k_is)
    (case a3 => k_is)
    (case l3 => k_is)
    (case c3 => k_is)
    (case k3 => k_is)
    (case a4 => k_is)
    (case l4 => k_is)
    (case c4 => k_is)
    (case k4 => k_is)
    (case a5 => k_is)
    (case l5 => k_is)
    (case c5 => k_is)
    (case k5 => k_is)
    (case a6 => k_is)
    (case l6 => k_is)
    (case c6 => k_is)
    (case k6 => k_is)
    (case a7 => k_is)
    (case l7 => k_is)
    (case c7 => k_is)
    (case k7 => k_is)
    (case a8 => k_is)
    (case l8 => k_is)
    (case c8 => k_is)
    (case k8 => k_is)
    (case a9 => k_is)
    (case l9 => k_is)
    (case c9 => k_is)
    (case k9 => k_is)
    (case a10 => k_is)
    (case l10 => k_is)
    (case c10 => k_is)
    (case k10 => k_is)
    (case a11 => k_is)
    (case l11 => k_is)
    (case c11 => k_is)
    (case k11 => k_is)
    (case a12 => k_is)
    (case l12 => k_is)
    (case c12 => k_is)
    (case k12 => k_is)
    (case a13 => k_is)
    (case l13 => k_is)
    (case c13 => k_is)
    (case k13 => k_is)
    (case a14 => k_is)
    (case l14 => k_is)
    (case c14 => k_is)
    (case k14 => k_is)
    (case a15 => k_is)
    (case l15 => k_is)
    (case c15 => k_is)
    (case k15 => k_is)
    (case a16 => k_is)
    (case l16 => k_is)
    (case c16 => k_is)
    (case k16 => k_is)
    (case a17 => k_is)
    (case l17 => k_is)
    (case c17 => k_is)
    (case k17 => k_is)
    (case a18 => k_is)
    (case l18 => k_is)
    (case c18 => k_is)
    (case k18 => k_is)
    (case u0 => k_is)
    (case u1 => k_is)
    (case u2 => k_is)
    (case v2 => k_is)
    (case u3 => k_is)
    (case v3 => k_is)
    (case u4 => k_is)
    (case z0 => k_is)
    (case z1 => k_is)
    (case z2 => k_is)
    (case z3 => k_is)
    (case z4 => k_is)
    (case z5 => k_is)
    (case z6 => k_is)
    (case z7 => k_is)
    (case z8 => k_is)
    (case z9 => k_is)
    (case z10 => k_is)
    (case z11 => k_is)
    (case z12 => k_is)
end
