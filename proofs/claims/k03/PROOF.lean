import PyProof.Rows.All
import HandS.ForMost
import HandS.TupAny
import HandS.IsInst
import HandS.Wide
import HandS.Deep
import PyProof.EqKinds
import PyProof.NeKinds
import HandS.RaiseMore
import HandS.More
import PyProof.Rows.StrMeet
import HandS.Flow
import HandS.Exc
import HandS.WordsExc
import HandS.TryOnly
import PyProof.FactsAll.str_0
import PyProof.FactsAll.str_5
import PyProof.FactsAll.str_7
import PyProof.FactsAll.str_8
import PyProof.FactsAll.list_0
import PyProof.FactsAll.list_3
import KE.KRevSl
import HandS.Style
import HandS.SetFor
import HandS.Zip
import PyProof.Rows.SortStr
import PyProof.Rows.SortShellSt
import HandS.Small
import HandS.Ends
import PySem.Challenge.RW_pausebook_k03_whole_worths
section
set_option Elab.async false
set_option linter.all false
set_option maxRecDepth 100000
/-! IX1: own values, own heap, own code, the interpreter. -/
namespace IX
open PySem

/-- values: tuples are trees; lck: a list that is only read (the script); a ref is a place in the own heap -/
inductive D where
  | non | bl (b : Bool) | int (i : Int) | str (x : Str) | tup (xs : List D) | lck (xs : List D) | ref (a : Nat)
/-- objects: a list; a dict; an instance of a class -/
inductive O where
  | lst (xs : List D) | dic (kvs : List (D × D)) | ins (c : Nat) (fs : List (Str × D))
abbrev Hh := List O
inductive R (α : Type) where
  | ok (a : α) (h : Hh) | ex (c : Nat) (fs : List (Str × D)) (h : Hh) | bad
def R.bind {α β : Type} (m : R α) (f : α → Hh → R β) : R β := match m with
  | .ok a h => f a h
  | .ex c fs h => .ex c fs h
  | .bad => .bad

/-- nothing may be raised here -/
def R.calm {α : Type} (m : R α) : R α := match m with
  | .ok a h => .ok a h
  | _ => .bad

inductive Op where
  | add | sub | mul | fdiv | mod | pow | eq | ne | lt | le | gt | ge | isin | notin | is_ | isnot
inductive Ty where
  | int | bool | str | tuple | list | dict | own (c : Nat)
inductive Bi where
  | len | max | min | int | str | list | tuple | all | sorted | sortset | sum | repr | dict
inductive Me where
  | split | join | upper | append | insert | index | count | get | items | clear
/-- code: expressions; nil and cons build argument lists (nil is also: left out) -/
inductive E where
  | loc (i : Nat) | cst (d : D) | nil | cons (e r : E)
  | bop (o : Op) (a b : E) | cmp2 (o p : Op) (a b c : E) | neg (a : E) | not (a : E) | and (a b : E) | or (a b : E) | ite (c a b : E)
  | tup (es : E) | lst (es : E) | dic (es : E) | idx (a b : E) | slc (a lo hi : E) | rev (a : E)
  | isi (a : E) (ts : List Ty) | call (f : Nat) (es : E) | bi (b : Bi) (es : E) | me (m : Me) (a es : E)
  | meth (m : Nat) (a es : E) | fld (a : E) (f : Str) | mk (c : Nat) (es : E)
  | rng1 (a : E) | rng2 (a b : E) | enum (a : E) | zip (a b : E)
  | lc (elt : E) (g : List Nat) (tp : Bool) (it c : E)
inductive S where
  | skip | seq (a b : S) | set (i : Nat) (e : E) | unp (is : List Nat) (e : E) | exp (e : E) | ret (e : E) | ite (c : E) (a b : S)
  | whl (c : E) (b : S) | loop (g : List Nat) (tp : Bool) (it : E) (b : S) | brk | cnt
  | seti (a i e : E) | setf (a : E) (f : Str) (e : E) | aug (i : Nat) (o : Op) (e : E) | augf (a : E) (f : Str) (o : Op) (e : E)
abbrev St := List (Option D)
/-- how a statement ends -/
inductive Fl where
  | nx (σ : St) | rt (d : D) | bk (σ : St) | ct (σ : St)

/-- the most signs of a text, the most items of a list or tuple -/
abbrev line : Nat := 16777216

/-! ### operations -/
def O.seq? : O → Option (List D)
  | .lst xs => some xs
  | _ => none
/-- an object that == tells from scalars and from tuples -/
def O.plain : O → Bool
  | .lst _ => true
  | .dic _ => true
  | _ => false
/-- the items of a list -/
def listD (x : D) (h : Hh) : Option (List D) := match x with
  | .lck xs => some xs
  | .ref a => h[a]?.bind O.seq?
  | _ => none
/-- a new object -/
def R.new (o : O) (h : Hh) : R D := .ok (.ref h.length) (h ++ [o])
def strD (x : Str) (h : Hh) : R D := if x.length ≤ line then .ok (.str x) h else .bad
def addD (x y : D) (h : Hh) : R D := match x, y with
  | .int i, .int j => .ok (.int (i + j)) h
  | .str i, .str j => strD (i ++ j) h
  | .tup i, .tup j => if i.length + j.length ≤ line then .ok (.tup (i ++ j)) h else .bad
  | x, y => match listD x h, listD y h with
    | some xs, some ys => if xs.length + ys.length ≤ line then R.new (.lst (xs ++ ys)) h else .bad
    | _, _ => .bad
def subD (x y : D) (h : Hh) : R D := match x, y with
  | .int i, .int j => .ok (.int (i - j)) h
  | _, _ => .bad
def mulD (x y : D) (h : Hh) : R D := match x, y with
  | .int i, .int j => if i.natAbs < 2 ^ 64 ∨ j.natAbs < 2 ^ 64 then .ok (.int (i * j)) h else .bad
  | .ref a, .int k => match h[a]? with
    | some (.lst xs) => if -(2 ^ 62) ≤ k ∧ k ≤ 2 ^ 62 ∧ xs.length * k.toNat ≤ line then R.new (.lst (List.replicate k.toNat xs).flatten) h else .bad
    | _ => .bad
  | _, _ => .bad
def fdivD (x y : D) (h : Hh) : R D := match x, y with
  | .int i, .int j => if 0 < j ∧ j < 2 ^ 1000 then .ok (.int (i / j)) h else .bad
  | _, _ => .bad
def modD (x y : D) (h : Hh) : R D := match x, y with
  | .int i, .int j => if 0 < j then .ok (.int (i % j)) h else .bad
  | _, _ => .bad
def powD (x y : D) (h : Hh) : R D := match x, y with
  | .int i, .int j => if 0 ≤ j ∧ j ≤ 1000000 ∧ i.natAbs < 2 ^ 64 then .ok (.int (i ^ j.toNat)) h else .bad
  | _, _ => .bad
def eqL (f : D → D → Option Bool) : List D → List D → Option Bool
  | x :: xs, y :: ys => match f x y, eqL f xs ys with
    | some a, some b => some (a && b)
    | _, _ => none
  | _, _ => some true
/-- two objects -/
def eqRef (f : D → D → Option Bool) (h : Hh) (a b : Nat) : Option Bool := match h[a]?, h[b]? with
  | some oa, some ob => match oa.seq?, ob.seq? with
    | some xs, some ys => if xs.length = ys.length then eqL f xs ys else some false
    | some _, none => if ob.plain then some false else none
    | none, some _ => if oa.plain then some false else none
    | none, none => none
  | _, _ => none
/-- == : none where it is not told -/
def eqD (h : Hh) : Nat → D → D → Option Bool
  | 0, _, _ => none
  | n + 1, x, y => match x, y with
    | .non, .non => some true
    | .bl a, .bl b => some (a == b)
    | .bl a, .int b => some ((if a then 1 else 0) == b)
    | .int a, .bl b => some (a == (if b then 1 else 0))
    | .int a, .int b => some (a == b)
    | .str a, .str b => some (a == b)
    | .tup xs, .tup ys => (eqL (eqD h n) xs ys).map fun b => b && xs.length == ys.length
    | .ref a, .ref b => if a = b then (if (h[a]?.map O.plain) = some true then some true else none) else eqRef (eqD h n) h a b
    | .lck _, _ => none
    | _, .lck _ => none
    | .ref a, _ => if (h[a]?.map O.plain) = some true then some false else none
    | _, .ref b => if (h[b]?.map O.plain) = some true then some false else none
    | _, _ => some false
abbrev deep : Nat := 60
def isDic (h : Hh) : D → Bool
  | .ref a => match h[a]? with
    | some (.dic _) => true
    | _ => false
  | _ => false
/-- a dict's key -/
def keyD : D → Option L2.Key
  | .int i => some (.inl i)
  | .str x => some (.inr x)
  | _ => none
def lookD (k : D) : List (D × D) → Option D
  | [] => none
  | (j, v) :: r => if keyD j = keyD k then some v else lookD k r
/-- x == y, x != y as an expression's -/
def eqT (h : Hh) (x y : D) : Option Bool := match x, y with
  | .ref a, .ref b => if a = b then (if isDic h x then none else eqD h deep x y) else eqD h deep x y
  | x, y => eqD h deep x y
def neT (h : Hh) (x y : D) : Option Bool := if isDic h x || isDic h y then none else (eqT h x y).map (!·)
def bl! (b : Option Bool) (h : Hh) : R D := match b with
  | some b => .ok (.bl b) h
  | none => .bad
def neD (b : Option Bool) (h : Hh) : R D := match b with
  | some b => .ok (.bl (!b)) h
  | none => .bad
/-- the pairs of one dict in another one -/
def eqKV (f : D → D → Option Bool) (kb : List (D × D)) : List (D × D) → Option Bool
  | [] => some true
  | (k, v) :: r => match lookD k kb with
    | none => some false
    | some w => match f v w, eqKV f kb r with
      | some a, some b => some (a && b)
      | _, _ => none
def dicD (h : Hh) : D → Option (List (D × D))
  | .ref a => match h[a]? with
    | some (.dic kvs) => some kvs
    | _ => none
  | _ => none
def eqDD (h : Hh) (ka kb : List (D × D)) : Option Bool := if ka.length = kb.length then eqKV (eqD h deep) kb ka else some false
def eqTD (h : Hh) (x y : D) : Option Bool := match dicD h x, dicD h y with
  | some ka, some kb => eqDD h ka kb
  | _, _ => eqT h x y
def neTD (h : Hh) (x y : D) : Option Bool := match dicD h x, dicD h y with
  | some ka, some kb => (eqDD h ka kb).map (!·)
  | _, _ => neT h x y
/-- some item is equal -/
def anyD (h : Hh) (x : D) : List D → Option Bool
  | [] => some false
  | y :: ys => match eqD h deep y x, anyD h x ys with
    | some a, some b => some (a || b)
    | _, _ => none
def putD (k v : D) (kvs : List (D × D)) : List (D × D) :=
  if (kvs.any fun p => decide (keyD p.1 = keyD k)) = true then kvs.map (fun p => if keyD p.1 = keyD k then (p.1, v) else p) else kvs ++ [(k, v)]
def inD (x y : D) (h : Hh) : Option Bool := match y with
  | .tup ys => anyD h x ys
  | .str z => match x with
    | .str a => some (!(Builtin.Str.occurrences z a 0 z.length 1).isEmpty)
    | _ => none
  | .ref a => match h[a]? with
    | some (.lst ys) => anyD h x ys
    | some (.dic kvs) => if (keyD x).isSome then some (lookD x kvs).isSome else none
    | _ => none
  | _ => none
/-- is: of None, True, False alone -/
def isD (x y : D) : Option Bool := match x, y with
  | _, .non => match x with
    | .non => some true
    | _ => some false
  | _, .bl b => match x with
    | .bl a => some (a == b)
    | _ => some false
  | _, _ => none
def cmpD (p : Int → Int → Bool) (x y : D) (h : Hh) : R D := match x, y with
  | .int i, .int j => .ok (.bl (p i j)) h
  | _, _ => .bad
def binop (o : Op) (x y : D) (h : Hh) : R D := match o with
  | .add => addD x y h | .sub => subD x y h | .mul => mulD x y h | .fdiv => fdivD x y h | .mod => modD x y h | .pow => powD x y h
  | .eq => bl! (eqTD h x y) h | .ne => bl! (neTD h x y) h
  | .lt => cmpD (fun i j => decide (i < j)) x y h | .le => cmpD (fun i j => decide (i ≤ j)) x y h
  | .gt => cmpD (fun i j => decide (j < i)) x y h | .ge => cmpD (fun i j => decide (j ≤ i)) x y h
  | .isin => bl! (inD x y h) h | .notin => neD (inD x y h) h
  | .is_ => bl! (isD x y) h | .isnot => neD (isD x y) h
def truth (x : D) (h : Hh) : Option Bool := match x with
  | .non => some false | .bl b => some b | .int i => some (i != 0) | .str x => some ((x.length : Int) != 0) | .tup xs => some (!xs.isEmpty) | .lck xs => some (!xs.isEmpty)
  | .ref a => match h[a]? with
    | some (.lst xs) => some (!xs.isEmpty)
    | some (.dic kvs) => some (!kvs.isEmpty)
    | _ => none
/-- x[i] -/
def idxD (x i : D) (h : Hh) : R D := match x, i with
  | .tup xs, .int i => match L2.atI xs i with
    | some v => .ok v h
    | none => .bad
  | .lck xs, .int i => match L2.atI xs i with
    | some v => .ok v h
    | none => .bad
  | .str z, .int i => match L2.atI z.cps.toList i with
    | some c => .ok (.str ⟨#[c]⟩) h
    | none => .bad
  | .ref a, k => match h[a]? with
    | some (.lst xs) => match k with
      | .int i => match L2.atI xs i with
        | some v => .ok v h
        | none => .bad
      | _ => .bad
    | some (.dic kvs) => if (keyD k).isSome then match lookD k kvs with
      | some v => .ok v h
      | none => .bad
      else .bad
    | _ => .bad
  | _, _ => .bad
/-- the items of xs[lo:hi] -/
def cutD (xs : List D) (lo hi : Option Int) : List D := (xs.drop (HT.sIx xs.length 0 lo)).take (HT.sIx xs.length xs.length hi - HT.sIx xs.length 0 lo)
def slcD (x : D) (lo hi : Option Int) (h : Hh) : R D := match x with
  | .tup xs => .ok (.tup (cutD xs lo hi)) h
  | .str z => .ok (.str (L2.cutS z lo hi)) h
  | x => match listD x h with
    | some xs => R.new (.lst (cutD xs lo hi)) h
    | none => .bad
def revD (x : D) (h : Hh) : R D := match x with
  | .tup xs => .ok (.tup xs.reverse) h
  | x => match listD x h with
    | some xs => R.new (.lst xs.reverse) h
    | none => .bad
def isTy (x : D) (h : Hh) (t : Ty) : Option Bool := match x with
  | .non => match t with
    | .own _ => none
    | _ => some false
  | .bl _ => match t with
    | .int => some true | .bool => some true | .own _ => none | _ => some false
  | .int _ => match t with
    | .int => some true | .own _ => none | _ => some false
  | .str _ => match t with
    | .str => some true | .own _ => none | _ => some false
  | .tup _ => match t with
    | .tuple => some true | .own _ => none | _ => some false
  | .lck _ => match t with
    | .list => some true | .own _ => none | _ => some false
  | .ref a => match h[a]? with
    | some (.lst _) => match t with
      | .list => some true | .own _ => none | _ => some false
    | some (.dic _) => match t with
      | .dict => some true | .own _ => none | _ => some false
    | _ => none
def isAny (x : D) (h : Hh) : List Ty → Option Bool
  | [] => some false
  | t :: ts => match isTy x h t, isAny x h ts with
    | some a, some b => some (a || b)
    | _, _ => none
/-- the items of what may be walked, and what has to stay meanwhile -/
def itemsD (x : D) (h : Hh) : Option (List D × Option (Nat × O)) := match x with
  | .tup xs => some (xs, none)
  | .lck xs => some (xs, none)
  | .str z => some (z.cps.toList.map fun c => .str ⟨#[c]⟩, none)
  | .ref a => match h[a]? with
    | some (.lst xs) => some (xs, some (a, .lst xs))
    | _ => none
  | _ => none
/-- .. by enumerate: of lists -/
def enumD (x : D) (h : Hh) : Option (List D × Option (Nat × O)) := match x with
  | .lck xs => some (xs, none)
  | .ref a => match h[a]? with
    | some (.lst xs) => some (xs, some (a, .lst xs))
    | _ => none
  | _ => none
def allBl : List D → Option Bool
  | [] => some true
  | .bl b :: r => (allBl r).map fun c => b && c
  | _ => none
def strsD : List D → Option (List Str)
  | [] => some []
  | .str x :: r => (strsD r).map fun c => x :: c
  | _ => none
def intsD : List D → Option (List Int)
  | [] => some []
  | .int x :: r => (intsD r).map fun c => x :: c
  | _ => none
/-- a text is less than another one -/
def ltS (x y : Str) : Bool := decide (x.cps.toList < y.cps.toList)
def insS (x : Str) : List Str → List Str
  | [] => [x]
  | y :: r => if ltS y x then y :: insS x r else x :: y :: r
def sortS : List Str → List Str
  | [] => []
  | x :: r => insS x (sortS r)
def insI (x : Int) : List Int → List Int
  | [] => [x]
  | y :: r => if y < x then y :: insI x r else if x = y then y :: r else x :: y :: r
/-- rising, each once -/
def sortI : List Int → List Int
  | [] => []
  | x :: r => insI x (sortI r)
def insU (x : Str) : List Str → List Str
  | [] => [x]
  | y :: r => if ltS y x then y :: insU x r else if x = y then y :: r else x :: y :: r
def sortU : List Str → List Str
  | [] => []
  | x :: r => insU x (sortU r)
def ssD (ds : List D) (h : Hh) : R D := match intsD ds with
  | some ys => if ys.length < 64 then R.new (.lst ((sortI ys).map D.int)) h else .bad
  | none => match strsD ds with
    | some ys => if ys.length < 4000 then R.new (.lst ((sortU ys).map D.str)) h else .bad
    | none => .bad
def biD (b : Bi) (as : List D) (h : Hh) : R D := match b, as with
  | .len, [.str z] => .ok (.int z.length) h
  | .len, [.tup xs] => .ok (.int xs.length) h
  | .len, [.lck xs] => .ok (.int xs.length) h
  | .len, [.ref a] => match h[a]? with
    | some (.lst xs) => .ok (.int xs.length) h
    | some (.dic kvs) => .ok (.int kvs.length) h
    | _ => .bad
  | .max, [.int i, .int j] => .ok (.int (if j > i then j else i)) h
  | .min, [.int i, .int j] => .ok (.int (if j < i then j else i)) h
  | .int, [.int i] => .ok (.int i) h
  | .int, [.bl k] => .ok (.int (if k then 1 else 0)) h
  | .int, [.str x] => match PySem.intText? x with
    | some n => if x.length ≤ 640 then .ok (.int n) h else .bad
    | none => .bad
  | .str, [.int i] => if i.natAbs.log2 < 1920 then strD (toString i) h else .bad
  | .str, [.str x] => .ok (.str x) h
  | .list, [.tup xs] => R.new (.lst xs) h
  | .list, [x] => match listD x h with
    | some xs => R.new (.lst xs) h
    | none => .bad
  | .tuple, [.tup xs] => .ok (.tup xs) h
  | .tuple, [x] => match listD x h with
    | some xs => .ok (.tup xs) h
    | none => .bad
  | .all, [.ref a] => match h[a]? with
    | some (.lst xs) => bl! (allBl xs) h
    | _ => .bad
  | .sorted, [.ref a] => match h[a]? with
    | some (.lst xs) => match strsD xs with
      | some ys => if ys.length < 64 then R.new (.lst ((sortS ys).map D.str)) h else .bad
      | none => .bad
    | _ => .bad
  | .sortset, [.tup xs] => ssD xs h
  | .sortset, [.ref a] => match h[a]? with
    | some (.lst xs) => ssD xs h
    | _ => .bad
  | .dict, [.ref a] => match h[a]? with
    | some (.dic kvs) => R.new (.dic kvs) h
    | _ => .bad
  | _, _ => .bad
def meD (m : Me) (x : D) (as : List D) (h : Hh) : R D := match m, x, as with
  | .split, .str a, [.str b] => if b.length ≠ 0 ∧ a.length + 2 ≤ line ∧ (∀ y ∈ Txt.split a b, y.length ≤ line) then R.new (.lst ((Txt.split a b).map D.str)) h else .bad
  | .join, .str a, [.ref l] => match h[l]? with
    | some (.lst xs) => match strsD xs with
      | some ys => if (ys.map (·.length)).sum + ys.length * a.length ≤ line then strD (Txt.join a ys) h else .bad
      | none => .bad
    | _ => .bad
  | .upper, .str a, [] => if a.length ≤ 5592405 then strD (Txt.upper a) h else .bad
  | .append, .ref l, [y] => match h[l]? with
    | some (.lst xs) => if xs.length < line then .ok .non (h.set l (.lst (xs ++ [y]))) else .bad
    | _ => .bad
  | .insert, .ref l, [.int i, y] => match h[l]? with
    | some (.lst xs) => if xs.length < line ∧ 0 ≤ i ∧ i < 2 ^ 63 then .ok .non (h.set l (.lst (xs.take i.toNat ++ [y] ++ xs.drop i.toNat))) else .bad
    | _ => .bad
  | .get, .ref l, [k] => match h[l]? with
    | some (.dic kvs) => if (keyD k).isSome then .ok ((lookD k kvs).getD .non) h else .bad
    | _ => .bad
  | .get, .ref l, [k, d] => match h[l]? with
    | some (.dic kvs) => if (keyD k).isSome then .ok ((lookD k kvs).getD d) h else .bad
    | _ => .bad
  | .clear, .ref l, [] => match h[l]? with
    | some (.dic kvs) => .ok .non (h.set l (.dic []))
    | _ => .bad
  | _, _, _ => .bad
/-- the receiver of a built-in type's method -/
def meTy (m : Me) (x : D) (h : Hh) : Bool := match m with
  | .split => (match x with | .str _ => true | _ => false)
  | .join => (match x with | .str _ => true | _ => false)
  | .upper => (match x with | .str _ => true | _ => false)
  | .append => (match x with | .ref a => (match h[a]? with | some (.lst _) => true | _ => false) | _ => false)
  | .insert => (match x with | .ref a => (match h[a]? with | some (.lst _) => true | _ => false) | _ => false)
  | .get => (match x with | .ref a => (match h[a]? with | some (.dic _) => true | _ => false) | _ => false)
  | .items => (match x with | .ref a => (match h[a]? with | some (.dic _) => true | _ => false) | _ => false)
  | .clear => (match x with | .ref a => (match h[a]? with | some (.dic _) => true | _ => false) | _ => false)
  | _ => false
/-- o[i] = v -/
def setiD (x i v : D) (h : Hh) : R D := match x with
  | .ref a => match h[a]? with
    | some (.lst xs) => match i with
      | .int k => match L2.ixN xs.length k with
        | some j => .ok .non (h.set a (.lst (xs.set j v)))
        | none => .bad
      | _ => .bad
    | some (.dic kvs) => if (keyD i).isSome ∧ kvs.length < line then .ok .non (h.set a (.dic (putD i v kvs))) else .bad
    | _ => .bad
  | _ => .bad
def fldD (x : D) (f : Str) (h : Hh) : R D := match x with
  | .ref a => match h[a]? with
    | some (.ins _ fs) => match fs.lookup f with
      | some v => .ok v h
      | none => .bad
    | _ => .bad
  | _ => .bad
def putF (f : Str) (v : D) : List (Str × D) → List (Str × D)
  | [] => [(f, v)]
  | (g, x) :: r => if g = f then (g, v) :: r else (g, x) :: putF f v r
def setfD (x : D) (f : Str) (v : D) (h : Hh) : R D := match x with
  | .ref a => match h[a]? with
    | some (.ins c fs) => if fs.length < 1000 then .ok .non (h.set a (.ins c (putF f v fs))) else .bad
    | _ => .bad
  | _ => .bad
def pairs : List D → Option (List (D × D))
  | [] => some []
  | k :: v :: r => (pairs r).map fun q => (k, v) :: q
  | _ => none
def mergeD : List (D × D) → List (D × D) → List (D × D)
  | acc, [] => acc
  | acc, (k, v) :: r => mergeD (putD k v acc) r
/-- the items of an iterable, the object that has to stay -/
structure Its where
  xs : List D
  keep : Option (Nat × O)
def Its.stands (t : Its) (h : Hh) : Prop := match t.keep with
  | none => True
  | some (a, o) => h[a]? = some o
def setAll : List Nat → List D → St → Option St
  | [], [], σ => some σ
  | i :: is, x :: xs, σ => setAll is xs (σ.set i (some x))
  | _, _, _ => none
/-- a target: names; tp: a tuple of them -/
def target (g : List Nat) (tp : Bool) (x : D) (σ : St) (h : Hh) : Option St := match tp with
  | false => match g with
    | [i] => some (σ.set i (some x))
    | _ => none
  | true => match x with
    | .tup xs => setAll g xs σ
    | .ref a => match h[a]? with
      | some (.lst xs) => setAll g xs σ
      | _ => none
    | _ => none
/-- the slots of a comprehension's own names are forgotten -/
def wipeD (σ : St) : List Nat → St
  | [] => σ
  | v :: vs => (wipeD σ vs).set v none
section
open Classical
/-- a comprehension's turns -/
noncomputable def turns (f : D → Hh → R (Option D)) (t : Its) : List D → Hh → R (List D)
  | [], h => if t.stands h then .ok [] h else .bad
  | x :: r, h => if t.stands h then (f x h).bind fun y h1 => (turns f t r h1).bind fun ys h2 => match y with
      | some v => .ok (v :: ys) h2
      | none => .ok ys h2
    else .bad
noncomputable def loopF (f : D → St → Hh → R Fl) (t : Its) : List D → St → Hh → R Fl
  | [], σ, h => if t.stands h then .ok (.nx σ) h else .bad
  | x :: r, σ, h => if t.stands h then (f x σ h).bind fun fl h1 => match fl with
      | .nx σ1 => loopF f t r σ1 h1
      | .ct σ1 => loopF f t r σ1 h1
      | .bk σ1 => .ok (.nx σ1) h1
      | .rt d => .ok (.rt d) h1
    else .bad
end
def whileF (c : St → Hh → R D) (b : St → Hh → R Fl) : Nat → St → Hh → R Fl
  | 0, _, _ => .bad
  | n + 1, σ, h => (c σ h).bind fun x h0 => match truth x h0 with
    | some true => (b σ h0).bind fun fl h1 => match fl with
      | .nx σ1 => whileF c b n σ1 h1
      | .ct σ1 => whileF c b n σ1 h1
      | .bk σ1 => .ok (.nx σ1) h1
      | .rt d => .ok (.rt d) h1
    | some false => .ok (.nx σ) h0
    | none => .bad
abbrev rounds : Nat := 1000000000
abbrev Call := Nat → List D → Hh → R D
/-- the program: what a def's call does, the def of a class's method, the __init__ of a class -/
structure Pg where
  call : Call
  meth : Nat → Nat → Option Nat
  init : Nat → Option Nat
def asInt : D → Option Int
  | .int i => some i
  | _ => none
def enumFrom : Nat → List D → List D
  | _, [] => []
  | k, x :: r => .tup [.int (k : Int), x] :: enumFrom (k + 1) r
def small (i : Int) : Bool := decide (-(2 ^ 62) ≤ i) && decide (i < 2 ^ 62)
def rangeL (lo : Int) : Nat → List D
  | 0 => []
  | n + 1 => .int lo :: rangeL (lo + 1) n
def E.isNil : E → Bool
  | .nil => true
  | _ => false
def ptOf (e : E) (m : R D) (h : Hh) : R (Option Int) := match e with
  | .nil => .ok none h
  | _ => m.bind fun x h1 => match x with
    | .int i => .ok (some i) h1
    | _ => .bad
mutual
noncomputable def evalE (P : Pg) : E → St → Hh → R D
  | .loc i, σ, h => match σ[i]? with
    | some (some v) => .ok v h
    | _ => .bad
  | .cst d, _, h => .ok d h
  | .nil, _, _ => .bad
  | .cons _ _, _, _ => .bad
  | .bop o a b, σ, h => (evalE P a σ h).bind fun x h1 => (evalE P b σ h1).bind fun y h2 => binop o x y h2
  | .cmp2 o p a b c, σ, h => (evalE P a σ h).bind fun x h1 => (evalE P b σ h1).bind fun y h2 => (binop o x y h2).bind fun z h3 => match z with
    | .bl true => (evalE P c σ h3).bind fun w h4 => binop p y w h4
    | .bl false => .ok (.bl false) h3
    | _ => .bad
  | .neg a, σ, h => (evalE P a σ h).bind fun x h1 => match x with
    | .int i => .ok (.int (-i)) h1
    | _ => .bad
  | .not a, σ, h => (evalE P a σ h).bind fun x h1 => match truth x h1 with
    | some b => .ok (.bl (!b)) h1
    | none => .bad
  | .and a b, σ, h => (evalE P a σ h).bind fun x h1 => match truth x h1 with
    | some true => evalE P b σ h1
    | some false => .ok x h1
    | none => .bad
  | .or a b, σ, h => (evalE P a σ h).bind fun x h1 => match truth x h1 with
    | some true => .ok x h1
    | some false => evalE P b σ h1
    | none => .bad
  | .ite c a b, σ, h => (evalE P c σ h).bind fun x h1 => match truth x h1 with
    | some true => evalE P a σ h1
    | some false => evalE P b σ h1
    | none => .bad
  | .tup es, σ, h => (evalEs P es σ h).bind fun xs h1 => if xs.length ≤ line then .ok (.tup xs) h1 else .bad
  | .lst es, σ, h => (evalEs P es σ h).bind fun xs h1 => if xs.length ≤ line then R.new (.lst xs) h1 else .bad
  | .dic es, σ, h => (evalEs P es σ h).bind fun xs h1 => match pairs xs with
    | some kvs => if kvs.length ≤ 15 ∧ kvs.all (fun p => (keyD p.1).isSome) = true then R.new (.dic (mergeD [] kvs)) h1 else .bad
    | none => .bad
  | .idx a b, σ, h => (evalE P a σ h).bind fun x h1 => (evalE P b σ h1).bind fun y h2 => idxD x y h2
  | .slc a lo hi, σ, h => (evalE P a σ h).bind fun x h1 => (ptOf lo (evalE P lo σ h1) h1).bind fun l h2 => (ptOf hi (evalE P hi σ h2) h2).bind fun u h3 => slcD x l u h3
  | .rev a, σ, h => (evalE P a σ h).bind fun x h1 => revD x h1
  | .isi a ts, σ, h => (evalE P a σ h).bind fun x h1 => bl! (isAny x h1 ts) h1
  | .call f es, σ, h => (evalEs P es σ h).bind fun xs h1 => P.call f xs h1
  | .bi b es, σ, h => (evalEs P es σ h).bind fun xs h1 => biD b xs h1
  | .me m a es, σ, h => (evalE P a σ h).bind fun x h1 => if meTy m x h1 = true then (evalEs P es σ h1).bind fun xs h2 => meD m x xs h2 else .bad
  | .meth m a es, σ, h => (evalE P a σ h).bind fun x h1 => match x with
    | .ref p => match h1[p]? with
      | some (.ins c _) => match P.meth c m with
        | some f => (evalEs P es σ h1).bind fun xs h2 => P.call f (.ref p :: xs) h2
        | none => .bad
      | _ => .bad
    | _ => .bad
  | .fld a f, σ, h => (evalE P a σ h).bind fun x h1 => fldD x f h1
  | .mk c es, σ, h => (evalEs P es σ h).bind fun xs h1 => match P.init c with
    | some f => (P.call f (.ref h1.length :: xs) (h1 ++ [.ins c []])).bind fun v h2 => match v with
      | .non => .ok (.ref h1.length) h2
      | _ => .bad
    | none => .bad
  | .rng1 _, _, _ => .bad
  | .rng2 _ _, _, _ => .bad
  | .enum _, _, _ => .bad
  | .zip _ _, _, _ => .bad
  | .lc elt g tp it c, σ, h => (evalItM P it (evalE P it σ) σ h).bind fun t h1 => if t.xs.length ≤ line then (turns (fun x h2 => match target g tp x (wipeD σ g) h2 with
      | some σ2 => if c.isNil = true then (evalE P elt σ2 h2).bind fun y h4 => .ok (some y) h4
        else (evalE P c σ2 h2).bind fun z h3 => match truth z h3 with
          | some true => (evalE P elt σ2 h3).bind fun y h4 => .ok (some y) h4
          | some false => .ok none h3
          | none => .bad
      | none => .bad) t t.xs h1).calm.bind fun ys h5 => R.new (.lst ys) h5 else .bad
noncomputable def evalEs (P : Pg) : E → St → Hh → R (List D)
  | .nil, _, h => .ok [] h
  | .cons e r, σ, h => (evalE P e σ h).bind fun x h1 => (evalEs P r σ h1).bind fun xs h2 => .ok (x :: xs) h2
  | _, _, _ => .bad
/-- what is walked -/
noncomputable def evalItM (P : Pg) : E → (Hh → R D) → St → Hh → R Its
  | .rng1 a, _, σ, h => (evalE P a σ h).bind fun x h1 => match x with
    | .int j => if small j = true then .ok ⟨rangeL 0 j.toNat, none⟩ h1 else .bad
    | _ => .bad
  | .rng2 a b, _, σ, h => (evalE P a σ h).bind fun x h1 => (evalE P b σ h1).bind fun y h2 => match x, y with
    | .int i, .int j => if small i = true ∧ small j = true then .ok ⟨rangeL i (j - i).toNat, none⟩ h2 else .bad
    | _, _ => .bad
  | .enum a, _, σ, h => (evalE P a σ h).bind fun x h1 => match enumD x h1 with
    | some (xs, k) => .ok ⟨enumFrom 0 xs, k⟩ h1
    | none => .bad
  | .zip _ _, _, _, _ => .bad
  | _, m, _, h => (m h).bind fun x h1 => match itemsD x h1 with
    | some (xs, k) => .ok ⟨xs, k⟩ h1
    | none => .bad
end
noncomputable abbrev evalIt (P : Pg) (e : E) (σ : St) (h : Hh) : R Its := evalItM P e (evalE P e σ) σ h
/-- a slice's part -/
noncomputable abbrev evalPt (P : Pg) (e : E) (σ : St) (h : Hh) : R (Option Int) := ptOf e (evalE P e σ h) h
noncomputable def exec (P : Pg) : S → St → Hh → R Fl
  | .skip, σ, h => .ok (.nx σ) h
  | .seq a b, σ, h => (exec P a σ h).bind fun fl h1 => match fl with
    | .nx σ1 => exec P b σ1 h1
    | fl => .ok fl h1
  | .set i e, σ, h => (evalE P e σ h).bind fun x h1 => .ok (.nx (σ.set i (some x))) h1
  | .unp is e, σ, h => (evalE P e σ h).bind fun x h1 => match target is true x σ h1 with
    | some σ1 => .ok (.nx σ1) h1
    | none => .bad
  | .exp e, σ, h => (evalE P e σ h).bind fun _ h1 => .ok (.nx σ) h1
  | .ret e, σ, h => (evalE P e σ h).bind fun x h1 => .ok (.rt x) h1
  | .ite c a b, σ, h => (evalE P c σ h).bind fun x h1 => match truth x h1 with
    | some true => exec P a σ h1
    | some false => exec P b σ h1
    | none => .bad
  | .whl c b, σ, h => whileF (evalE P c) (exec P b) rounds σ h
  | .loop g tp it b, σ, h => (evalIt P it σ h).bind fun t h1 => loopF (fun x σ2 h2 => match target g tp x σ2 h2 with
      | some σ3 => exec P b σ3 h2
      | none => .bad) t t.xs σ h1
  | .brk, σ, h => .ok (.bk σ) h
  | .cnt, σ, h => .ok (.ct σ) h
  | .seti a i e, σ, h => (evalE P e σ h).bind fun v h1 => (evalE P a σ h1).bind fun x h2 => (evalE P i σ h2).bind fun k h3 => (setiD x k v h3).bind fun _ h4 => .ok (.nx σ) h4
  | .setf a f e, σ, h => (evalE P e σ h).bind fun v h1 => (evalE P a σ h1).bind fun x h2 => (setfD x f v h2).bind fun _ h3 => .ok (.nx σ) h3
  | .aug i o e, σ, h => match σ[i]? with
    | some (some v) => (evalE P e σ h).bind fun y h1 => (binop o v y h1).bind fun z h2 => .ok (.nx (σ.set i (some z))) h2
    | _ => .bad
  | .augf a f o e, σ, h => (evalE P a σ h).bind fun x h1 => (fldD x f h1).bind fun v h2 => (evalE P e σ h2).bind fun y h3 => (binop o v y h3).bind fun z h4 => (setfD x f z h4).bind fun _ h5 => .ok (.nx σ) h5

/-! ### defs -/
structure Def where
  np : Nat
  nl : Nat
  body : S
mutual
/-- no ref within -/
def D.pure : D → Bool
  | .ref _ => false
  | .tup xs => D.pureL xs
  | .lck xs => D.pureL xs
  | _ => true
def D.pureL : List D → Bool
  | [] => true
  | x :: r => x.pure && D.pureL r
end
def O.flat : O → Bool
  | .lst xs => D.pureL xs
  | .dic kvs => D.pureL (kvs.map (·.1)) && D.pureL (kvs.map (·.2))
  | .ins _ fs => D.pureL (fs.map (·.2))
/-- no elder object has come to hold something new -/
def OkOld (h h' : Hh) : Prop := ∀ (i : Nat) (o : O), h[i]? = some o → ∃ o' : O, h'[i]? = some o' ∧ (o' = o ∨ o'.flat = true)
def leave (h : Hh) (r : R Fl) : R D := match r with
  | .ok (.rt v) h' => .ok v h'
  | .ok (.nx _) h' => .ok .non h'
  | .ok _ _ => .bad
  | .ex c fs h' => .ex c fs h'
  | .bad => .bad
structure Tbl where
  fn : Nat → Option Def
  meth : Nat → Nat → Option Nat
  init : Nat → Option Nat
def start (d : Def) (as : List D) : St := as.map some ++ List.replicate (d.nl - as.length) none
noncomputable def callF (T : Tbl) : Nat → Call
  | 0 => fun _ _ _ => .bad
  | n + 1 => fun f as h => match T.fn f with
    | some d => if as.length = d.np then leave h (exec ⟨callF T n, T.meth, T.init⟩ d.body (start d as) h) else .bad
    | none => .bad
end IX
end

section
set_option Elab.async false
set_option linter.all false
set_option maxRecDepth 100000
set_option maxHeartbeats 1000000
/-! IX2: how the own values and the own heap stand for the model's. -/
namespace IX
open PySem PySem.Spec PyProof.Rows L2

abbrev Rho := List Addr
/-- a list that is only read: locked, or the module's own -/
def SqF (K : PySem.W.Frag) (H : Hp) (a : Addr) (xs : List V) : Prop :=
  (∃ o, H a = some (.frz o (.lst xs))) ∨
    ∃ (o : Obj) (its : Array Value) (n : Nat), K.lookup a = some o ∧ o.cls = .type "list" ∧ o.dict = none ∧ o.data = .seq its n ∧ its.size ≤ sizeLine ∧ Vals xs its.toList
theorem SqF.sql {K : PySem.W.Frag} {H : Hp} {a : Addr} {xs : List V} (s : SqF K H a xs) : SqL K H a xs := by
  rcases s with s | s
  · exact .inl (.inr s)
  · exact .inr s
mutual
/-- the value v stands for d -/
inductive Rep (K : PySem.W.Frag) (ρ : Rho) (H : Hp) : D → V → Prop
  | non : Rep K ρ H .non .non
  | bl (b : Bool) : Rep K ρ H (.bl b) (.bl b)
  | int (i : Int) : Rep K ρ H (.int i) (.int i)
  | str (x : Str) : x.length ≤ line → Rep K ρ H (.str x) (.str x)
  | tup {p : Addr} {ds : List D} {vs : List V} : SqT K H p vs → Reps K ρ H ds vs → Rep K ρ H (.tup ds) (.ref p)
  | lck {p : Addr} {ds : List D} {vs : List V} : SqF K H p vs → Reps K ρ H ds vs → Rep K ρ H (.lck ds) (.ref p)
  | ref {a : Nat} {p : Addr} : ρ[a]? = some p → Rep K ρ H (.ref a) (.ref p)
inductive Reps (K : PySem.W.Frag) (ρ : Rho) (H : Hp) : List D → List V → Prop
  | nil : Reps K ρ H [] []
  | cons {d : D} {ds : List D} {v : V} {vs : List V} : Rep K ρ H d v → Reps K ρ H ds vs → Reps K ρ H (d :: ds) (v :: vs)
end
/-- named values -/
inductive RepF (K : PySem.W.Frag) (ρ : Rho) (H : Hp) : List (Str × D) → List (Str × V) → Prop
  | nil : RepF K ρ H [] []
  | cons {f : Str} {d : D} {ds : List (Str × D)} {v : V} {vs : List (Str × V)} : Rep K ρ H d v → RepF K ρ H ds vs → RepF K ρ H ((f, d) :: ds) ((f, v) :: vs)
/-- pairs of a dict -/
inductive RepK (K : PySem.W.Frag) (ρ : Rho) (H : Hp) : List (D × D) → List (Key × V) → Prop
  | nil : RepK K ρ H [] []
  | cons {k : D} {j : Key} {d : D} {ds : List (D × D)} {v : V} {vs : List (Key × V)} : keyD k = some j → Rep K ρ H k (kV j) → Rep K ρ H d v → RepK K ρ H ds vs → RepK K ρ H ((k, d) :: ds) ((j, v) :: vs)
def ORel (K : PySem.W.Frag) (cl : Nat → Option Addr) (ρ : Rho) (H : Hp) (o : O) (p : Addr) : Prop := match o with
  | .lst ds => ∃ vs, H p = some (.lst vs) ∧ Reps K ρ H ds vs
  | .dic kvs => ∃ ks, H p = some (.dK ks) ∧ RepK K ρ H kvs ks
  | .ins c fs => ∃ C dx gs, cl c = some C ∧ H p = some (.ins C dx gs) ∧ RepF K ρ H fs gs
structure HRel (K : PySem.W.Frag) (cl : Nat → Option Addr) (ρ : Rho) (H : Hp) (h : Hh) : Prop where
  len : ρ.length = h.length
  inj : ∀ (a b : Nat) (p : Addr), ρ[a]? = some p → ρ[b]? = some p → a = b
  obj : ∀ (a : Nat) (p : Addr) (o : O), ρ[a]? = some p → h[a]? = some o → ORel K cl ρ H o p
/-- what the values lean on -/
structure Kp (K : PySem.W.Frag) (ρ : Rho) (H : Hp) (ρ' : Rho) (H' : Hp) : Prop where
  rho : ∀ (a : Nat) (p : Addr), ρ[a]? = some p → ρ'[a]? = some p
  tup : ∀ p vs, SqT K H p vs → SqT K H' p vs
  lck : ∀ p vs, SqF K H p vs → SqF K H' p vs
/-- what is kept from one moment to a later one -/
structure Keep (K : PySem.W.Frag) (ρ : Rho) (H : Hp) (ρ' : Rho) (H' : Hp) : Prop where
  rho : ∀ (a : Nat) (p : Addr), ρ[a]? = some p → ρ'[a]? = some p
  tup : ∀ p vs, SqT K H p vs → SqT K H' p vs
  lck : ∀ p vs, SqF K H p vs → SqF K H' p vs
  other : ∀ (p : Addr), H p ≠ none → (∀ a : Nat, ρ[a]? ≠ some p) → H' p = H p ∧ ∀ a : Nat, ρ'[a]? ≠ some p
section
variable {K : PySem.W.Frag} {cl : Nat → Option Addr} {ρ ρ1 ρ2 : Rho} {H H1 H2 : Hp} {h h1 : Hh} {p q : Addr} {o : HO}
theorem Keep.refl : Keep K ρ H ρ H := ⟨fun _ _ e => e, fun _ _ e => e, fun _ _ e => e, fun _ _ h => ⟨rfl, h⟩⟩
theorem Keep.trans (a : Keep K ρ H ρ1 H1) (b : Keep K ρ1 H1 ρ2 H2) : Keep K ρ H ρ2 H2 := ⟨fun _ _ e => b.rho _ _ (a.rho _ _ e), fun _ _ e => b.tup _ _ (a.tup _ _ e), fun _ _ e => b.lck _ _ (a.lck _ _ e), fun p n h => by
  obtain ⟨e1, h1⟩ := a.other p n h
  obtain ⟨e2, h2⟩ := b.other p (by rw [e1]; exact n) h1
  exact ⟨e2.trans e1, h2⟩⟩
mutual
theorem Rep.kp (k : Kp K ρ H ρ1 H1) : ∀ {d : D} {v : V}, Rep K ρ H d v → Rep K ρ1 H1 d v
  | _, _, .non => .non
  | _, _, .bl b => .bl b
  | _, _, .int i => .int i
  | _, _, .str x z => .str x z
  | _, _, .tup s r => .tup (k.tup _ _ s) (Reps.kp k r)
  | _, _, .lck s r => .lck (k.lck _ _ s) (Reps.kp k r)
  | _, _, .ref e => .ref (k.rho _ _ e)
theorem Reps.kp (k : Kp K ρ H ρ1 H1) : ∀ {d : List D} {v : List V}, Reps K ρ H d v → Reps K ρ1 H1 d v
  | _, _, .nil => .nil
  | _, _, .cons a r => .cons (Rep.kp k a) (Reps.kp k r)
end
theorem RepF.kp (k : Kp K ρ H ρ1 H1) : ∀ {d : List (Str × D)} {v : List (Str × V)}, RepF K ρ H d v → RepF K ρ1 H1 d v
  | _, _, .nil => .nil
  | _, _, .cons a r => .cons (a.kp k) (RepF.kp k r)
theorem RepK.kp (k : Kp K ρ H ρ1 H1) : ∀ {d : List (D × D)} {v : List (Key × V)}, RepK K ρ H d v → RepK K ρ1 H1 d v
  | _, _, .nil => .nil
  | _, _, .cons e a b r => .cons e (a.kp k) (b.kp k) (RepK.kp k r)
theorem Keep.kp (k : Keep K ρ H ρ1 H1) : Kp K ρ H ρ1 H1 := ⟨k.rho, k.tup, k.lck⟩
theorem Rep.keep (k : Keep K ρ H ρ1 H1) {d : D} {v : V} (r : Rep K ρ H d v) : Rep K ρ1 H1 d v := r.kp k.kp
theorem Reps.keep (k : Keep K ρ H ρ1 H1) {d : List D} {v : List V} (r : Reps K ρ H d v) : Reps K ρ1 H1 d v := r.kp k.kp
theorem RepF.keep (k : Keep K ρ H ρ1 H1) {d : List (Str × D)} {v : List (Str × V)} (r : RepF K ρ H d v) : RepF K ρ1 H1 d v := r.kp k.kp
theorem RepK.keep (k : Keep K ρ H ρ1 H1) {d : List (D × D)} {v : List (Key × V)} (r : RepK K ρ H d v) : RepK K ρ1 H1 d v := r.kp k.kp
/-- no tuple, nothing locked stands there -/
def Soft (H : Hp) (p : Addr) : Prop := ∀ o, H p = some o → (∀ vs, o ≠ .tup vs) ∧ ∀ ob u, o ≠ .frz ob u
theorem Soft.none (e : H p = none) : Soft H p := fun o z => by rw [e] at z; cases z
theorem Soft.lst {vs : List V} (e : H p = some (.lst vs)) : Soft H p := fun o z => by rw [e] at z; cases z; exact ⟨fun _ z => (nomatch z), fun _ _ z => (nomatch z)⟩
theorem Soft.dK {vs : List (Key × V)} (e : H p = some (.dK vs)) : Soft H p := fun o z => by rw [e] at z; cases z; exact ⟨fun _ z => (nomatch z), fun _ _ z => (nomatch z)⟩
theorem Soft.ins {C dx : Addr} {vs : List (Str × V)} (e : H p = some (.ins C dx vs)) : Soft H p := fun o z => by rw [e] at z; cases z; exact ⟨fun _ z => (nomatch z), fun _ _ z => (nomatch z)⟩
theorem Rd.upd {u : HO} (s : Soft H p) (hu : (∃ vs, u = .tup vs) ∨ q ≠ p) (r : Rd H q u) : Rd (upd H p o) q u := by
  have ne : q ≠ p := by
    rcases hu with ⟨vs, rfl⟩ | hu
    · rintro rfl
      rcases r with r | ⟨ob, r⟩
      · exact (s _ r).1 _ rfl
      · exact (s _ r).2 _ _ rfl
    · exact hu
  rcases r with r | ⟨ob, r⟩
  · exact .inl (by rw [upd_ne ne]; exact r)
  · exact .inr ⟨ob, by rw [upd_ne ne]; exact r⟩
theorem SqT.upd {vs : List V} (s : Soft H p) (r : SqT K H q vs) : SqT K (upd H p o) q vs := by
  rcases r with r | r
  · exact .inl (Rd.upd s (.inl ⟨_, rfl⟩) r)
  · exact .inr r
theorem SqF.upd {vs : List V} (s : Soft H p) (r : SqF K H q vs) : SqF K (L2.upd H p o) q vs := by
  rcases r with ⟨ob, r⟩ | r
  · have ne : q ≠ p := by
      rintro rfl
      exact (s _ r).2 _ _ rfl
    exact .inl ⟨ob, by rw [upd_ne ne]; exact r⟩
  · exact .inr r
theorem Keep.new (n : H p = none) : Keep K ρ H ρ (upd H p o) := ⟨fun _ _ e => e, fun _ _ e => SqT.upd (Soft.none n) e, fun _ _ e => SqF.upd (Soft.none n) e, fun q hq f => ⟨upd_ne (fun z => hq (z ▸ n)), f⟩⟩
theorem Keep.wr {a : Nat} (ea : ρ[a]? = some p) (s : Soft H p) : Keep K ρ H ρ (upd H p o) := ⟨fun _ _ e => e, fun _ _ e => SqT.upd s e, fun _ _ e => SqF.upd s e, fun q _ f => ⟨upd_ne (fun z => f a (z ▸ ea)), f⟩⟩
theorem ORel.at (k : Keep K ρ H ρ1 H1) {a : O} (same : H1 q = H q) (r : ORel K cl ρ H a q) : ORel K cl ρ1 H1 a q := by
  cases a with
  | lst ds => obtain ⟨vs, e, r⟩ := r; exact ⟨vs, same.trans e, r.keep k⟩
  | dic ds => obtain ⟨vs, e, r⟩ := r; exact ⟨vs, same.trans e, r.keep k⟩
  | ins c fs => obtain ⟨C, dx, gs, c, e, r⟩ := r; exact ⟨C, dx, gs, c, same.trans e, r.keep k⟩
theorem ORel.kp (k : Kp K ρ H ρ1 H1) {a : O} (same : H1 q = H q) (r : ORel K cl ρ H a q) : ORel K cl ρ1 H1 a q := by
  cases a with
  | lst ds => obtain ⟨vs, e, r⟩ := r; exact ⟨vs, same.trans e, r.kp k⟩
  | dic ds => obtain ⟨vs, e, r⟩ := r; exact ⟨vs, same.trans e, r.kp k⟩
  | ins c fs => obtain ⟨C, dx, gs, c, e, r⟩ := r; exact ⟨C, dx, gs, c, same.trans e, r.kp k⟩
theorem HRel.lt (r : HRel K cl ρ H h) {a : Nat} (e : ρ[a]? = some p) : a < h.length := by
  rw [← r.len]; exact (List.getElem?_eq_some_iff.mp e).1
theorem HRel.get (r : HRel K cl ρ H h) {a : Nat} (e : ρ[a]? = some p) : ∃ o, h[a]? = some o ∧ ORel K cl ρ H o p := by
  have z := r.lt e
  exact ⟨h[a], List.getElem?_eq_getElem z, r.obj a p _ e (List.getElem?_eq_getElem z)⟩
/-- something beside is laid (a tuple): the own heap stays -/
theorem HRel.beside (r : HRel K cl ρ H h) (n : H p = none) : HRel K cl ρ (upd H p o) h := by
  refine ⟨r.len, r.inj, fun a q ob e eo => ?_⟩
  have x := r.obj a q ob e eo
  have ne : ∀ u, H q = some u → q ≠ p := fun u z => ne_of_none z n
  cases ob with
  | lst ds => obtain ⟨vs, e, r⟩ := x; exact ⟨vs, by rw [upd_ne (ne _ e)]; exact e, r.keep (Keep.new n)⟩
  | dic ds => obtain ⟨vs, e, r⟩ := x; exact ⟨vs, by rw [upd_ne (ne _ e)]; exact e, r.keep (Keep.new n)⟩
  | ins c fs => obtain ⟨C, dx, gs, c, e, r⟩ := x; exact ⟨C, dx, gs, c, by rw [upd_ne (ne _ e)]; exact e, r.keep (Keep.new n)⟩
/-- where nothing new may stand -/
theorem HRel.notin (r : HRel K cl ρ H h) (n : H p = none) (a : Nat) : ρ[a]? ≠ some p := fun e => by
  obtain ⟨o, _, x⟩ := r.get e
  cases o with
  | lst ds => obtain ⟨vs, e, r⟩ := x; rw [n] at e; cases e
  | dic ds => obtain ⟨vs, e, r⟩ := x; rw [n] at e; cases e
  | ins c fs => obtain ⟨C, dx, gs, c, e, r⟩ := x; rw [n] at e; cases e
theorem Keep.push {p : Addr} (n : H p = none) : Keep K ρ H (ρ ++ [p]) (upd H p o) := ⟨fun a q e => by rw [List.getElem?_append_left (List.getElem?_eq_some_iff.mp e).1]; exact e, fun _ _ e => SqT.upd (Soft.none n) e, fun _ _ e => SqF.upd (Soft.none n) e,
  fun q hq f => ⟨upd_ne (fun z => hq (z ▸ n)), fun a e => by
    by_cases h1 : a < ρ.length
    · rw [List.getElem?_append_left h1] at e; exact f a e
    · have z := (List.getElem?_eq_some_iff.mp e).1
      rw [List.length_append] at z
      have : ([p] : List Addr).length = 1 := rfl
      rw [List.getElem?_append_right (by omega), (by omega : a - ρ.length = 0)] at e
      cases e
      exact hq n⟩⟩
/-- a new object of the own heap -/
theorem HRel.push (r : HRel K cl ρ H h) (n : H p = none) {a : O} (x : ORel K cl (ρ ++ [p]) (upd H p o) a p) : HRel K cl (ρ ++ [p]) (upd H p o) (h ++ [a]) := by
  have kp : Keep K ρ H (ρ ++ [p]) (upd H p o) := Keep.push n
  refine ⟨by rw [List.length_append, List.length_append, r.len]; rfl, fun a b q e1 e2 => ?_, fun b q ob e eo => ?_⟩
  · by_cases h1 : a < ρ.length
    · by_cases h2 : b < ρ.length
      · rw [List.getElem?_append_left h1] at e1
        rw [List.getElem?_append_left h2] at e2
        exact r.inj a b q e1 e2
      · rw [List.getElem?_append_left h1] at e1
        rw [List.getElem?_append_right (by omega)] at e2
        have z := (List.getElem?_eq_some_iff.mp e2).1
        have : b - ρ.length = 0 := by simpa using z
        rw [this] at e2
        cases e2
        exact absurd e1 (r.notin n a)
    · have z1 := (List.getElem?_eq_some_iff.mp e1).1
      rw [List.length_append] at z1
      have z1' : a = ρ.length := by
        have : ([p] : List Addr).length = 1 := rfl
        omega
      by_cases h2 : b < ρ.length
      · rw [List.getElem?_append_right (by omega)] at e1
        have : a - ρ.length = 0 := by omega
        rw [this] at e1
        cases e1
        rw [List.getElem?_append_left h2] at e2
        exact absurd e2 (r.notin n b)
      · have z2 := (List.getElem?_eq_some_iff.mp e2).1
        rw [List.length_append] at z2
        have : ([p] : List Addr).length = 1 := rfl
        omega
  · by_cases h1 : b < ρ.length
    · rw [List.getElem?_append_left h1] at e
      rw [List.getElem?_append_left (by rw [← r.len]; exact h1)] at eo
      have x := r.obj b q ob e eo
      exact x.at kp (upd_ne fun z => r.notin n b (z ▸ e))
    · have z2 := (List.getElem?_eq_some_iff.mp e).1
      rw [List.length_append] at z2
      have : ([p] : List Addr).length = 1 := rfl
      have hb : b = ρ.length := by omega
      subst hb
      rw [List.getElem?_append_right (Nat.le_refl _), Nat.sub_self] at e
      cases e
      rw [List.getElem?_append_right (Nat.le_of_eq r.len.symm), r.len, Nat.sub_self] at eo
      cases eo
      exact x
/-- an object beside is taken in -/
theorem HRel.take (r : HRel K cl ρ H h) (n : ∀ a : Nat, ρ[a]? ≠ some p) {a : O} (x : ORel K cl (ρ ++ [p]) H a p) : HRel K cl (ρ ++ [p]) H (h ++ [a]) := by
  have kp : Kp K ρ H (ρ ++ [p]) H := ⟨fun a q e => by rw [List.getElem?_append_left (List.getElem?_eq_some_iff.mp e).1]; exact e, fun _ _ e => e, fun _ _ e => e⟩
  refine ⟨by rw [List.length_append, List.length_append, r.len]; rfl, fun a b q e1 e2 => ?_, fun b q ob e eo => ?_⟩
  · by_cases h1 : a < ρ.length
    · by_cases h2 : b < ρ.length
      · rw [List.getElem?_append_left h1] at e1
        rw [List.getElem?_append_left h2] at e2
        exact r.inj a b q e1 e2
      · rw [List.getElem?_append_left h1] at e1
        rw [List.getElem?_append_right (by omega)] at e2
        have z := (List.getElem?_eq_some_iff.mp e2).1
        have : b - ρ.length = 0 := by simpa using z
        rw [this] at e2
        cases e2
        exact absurd e1 (n a)
    · have z1 := (List.getElem?_eq_some_iff.mp e1).1
      rw [List.length_append] at z1
      have z1' : a = ρ.length := by
        have : ([p] : List Addr).length = 1 := rfl
        omega
      by_cases h2 : b < ρ.length
      · rw [List.getElem?_append_right (by omega)] at e1
        have : a - ρ.length = 0 := by omega
        rw [this] at e1
        cases e1
        rw [List.getElem?_append_left h2] at e2
        exact absurd e2 (n b)
      · have z2 := (List.getElem?_eq_some_iff.mp e2).1
        rw [List.length_append] at z2
        have : ([p] : List Addr).length = 1 := rfl
        omega
  · by_cases h1 : b < ρ.length
    · rw [List.getElem?_append_left h1] at e
      rw [List.getElem?_append_left (by rw [← r.len]; exact h1)] at eo
      have x := r.obj b q ob e eo
      exact x.kp kp rfl
    · have z2 := (List.getElem?_eq_some_iff.mp e).1
      rw [List.length_append] at z2
      have : ([p] : List Addr).length = 1 := rfl
      have hb : b = ρ.length := by omega
      subst hb
      rw [List.getElem?_append_right (Nat.le_refl _), Nat.sub_self] at e
      cases e
      rw [List.getElem?_append_right (Nat.le_of_eq r.len.symm), r.len, Nat.sub_self] at eo
      cases eo
      exact x
/-- something beside is written -/
theorem Kp.side (s : Soft H p) : Kp K ρ H ρ (upd H p o) := ⟨fun _ _ e => e, fun _ _ e => SqT.upd s e, fun _ _ e => SqF.upd s e⟩
theorem HRel.side (r : HRel K cl ρ H h) (n : ∀ a : Nat, ρ[a]? ≠ some p) (s : Soft H p) : HRel K cl ρ (upd H p o) h :=
  ⟨r.len, r.inj, fun a q ob e eo => (r.obj a q ob e eo).kp (Kp.side s) (upd_ne fun z => n a (z ▸ e))⟩
theorem Keep.side (k : Keep K ρ H ρ1 H1) (n : H p = none) (s : Soft H1 p) : Keep K ρ H ρ1 (upd H1 p o) :=
  ⟨k.rho, fun q vs e => SqT.upd s (k.tup q vs e), fun q vs e => SqF.upd s (k.lck q vs e), fun q hq f => ⟨(upd_ne fun z : q = p => hq (z ▸ n)).trans (k.other q hq f).1, (k.other q hq f).2⟩⟩
theorem Keep.take (k : Keep K ρ H ρ1 H1) (n : H p = none) : Keep K ρ H (ρ1 ++ [p]) H1 :=
  ⟨fun a q e => by
    have e1 := k.rho a q e
    rw [List.getElem?_append_left (List.getElem?_eq_some_iff.mp e1).1]; exact e1, k.tup, k.lck, fun q hq f => ⟨(k.other q hq f).1, fun a e => by
    by_cases h1 : a < ρ1.length
    · rw [List.getElem?_append_left h1] at e; exact (k.other q hq f).2 a e
    · have z := (List.getElem?_eq_some_iff.mp e).1
      rw [List.length_append] at z
      have : ([p] : List Addr).length = 1 := rfl
      rw [List.getElem?_append_right (by omega), (by omega : a - ρ1.length = 0)] at e
      cases e
      exact hq n⟩⟩
/-- an object of the own heap is written -/
theorem HRel.write (r : HRel K cl ρ H h) {a : Nat} (e : ρ[a]? = some p) (s : Soft H p) {ob : O} (x : ORel K cl ρ (upd H p o) ob p) : HRel K cl ρ (upd H p o) (h.set a ob) := by
  refine ⟨by rw [List.length_set]; exact r.len, r.inj, fun b q oq eq eo => ?_⟩
  by_cases hb : a = b
  · subst hb
    rw [e] at eq; cases eq
    rw [List.getElem?_set_self (r.lt e)] at eo
    cases eo
    exact x
  · rw [List.getElem?_set_ne hb] at eo
    have ne : q ≠ p := fun z => hb (r.inj a b p e (z ▸ eq))
    exact (r.obj b q oq eq eo).at (Keep.wr e s) (upd_ne ne)
end
end IX
end

section
set_option Elab.async false
set_option linter.all false
set_option maxRecDepth 100000
set_option maxHeartbeats 1000000
/-! IX3: readings of the code; the operators. -/
namespace IX
open PySem PySem.Spec PyProof.Rows L2

/-! ### what is wanted behind a run -/
def WR {α : Type} (m : R α) (k : α → Hh → Prop) (x : Nat → List (Str × D) → Hh → Prop) : Prop := match m with
  | .ok a h => k a h
  | .ex c fs h => x c fs h
  | .bad => False
theorem WR.imp {α : Type} {m : R α} {k k' : α → Hh → Prop} {x x' : Nat → List (Str × D) → Hh → Prop} (w : WR m k x) (hk : ∀ a h, k a h → k' a h) (hx : ∀ c fs h, x c fs h → x' c fs h) : WR m k' x' := by
  cases m with
  | ok a h => exact hk a h w
  | ex c fs h => exact hx c fs h w
  | bad => exact w
theorem WR.bnd {α β : Type} {m : R α} {f : α → Hh → R β} {k : β → Hh → Prop} {x : Nat → List (Str × D) → Hh → Prop} (w : WR (m.bind f) k x) : WR m (fun a h => WR (f a h) k x) x := by
  cases m with
  | ok a h => exact w
  | ex c fs h => exact w
  | bad => exact w
section
variable (K : PySem.W.Frag) (cl : Nat → Option Addr)
/-- a value comes -/
def PostE (ρ : Rho) (H : Hp) (Q : VK) (d : D) (h' : Hh) : Prop := ∀ (ρ' : Rho) (H' : Hp) (v : V), Keep K ρ H ρ' H' → HRel K cl ρ' H' h' → Rep K ρ' H' d v → Q v H'
def PostB (ρ : Rho) (H : Hp) (Q : Hp → Prop) (h' : Hh) : Prop := ∀ (ρ' : Rho) (H' : Hp), Keep K ρ H ρ' H' → HRel K cl ρ' H' h' → Q H'
def PostA (ρ : Rho) (H : Hp) (Q : List V → Hp → Prop) (d : List D) (h' : Hh) : Prop := ∀ (ρ' : Rho) (H' : Hp) (v : List V), Keep K ρ H ρ' H' → HRel K cl ρ' H' h' → Reps K ρ' H' d v → Q v H'
/-- an exception comes -/
def PostX (ρ : Rho) (H : Hp) (E : XK) (c : Nat) (fs : List (Str × D)) (h' : Hh) : Prop := ∀ (ρ' : Rho) (H' : Hp), Keep K ρ H ρ' H' → HRel K cl ρ' H' h' →
  ∃ C, cl c = some C ∧ ((fs = [] ∧ E (.ref C) none H') ∨ (fs ≠ [] ∧ ∀ d gs, H' d = some (.xd gs) → RepF K ρ' H' fs gs → E (.ref C) (some d) H'))
end
section
variable {K : PySem.W.Frag} {cl : Nat → Option Addr} {ρ ρ1 : Rho} {H H1 : Hp} {h h1 : Hh}
theorem PostE.keep {Q : VK} {d : D} {h' : Hh} (p : PostE K cl ρ H Q d h') (k : Keep K ρ H ρ1 H1) : PostE K cl ρ1 H1 Q d h' := fun ρ' H' v k' r q => p ρ' H' v (k.trans k') r q
theorem PostB.keep {Q : Hp → Prop} {h' : Hh} (p : PostB K cl ρ H Q h') (k : Keep K ρ H ρ1 H1) : PostB K cl ρ1 H1 Q h' := fun ρ' H' k' r => p ρ' H' (k.trans k') r
theorem PostA.keep {Q : List V → Hp → Prop} {d : List D} {h' : Hh} (p : PostA K cl ρ H Q d h') (k : Keep K ρ H ρ1 H1) : PostA K cl ρ1 H1 Q d h' := fun ρ' H' v k' r q => p ρ' H' v (k.trans k') r q
theorem PostX.keep {E : XK} {c : Nat} {fs : List (Str × D)} {h' : Hh} (p : PostX K cl ρ H E c fs h') (k : Keep K ρ H ρ1 H1) : PostX K cl ρ1 H1 E c fs h' := fun ρ' H' k' r => p ρ' H' (k.trans k') r
theorem wrE {Q : VK} {E : XK} {m : R D} (w : WR m (PostE K cl ρ H Q) (PostX K cl ρ H E)) (k : Keep K ρ H ρ1 H1) : WR m (PostE K cl ρ1 H1 Q) (PostX K cl ρ1 H1 E) := w.imp (fun _ _ p => p.keep k) fun _ _ _ p => p.keep k
end
/-- the slots -/
structure SRel (K : PySem.W.Frag) (ρ : Rho) (H : Hp) (τ : IX.St) (σ : L2.St) : Prop where
  len : τ.length = σ.length
  at_ : ∀ (i : Nat) (d : D), τ[i]? = some (some d) → ∃ v, σ[i]? = some (some v) ∧ Rep K ρ H d v
theorem SRel.keep {K : PySem.W.Frag} {ρ ρ1 : Rho} {H H1 : Hp} {τ : IX.St} {σ : L2.St} (s : SRel K ρ H τ σ) (k : Keep K ρ H ρ1 H1) : SRel K ρ1 H1 τ σ :=
  ⟨s.len, fun i d e => let ⟨v, a, b⟩ := s.at_ i d e; ⟨v, a, b.keep k⟩⟩
theorem SRel.set {K : PySem.W.Frag} {ρ : Rho} {H : Hp} {τ : IX.St} {σ : L2.St} (s : SRel K ρ H τ σ) {d : D} {v : V} (r : Rep K ρ H d v) (i : Nat) : SRel K ρ H (τ.set i (some d)) (σ.set i (some v)) := by
  refine ⟨by rw [List.length_set, List.length_set]; exact s.len, fun j e q => ?_⟩
  by_cases hj : i = j
  · subst hj
    by_cases hl : i < τ.length
    · rw [List.getElem?_set_self hl] at q
      cases q
      exact ⟨v, List.getElem?_set_self (by rw [← s.len]; exact hl), r⟩
    · rw [List.getElem?_eq_none (by rw [List.length_set]; omega)] at q
      cases q
  · rw [List.getElem?_set_ne hj] at q ⊢
    exact s.at_ j e q

/-! ### lists and tuples read -/
section
variable {K : PySem.W.Frag} {cl : Nat → Option Addr} {ρ : Rho} {H : Hp} {h : Hh}
theorem Reps.length : ∀ {ds : List D} {vs : List V}, Reps K ρ H ds vs → ds.length = vs.length
  | _, _, .nil => rfl
  | _, _, .cons _ r => congrArg Nat.succ (Reps.length r)
theorem Reps.append : ∀ {ds es : List D} {vs us : List V}, Reps K ρ H ds vs → Reps K ρ H es us → Reps K ρ H (ds ++ es) (vs ++ us)
  | _, _, _, _, .nil, s => s
  | _, _, _, _, .cons a r, s => .cons a (Reps.append r s)
theorem Reps.get : ∀ {ds : List D} {vs : List V} {i : Nat} {d : D}, Reps K ρ H ds vs → ds[i]? = some d → ∃ v, vs[i]? = some v ∧ Rep K ρ H d v
  | _, _, i, _, .nil, e => by simp at e
  | _, _, 0, _, .cons a r, e => by simp at e; subst e; exact ⟨_, rfl, a⟩
  | _, _, i + 1, _, .cons a r, e => by
    simp at e
    obtain ⟨v, e1, q⟩ := Reps.get r e
    exact ⟨v, by simpa using e1, q⟩
theorem Reps.take : ∀ {ds : List D} {vs : List V} (n : Nat), Reps K ρ H ds vs → Reps K ρ H (ds.take n) (vs.take n)
  | _, _, 0, _ => .nil
  | _, _, _ + 1, .nil => .nil
  | _, _, n + 1, .cons a r => .cons a (Reps.take n r)
theorem Reps.drop : ∀ {ds : List D} {vs : List V} (n : Nat), Reps K ρ H ds vs → Reps K ρ H (ds.drop n) (vs.drop n)
  | _, _, 0, r => r
  | _, _, _ + 1, .nil => .nil
  | _, _, n + 1, .cons _ r => Reps.drop n r
theorem Reps.reverse {ds : List D} {vs : List V} (r : Reps K ρ H ds vs) : Reps K ρ H ds.reverse vs.reverse := by
  induction r using Reps.rec (motive_1 := fun _ _ _ => True) with
  | nil => exact .nil
  | cons a r _ ih =>
    rw [List.reverse_cons, List.reverse_cons]
    exact ih.append (.cons a .nil)
  | _ => trivial
theorem Reps.set {d : D} {v : V} (a : Rep K ρ H d v) : ∀ {ds : List D} {vs : List V} (j : Nat), Reps K ρ H ds vs → Reps K ρ H (ds.set j d) (vs.set j v)
  | _, _, _, .nil => .nil
  | _, _, 0, .cons _ r => .cons a r
  | _, _, j + 1, .cons b r => .cons b (Reps.set a j r)
/-- an index's item -/
theorem Reps.atI {ds : List D} {vs : List V} {i : Int} {d : D} (r : Reps K ρ H ds vs) (e : L2.atI ds i = some d) : ∃ v, L2.atI vs i = some v ∧ Rep K ρ H d v := by
  unfold L2.atI at e ⊢
  rw [← r.length]
  cases q : L2.ixN ds.length i with
  | none => rw [q] at e; cases e
  | some j =>
    rw [q] at e
    obtain ⟨v, e1, q1⟩ := r.get (show ds[j]? = some d from e)
    exact ⟨v, e1, q1⟩
/-- a list: its items as they are read -/
theorem listD_rel (hr : HRel K cl ρ H h) {d : D} {x : V} {xs : List D} (r : Rep K ρ H d x) (e : listD d h = some xs) : ∃ a vs, x = .ref a ∧ SqL K H a vs ∧ Reps K ρ H xs vs := by
  cases r with
  | lck s q => cases e; exact ⟨_, _, rfl, s.sql, q⟩
  | @ref a p ea =>
    obtain ⟨o, eo, x⟩ := hr.get ea
    have e2 : h[a]?.bind O.seq? = some xs := e
    rw [eo] at e2
    cases o with
    | lst ds =>
      cases e2
      obtain ⟨vs, e3, q⟩ := x
      exact ⟨p, vs, rfl, SqL.of e3, q⟩
    | dic _ => cases e2
    | ins _ _ => cases e2
  | _ => cases e
/-- the object at a list's place -/
theorem obj_lst (hr : HRel K cl ρ H h) {a : Nat} {p : Addr} {ds : List D} (ea : ρ[a]? = some p) (e : h[a]? = some (.lst ds)) : ∃ vs, H p = some (.lst vs) ∧ Reps K ρ H ds vs := hr.obj a p _ ea e
theorem obj_dic (hr : HRel K cl ρ H h) {a : Nat} {p : Addr} {ds : List (D × D)} (ea : ρ[a]? = some p) (e : h[a]? = some (.dic ds)) : ∃ vs, H p = some (.dK vs) ∧ RepK K ρ H ds vs := hr.obj a p _ ea e
/-- a new list -/
theorem new_lst {Q : VK} {ds : List D} {vs : List V} {x : Nat → List (Str × D) → Hh → Prop} (hr : HRel K cl ρ H h) (r : Reps K ρ H ds vs) (w : WR (R.new (.lst ds) h) (PostE K cl ρ H Q) x) (p : Addr) (n : H p = none) : Q (.ref p) (upd H p (.lst vs)) := by
  have kp : Keep K ρ H (ρ ++ [p]) (upd H p (.lst vs)) := Keep.push n
  refine w (ρ ++ [p]) (upd H p (.lst vs)) (.ref p) kp ?_ (.ref (by rw [← hr.len, List.getElem?_append_right (Nat.le_refl _), Nat.sub_self]; rfl))
  exact hr.push n ⟨vs, upd_same, r.keep kp⟩
theorem new_dic {Q : VK} {ds : List (D × D)} {vs : List (Key × V)} {x : Nat → List (Str × D) → Hh → Prop} (hr : HRel K cl ρ H h) (r : RepK K ρ H ds vs) (w : WR (R.new (.dic ds) h) (PostE K cl ρ H Q) x) (p : Addr) (n : H p = none) : Q (.ref p) (upd H p (.dK vs)) := by
  have kp : Keep K ρ H (ρ ++ [p]) (upd H p (.dK vs)) := Keep.push n
  refine w (ρ ++ [p]) (upd H p (.dK vs)) (.ref p) kp ?_ (.ref (by rw [← hr.len, List.getElem?_append_right (Nat.le_refl _), Nat.sub_self]; rfl))
  exact hr.push n ⟨vs, upd_same, r.keep kp⟩
/-- a new tuple -/
theorem new_tup {Q : VK} {ds : List D} {vs : List V} (hr : HRel K cl ρ H h) (r : Reps K ρ H ds vs) (w : PostE K cl ρ H Q (.tup ds) h) (p : Addr) (n : H p = none) : Q (.ref p) (upd H p (.tup vs)) :=
  w ρ (upd H p (.tup vs)) (.ref p) (Keep.new n) (hr.beside n) (.tup (SqT.of upd_same) (r.keep (Keep.new n)))
/-- the same value, nothing done -/
theorem PostE.now {Q : VK} {d : D} {v : V} (hr : HRel K cl ρ H h) (r : Rep K ρ H d v) (w : PostE K cl ρ H Q d h) : Q v H := w ρ H v Keep.refl hr r
end

/-! ### operators by value -/
def rB (K : PySem.W.Frag) (cl : Nat → Option Addr) (o : Op) : R2 := fun x y H Q => ∃ ρ h d e z, HRel K cl ρ H h ∧ Rep K ρ H d x ∧ Rep K ρ H e y ∧ WR (binop o d e h) (PostE K cl ρ H Q) z
section
variable {X : Cx} {cl : Nat → Option Addr}
def rCatL (K : PySem.W.Frag) : R2 := fun x y H Q => ∃ l b xs zs, x = .ref l ∧ y = .ref b ∧ SqL K H l xs ∧ SqL K H b zs ∧ xs.length + zs.length ≤ sizeLine ∧ ∀ p, H p = none → Q (.ref p) (upd H p (.lst (xs ++ zs)))
theorem op_catL : OpR X (binaryOp .Add) (rCatL X.K) := by
  intro pins s σ H x y v u Q I rx ry h
  obtain ⟨l, b, xs, zs, rfl, rfl, hH, hB, hz, q⟩ := h
  cases rx
  cases ry
  obtain ⟨its, r, pl, hl⟩ := I.list hH
  obtain ⟨its2, r2, pl2, hl2⟩ := I.list hB
  have z1 := r.length
  have z2 := r2.length
  obtain ⟨⟨cls, dd, data, sl⟩, ho, hc, n, hd⟩ := id pl.isList
  obtain ⟨⟨cls2, dd2, data2, sl2⟩, ho2, hc2, n2, hd2⟩ := id pl2.isList
  simp only at hc hd hc2 hd2
  subst hc hd hc2 hd2
  have e : its.toArray ++ its2.toArray = (its ++ its2).toArray := by simp
  refine concat_meets ⟨_, ho, rfl⟩ ⟨_, ho2, rfl⟩ noFill_list_add seq_list_add F.slot_list_add F.entry_list_add (F.args_list_add_2 _ _) (list_addW l b its.toArray its2.toArray n n2 dd dd2 sl sl2 (by rw [List.size_toArray, List.size_toArray]; omega)) ⟨ho, ho2, ?_⟩
  rw [e]
  exact ⟨.ref _, _, I.lnew (t' := s.toks) (r.append r2) (by rw [List.length_append]; omega), rfl, q _ I.fresh⟩
theorem op_addB : OpR X (binaryOp .Add) (rB X.K cl .add) := by
  intro pins s σ H x y v u Q I rx ry h
  obtain ⟨ρ, h, d, e, z, hr, r1, r2, w⟩ := h
  have hl : sizeLine = line := sizeLine_eq
  have byList : ∀ m, addD d e h = m → (m = match listD d h, listD e h with
    | some xs, some ys => if xs.length + ys.length ≤ line then R.new (.lst (xs ++ ys)) h else .bad
    | _, _ => .bad) → wpAny (model X.prog X.w) X.A (binaryOp .Add v u) (EP X pins σ Q) X.xe s := fun m e1 e2 => by
    have w1 : WR (addD d e h) (PostE X.K cl ρ H Q) z := w
    rw [e1, e2] at w1
    cases q1 : listD d h with
    | none => rw [q1] at w1; exact (show False from w1).elim
    | some xs =>
      cases q2 : listD e h with
      | none => rw [q1, q2] at w1; exact (show False from w1).elim
      | some ys =>
        rw [q1, q2] at w1
        dsimp only at w1
        by_cases c : xs.length + ys.length ≤ line
        · rw [if_pos c] at w1
          obtain ⟨a, vs, rfl, s1, t1⟩ := listD_rel hr r1 q1
          obtain ⟨b, us, rfl, s2, t2⟩ := listD_rel hr r2 q2
          exact op_catL pins s σ H _ _ v u Q I rx ry ⟨a, b, vs, us, rfl, rfl, s1, s2, by rw [← t1.length, ← t2.length, hl]; exact c, fun p n => new_lst hr (t1.append t2) w1 p n⟩
        · rw [if_neg c] at w1; exact (show False from w1).elim
  cases r1 with
  | int i =>
    cases r2 with
    | int j => exact op_add pins s σ H _ _ v u Q I rx ry ⟨i, j, rfl, rfl, PostE.now hr (.int _) w⟩
    | _ => exact byList _ rfl rfl
  | str i z1 =>
    cases r2 with
    | str j z2 =>
      have w1 : WR (strD (i ++ j) h) (PostE X.K cl ρ H Q) z := w
      unfold strD at w1
      by_cases c : (i ++ j).length ≤ line
      · rw [if_pos c] at w1
        exact op_add_str pins s σ H _ _ v u Q I rx ry ⟨i, j, rfl, rfl, by rw [← PySem.Str.length_append, hl]; exact c, PostE.now hr (.str _ c) w1⟩
      · rw [if_neg c] at w1; exact (show False from w1).elim
    | _ => exact byList _ rfl rfl
  | @tup a ds vs s1 t1 =>
    cases r2 with
    | @tup b es us s2 t2 =>
      have w1 : WR (if ds.length + es.length ≤ line then R.ok (.tup (ds ++ es)) h else .bad) (PostE X.K cl ρ H Q) z := w
      by_cases c : ds.length + es.length ≤ line
      · rw [if_pos c] at w1
        refine op_catA pins s σ H _ _ v u Q I rx ry ⟨a, b, vs, us, rfl, rfl, s1, s2, by rw [← t1.length, ← t2.length, hl]; exact c, fun e => ?_, fun _ e => ?_, fun _ _ p n => new_tup hr (t1.append t2) w1 p n⟩
        · have q := t1.append t2
          rw [e, List.nil_append] at q
          exact PostE.now hr (.tup s2 q) w1
        · have q := t1.append t2
          rw [e, List.append_nil] at q
          exact PostE.now hr (.tup s1 q) w1
      · rw [if_neg c] at w1; exact (show False from w1).elim
    | _ => exact byList _ rfl rfl
  | _ => cases r2 <;> exact byList _ rfl rfl
end
end IX
end

section
set_option Elab.async false
set_option linter.all false
set_option maxRecDepth 100000
set_option maxHeartbeats 2000000
/-! IXq: a dict against what is no dict. -/
namespace IX
open PySem PySem.Spec PyProof.Rows PySem.SeqAt PySem.Calls
open AutoSeq1 (wpAny_loadPart')
open MeetsSeq
/-- an object that is a plain dict -/
def IsD (h : Heap) (a : Addr) : Prop := ∃ o es ep, h.get? a = some o ∧ o.ExactDict ∧ o.data = .dict es ep
theorem IsD.type {s : Shared} {a : Addr} (d : IsD s.heap a) : s.TypeIs (.ref a) "dict" := by
  obtain ⟨o, es, ep, e, x, _⟩ := d
  exact ⟨o, e, x.1⟩
section
variable {prog : Program} {w : World} {A : Around} {E : Value → Shared → Prop} {s : Shared}
theorem dict_declines {a : Addr} {b : Value} {T : String} {Q : Value → Shared → Prop} (d : IsD s.heap a) (hT : s.TypeIs b T) (hs : isSubtype (.type T) (.type "dict") = pure false) (hq : Q .notImplemented s) :
    wpAny (model prog w) A (call (.builtin "dict.__eq__") [.ref a, b]) Q E s := by
  refine wpAny_call_entry PySem.F.slot_dict_eq d.type PySem.F.entry_dict_eq ?_ (PySem.F.args_dict_eq_2 _ _)
  show wpAny _ _ (Builtin.Dict.dictSlotArgs "__eq__" ⟨[.ref a, b], []⟩ >>= _) _ _ s
  refine wpAny_bind ?_
  unfold Builtin.Dict.dictSlotArgs
  refine wpAny_bind (wpAny_notOrdered_dict d.type ?_)
  show wpAny _ _ (pure (Value.ref a, b)) _ _ s
  refine wpAny_pure ?_
  refine wpAny_bind (wpAny_isInstance hT hs ?_)
  simp only [Bool.not_false, if_true]
  exact wpAny_bind (wpAny_rule (wpAny_pure ⟨_, rfl, hq⟩))
theorem str_declines (b : Str) (u : Tok) (l : Addr) (dd : Option Addr) (es : Array DictEntry) (ep : Nat) (sl : Array (Option Value)) :
    Meets (Builtin.«str.__eq__» ⟨[.str b u, .ref l], []⟩) (fun _ R s => s.heap.get? l = some { cls := .type "dict", dict := dd, data := .dict es ep, slots := sl } ∧ R (.ok (.ret .notImplemented)) s) :=
  .of_wp fun prog w A R s h => by obtain ⟨hp, g, d, tk, os⟩ := s; obtain ⟨hl, h⟩ := h; wp_walk using wpAny_loadPart' hl, wpAny_load hl; exact ⟨_, rfl, h⟩
theorem int_declines (b : Int) (u : Tok) (l : Addr) (dd : Option Addr) (es : Array DictEntry) (ep : Nat) (sl : Array (Option Value)) :
    Meets (Builtin.«int.__eq__» ⟨[.int b u, .ref l], []⟩) (fun _ R s => s.heap.get? l = some { cls := .type "dict", dict := dd, data := .dict es ep, slots := sl } ∧ R (.ok (.ret .notImplemented)) s) :=
  .of_wp fun prog w A R s h => by obtain ⟨hp, g, d, tk, os⟩ := s; obtain ⟨hl, h⟩ := h; wp_walk using wpAny_loadPart' hl, wpAny_load hl; exact ⟨_, rfl, h⟩
theorem bool_declines (b : Bool) (l : Addr) (dd : Option Addr) (es : Array DictEntry) (ep : Nat) (sl : Array (Option Value)) :
    Meets (Builtin.«int.__eq__» ⟨[.bool b, .ref l], []⟩) (fun _ R s => s.heap.get? l = some { cls := .type "dict", dict := dd, data := .dict es ep, slots := sl } ∧ R (.ok (.ret .notImplemented)) s) :=
  .of_wp fun prog w A R s h => by obtain ⟨hp, g, d, tk, os⟩ := s; obtain ⟨hl, h⟩ := h; wp_walk using wpAny_loadPart' hl, wpAny_load hl; exact ⟨_, rfl, h⟩
theorem list_declines (l b : Addr) (items : Array Value) (n : Nat) (dd dd2 : Option Addr) (sl sl2 : Array (Option Value)) (es : Array DictEntry) (ep : Nat) :
    Meets (Builtin.«list.__eq__» ⟨[.ref l, .ref b], []⟩) (fun _ R s => s.heap.get? l = some { cls := .type "list", dict := dd, data := .seq items n, slots := sl } ∧ s.heap.get? b = some { cls := .type "dict", dict := dd2, data := .dict es ep, slots := sl2 } ∧ R (.ok (.ret .notImplemented)) s) :=
  .of_wp fun prog w A R s h => by obtain ⟨hp, g, d, tk, os⟩ := s; obtain ⟨hl, hb, h⟩ := h; have f1 := F.sub_dict_list; wp_walk using wpAny_loadPart' hl, wpAny_loadPart' hb; exact ⟨_, rfl, h⟩
theorem tuple_declines (l b : Addr) (items : Array Value) (n : Nat) (dd dd2 : Option Addr) (sl sl2 : Array (Option Value)) (es : Array DictEntry) (ep : Nat) :
    Meets (Builtin.«tuple.__eq__» ⟨[.ref l, .ref b], []⟩) (fun _ R s => s.heap.get? l = some { cls := .type "tuple", dict := dd, data := .seq items n, slots := sl } ∧ s.heap.get? b = some { cls := .type "dict", dict := dd2, data := .dict es ep, slots := sl2 } ∧ R (.ok (.ret .notImplemented)) s) :=
  .of_wp fun prog w A R s h => by obtain ⟨hp, g, d, tk, os⟩ := s; obtain ⟨hl, hb, h⟩ := h; have f1 := F.sub_dict_tuple; wp_walk using wpAny_loadPart' hl, wpAny_loadPart' hb; exact ⟨_, rfl, h⟩
theorem rc_dict_str {a : Addr} (b : Str) (u : Tok) (d : IsD s.heap a) (hu : A.units < cLine) : RcAt A s (.ref a) (.str b u) false := fun prog w E Q h => by
  obtain ⟨⟨c, dd, data, sl⟩, es, ep, e, x, z⟩ := id d
  obtain ⟨x1, x2, x3⟩ := x
  simp only at x1 z
  subst x1 z
  exact rc_eq_decline_or (k := false) d.type (typeIs_str s b u) (by decide) F.sub_str_dict F.slot_dict_eq F.slot_str_eq_refl
    (fun _ hq => dict_declines d (typeIs_str s b u) F.sub_str_dict hq)
    (fun _ hq => call_meets F.slot_str_eq_refl (typeIs_str s b u) F.entry_str_eq (F.args_str_eq_2 _ _) (str_declines b u a dd es ep sl) ⟨e, hq⟩)
    (fun _ hq => wpAny_of_eq (rfl : isSame (.ref a) (.str b u) = pure false) hq) (.inr hu) h
theorem rc_str_dict {a : Addr} (b : Str) (u : Tok) (d : IsD s.heap a) (hu : A.units < cLine) : RcAt A s (.str b u) (.ref a) false := fun prog w E Q h => by
  obtain ⟨⟨c, dd, data, sl⟩, es, ep, e, x, z⟩ := id d
  obtain ⟨x1, x2, x3⟩ := x
  simp only at x1 z
  subst x1 z
  exact rc_eq_decline_or (k := false) (typeIs_str s b u) d.type (by decide) F.sub_dict_str F.slot_str_eq F.slot_dict_eq_refl
    (fun _ hq => call_meets F.slot_str_eq (typeIs_str s b u) F.entry_str_eq (F.args_str_eq_2 _ _) (str_declines b u a dd es ep sl) ⟨e, hq⟩)
    (fun _ hq => dict_declines d (typeIs_str s b u) F.sub_str_dict hq)
    (fun _ hq => wpAny_of_eq (rfl : isSame (.str b u) (.ref a) = pure false) hq) (.inr hu) h
theorem rc_dict_int {a : Addr} (b : Int) (u : Tok) (d : IsD s.heap a) (hu : A.units < cLine) : RcAt A s (.ref a) (.int b u) false := fun prog w E Q h => by
  obtain ⟨⟨c, dd, data, sl⟩, es, ep, e, x, z⟩ := id d
  obtain ⟨x1, x2, x3⟩ := x
  simp only at x1 z
  subst x1 z
  exact rc_eq_decline_or (k := false) d.type (typeIs_int s b u) (by decide) F.sub_int_dict F.slot_dict_eq F.slot_int_eq_refl
    (fun _ hq => dict_declines d (typeIs_int s b u) F.sub_int_dict hq)
    (fun _ hq => call_meets F.slot_int_eq_refl (typeIs_int s b u) F.entry_int_eq (F.args_int_eq_2 _ _) (int_declines b u a dd es ep sl) ⟨e, hq⟩)
    (fun _ hq => wpAny_of_eq (rfl : isSame (.ref a) (.int b u) = pure false) hq) (.inr hu) h
theorem rc_int_dict {a : Addr} (b : Int) (u : Tok) (d : IsD s.heap a) (hu : A.units < cLine) : RcAt A s (.int b u) (.ref a) false := fun prog w E Q h => by
  obtain ⟨⟨c, dd, data, sl⟩, es, ep, e, x, z⟩ := id d
  obtain ⟨x1, x2, x3⟩ := x
  simp only at x1 z
  subst x1 z
  exact rc_eq_decline_or (k := false) (typeIs_int s b u) d.type (by decide) (F.sub_dict_int) F.slot_int_eq F.slot_dict_eq_refl
    (fun _ hq => call_meets F.slot_int_eq (typeIs_int s b u) F.entry_int_eq (F.args_int_eq_2 _ _) (int_declines b u a dd es ep sl) ⟨e, hq⟩)
    (fun _ hq => dict_declines d (typeIs_int s b u) F.sub_int_dict hq)
    (fun _ hq => wpAny_of_eq (rfl : isSame (.int b u) (.ref a) = pure false) hq) (.inr hu) h
theorem rc_dict_bool {a : Addr} (b : Bool) (d : IsD s.heap a) (hu : A.units < cLine) : RcAt A s (.ref a) (.bool b) false := fun prog w E Q h => by
  obtain ⟨⟨c, dd, data, sl⟩, es, ep, e, x, z⟩ := id d
  obtain ⟨x1, x2, x3⟩ := x
  simp only at x1 z
  subst x1 z
  exact rc_eq_decline_or (k := false) d.type (rfl : s.TypeIs (.bool b) "bool") (by decide) F.sub_bool_dict F.slot_dict_eq F.slot_bool_eq_refl
    (fun _ hq => dict_declines d (rfl : s.TypeIs (.bool b) "bool") F.sub_bool_dict hq)
    (fun _ hq => call_meets F.slot_bool_eq_refl (rfl : s.TypeIs (.bool b) "bool") F.entry_int_eq (F.args_int_eq_2 _ _) (bool_declines b a dd es ep sl) ⟨e, hq⟩)
    (fun _ hq => wpAny_of_eq (rfl : isSame (.ref a) (.bool b) = pure false) hq) (.inr hu) h
theorem rc_bool_dict {a : Addr} (b : Bool) (d : IsD s.heap a) (hu : A.units < cLine) : RcAt A s (.bool b) (.ref a) false := fun prog w E Q h => by
  obtain ⟨⟨c, dd, data, sl⟩, es, ep, e, x, z⟩ := id d
  obtain ⟨x1, x2, x3⟩ := x
  simp only at x1 z
  subst x1 z
  exact rc_eq_decline_or (k := false) (rfl : s.TypeIs (.bool b) "bool") d.type (by decide) (F.sub_dict_bool) F.slot_bool_eq F.slot_dict_eq_refl
    (fun _ hq => call_meets F.slot_bool_eq (rfl : s.TypeIs (.bool b) "bool") F.entry_int_eq (F.args_int_eq_2 _ _) (bool_declines b a dd es ep sl) ⟨e, hq⟩)
    (fun _ hq => dict_declines d (rfl : s.TypeIs (.bool b) "bool") F.sub_bool_dict hq)
    (fun _ hq => wpAny_of_eq (rfl : isSame (.bool b) (.ref a) = pure false) hq) (.inr hu) h
theorem rc_dict_none {a : Addr} (d : IsD s.heap a) (hu : A.units < cLine) : RcAt A s (.ref a) .none false := fun prog w E Q h =>
  rc_eq_decline_or (k := false) d.type (rfl : s.TypeIs .none "NoneType") (by decide) F.sub_NoneType_dict F.slot_dict_eq F.slot_NoneType_eq_refl
    (fun _ hq => dict_declines d (rfl : s.TypeIs .none "NoneType") F.sub_NoneType_dict hq)
    (fun _ hq => call_gives F.slot_NoneType_eq_refl rfl F.entry_NoneType_eq (F.args_NoneType_eq_2 _ _) (NoneType___eq___none_ref_0 a) hq)
    (fun _ hq => wpAny_of_eq (rfl : isSame (.ref a) .none = pure false) hq) (.inr hu) h
theorem rc_none_dict {a : Addr} (d : IsD s.heap a) (hu : A.units < cLine) : RcAt A s .none (.ref a) false := fun prog w E Q h =>
  rc_eq_decline_or (k := false) (rfl : s.TypeIs .none "NoneType") d.type (by decide) (F.sub_dict_NoneType) F.slot_NoneType_eq F.slot_dict_eq_refl
    (fun _ hq => call_gives F.slot_NoneType_eq rfl F.entry_NoneType_eq (F.args_NoneType_eq_2 _ _) (NoneType___eq___none_ref_0 a) hq)
    (fun _ hq => dict_declines d (rfl : s.TypeIs .none "NoneType") F.sub_NoneType_dict hq)
    (fun _ hq => wpAny_of_eq (rfl : isSame .none (.ref a) = pure false) hq) (.inr hu) h
theorem isD_ne_list {a l : Addr} {items : Array Value} (d : IsD s.heap a) (hl : s.heap.IsList l items) : a ≠ l := by
  rintro rfl
  obtain ⟨o, es, ep, e, x, z⟩ := d
  obtain ⟨o', e', c, _⟩ := hl
  rw [e] at e'; cases e'
  rw [x.1] at c
  injection c with c1
  exact absurd c1 (by decide)
theorem isD_ne_tuple {a l : Addr} {items : Array Value} (d : IsD s.heap a) (hl : s.heap.IsTuple l items) : a ≠ l := by
  rintro rfl
  obtain ⟨o, es, ep, e, x, z⟩ := d
  obtain ⟨o', e', c, _⟩ := hl
  rw [e] at e'; cases e'
  rw [x.1] at c
  injection c with c1
  exact absurd c1 (by decide)
theorem rc_dict_list {a l : Addr} {items : Array Value} (d : IsD s.heap a) (hl : s.heap.IsList l items) (hu : A.units < cLine) : RcAt A s (.ref a) (.ref l) false := fun prog w E Q h => by
  obtain ⟨⟨c, dd, data, sl⟩, es, ep, e, x, z⟩ := id d
  obtain ⟨x1, x2, x3⟩ := x
  simp only at x1 z
  subst x1 z
  obtain ⟨⟨cls, dd2, data2, sl2⟩, ho, hc, n, hd⟩ := id hl
  simp only at hc hd
  subst hc hd
  exact rc_eq_decline_or (k := false) d.type ⟨_, ho, rfl⟩ (by decide) F.sub_list_dict F.slot_dict_eq F.slot_list_eq_refl
    (fun _ hq => dict_declines d ⟨_, ho, rfl⟩ F.sub_list_dict hq)
    (fun _ hq => call_meets F.slot_list_eq_refl ⟨_, ho, rfl⟩ F.entry_list_eq (F.args_list_eq_2 _ _) (list_declines l a items n dd2 dd sl2 sl es ep) ⟨ho, e, hq⟩)
    (fun _ hq => wpAny_isSame_ref_other' (isD_ne_list d hl) e ho (by simp) hq) (.inr hu) h
theorem rc_list_dict {a l : Addr} {items : Array Value} (d : IsD s.heap a) (hl : s.heap.IsList l items) (hu : A.units < cLine) : RcAt A s (.ref l) (.ref a) false := fun prog w E Q h => by
  obtain ⟨⟨c, dd, data, sl⟩, es, ep, e, x, z⟩ := id d
  obtain ⟨x1, x2, x3⟩ := x
  simp only at x1 z
  subst x1 z
  obtain ⟨⟨cls, dd2, data2, sl2⟩, ho, hc, n, hd⟩ := id hl
  simp only at hc hd
  subst hc hd
  exact rc_eq_decline_or (k := false) ⟨_, ho, rfl⟩ d.type (by decide) F.sub_dict_list F.slot_list_eq F.slot_dict_eq_refl
    (fun _ hq => call_meets F.slot_list_eq ⟨_, ho, rfl⟩ F.entry_list_eq (F.args_list_eq_2 _ _) (list_declines l a items n dd2 dd sl2 sl es ep) ⟨ho, e, hq⟩)
    (fun _ hq => dict_declines d ⟨_, ho, rfl⟩ F.sub_list_dict hq)
    (fun _ hq => wpAny_isSame_ref_other' (isD_ne_list d hl).symm ho e (by simp) hq) (.inr hu) h
theorem rc_dict_tuple {a l : Addr} {items : Array Value} (d : IsD s.heap a) (hl : s.heap.IsTuple l items) (hu : A.units < cLine) : RcAt A s (.ref a) (.ref l) false := fun prog w E Q h => by
  obtain ⟨⟨c, dd, data, sl⟩, es, ep, e, x, z⟩ := id d
  obtain ⟨x1, x2, x3⟩ := x
  simp only at x1 z
  subst x1 z
  obtain ⟨⟨cls, dd2, data2, sl2⟩, ho, hc, n, hd⟩ := id hl
  simp only at hc hd
  subst hc hd
  exact rc_eq_decline_or (k := false) d.type ⟨_, ho, rfl⟩ (by decide) F.sub_tuple_dict F.slot_dict_eq F.slot_tuple_eq_refl
    (fun _ hq => dict_declines d ⟨_, ho, rfl⟩ F.sub_tuple_dict hq)
    (fun _ hq => call_meets F.slot_tuple_eq_refl ⟨_, ho, rfl⟩ F.entry_tuple_eq (F.args_tuple_eq_2 _ _) (tuple_declines l a items n dd2 dd sl2 sl es ep) ⟨ho, e, hq⟩)
    (fun _ hq => wpAny_isSame_ref_other (isD_ne_tuple d hl) e ho (by simp) hq) (.inr hu) h
theorem rc_tuple_dict {a l : Addr} {items : Array Value} (d : IsD s.heap a) (hl : s.heap.IsTuple l items) (hu : A.units < cLine) : RcAt A s (.ref l) (.ref a) false := fun prog w E Q h => by
  obtain ⟨⟨c, dd, data, sl⟩, es, ep, e, x, z⟩ := id d
  obtain ⟨x1, x2, x3⟩ := x
  simp only at x1 z
  subst x1 z
  obtain ⟨⟨cls, dd2, data2, sl2⟩, ho, hc, n, hd⟩ := id hl
  simp only at hc hd
  subst hc hd
  exact rc_eq_decline_or (k := false) ⟨_, ho, rfl⟩ d.type (by decide) F.sub_dict_tuple F.slot_tuple_eq F.slot_dict_eq_refl
    (fun _ hq => call_meets F.slot_tuple_eq ⟨_, ho, rfl⟩ F.entry_tuple_eq (F.args_tuple_eq_2 _ _) (tuple_declines l a items n dd2 dd sl2 sl es ep) ⟨ho, e, hq⟩)
    (fun _ hq => dict_declines d ⟨_, ho, rfl⟩ F.sub_tuple_dict hq)
    (fun _ hq => wpAny_isSame_ref_other' (isD_ne_tuple d hl).symm ho e (by simp) hq) (.inr hu) h
theorem at_dict_str {a : Addr} (b : Str) (u : Tok) (d : IsD s.heap a) (hu : A.units < cLine) : EqAt A s (.ref a) (.str b u) false := fun prog w E Q h => by
  unfold eqBool
  refine wpAny_holding ?_
  refine wpAny_ite_split (fun hab => absurd (eq_of_beq hab) nofun) (fun _ => ?_)
  exact wpAny_bind (rc_dict_str b u d hu prog w E _ (wpAny_truthy_bool h))
theorem at_str_dict {a : Addr} (b : Str) (u : Tok) (d : IsD s.heap a) (hu : A.units < cLine) : EqAt A s (.str b u) (.ref a) false := fun prog w E Q h => by
  unfold eqBool
  refine wpAny_holding ?_
  refine wpAny_ite_split (fun hab => absurd (eq_of_beq hab) nofun) (fun _ => ?_)
  exact wpAny_bind (rc_str_dict b u d hu prog w E _ (wpAny_truthy_bool h))
theorem at_dict_int {a : Addr} (b : Int) (u : Tok) (d : IsD s.heap a) (hu : A.units < cLine) : EqAt A s (.ref a) (.int b u) false := fun prog w E Q h => by
  unfold eqBool
  refine wpAny_holding ?_
  refine wpAny_ite_split (fun hab => absurd (eq_of_beq hab) nofun) (fun _ => ?_)
  exact wpAny_bind (rc_dict_int b u d hu prog w E _ (wpAny_truthy_bool h))
theorem at_int_dict {a : Addr} (b : Int) (u : Tok) (d : IsD s.heap a) (hu : A.units < cLine) : EqAt A s (.int b u) (.ref a) false := fun prog w E Q h => by
  unfold eqBool
  refine wpAny_holding ?_
  refine wpAny_ite_split (fun hab => absurd (eq_of_beq hab) nofun) (fun _ => ?_)
  exact wpAny_bind (rc_int_dict b u d hu prog w E _ (wpAny_truthy_bool h))
theorem at_dict_bool {a : Addr} (b : Bool) (d : IsD s.heap a) (hu : A.units < cLine) : EqAt A s (.ref a) (.bool b) false := fun prog w E Q h => by
  unfold eqBool
  refine wpAny_holding ?_
  refine wpAny_ite_split (fun hab => absurd (eq_of_beq hab) nofun) (fun _ => ?_)
  exact wpAny_bind (rc_dict_bool b d hu prog w E _ (wpAny_truthy_bool h))
theorem at_bool_dict {a : Addr} (b : Bool) (d : IsD s.heap a) (hu : A.units < cLine) : EqAt A s (.bool b) (.ref a) false := fun prog w E Q h => by
  unfold eqBool
  refine wpAny_holding ?_
  refine wpAny_ite_split (fun hab => absurd (eq_of_beq hab) nofun) (fun _ => ?_)
  exact wpAny_bind (rc_bool_dict b d hu prog w E _ (wpAny_truthy_bool h))
theorem at_dict_none {a : Addr} (d : IsD s.heap a) (hu : A.units < cLine) : EqAt A s (.ref a) .none false := fun prog w E Q h => by
  unfold eqBool
  refine wpAny_holding ?_
  refine wpAny_ite_split (fun hab => absurd (eq_of_beq hab) nofun) (fun _ => ?_)
  exact wpAny_bind (rc_dict_none d hu prog w E _ (wpAny_truthy_bool h))
theorem at_none_dict {a : Addr} (d : IsD s.heap a) (hu : A.units < cLine) : EqAt A s .none (.ref a) false := fun prog w E Q h => by
  unfold eqBool
  refine wpAny_holding ?_
  refine wpAny_ite_split (fun hab => absurd (eq_of_beq hab) nofun) (fun _ => ?_)
  exact wpAny_bind (rc_none_dict d hu prog w E _ (wpAny_truthy_bool h))
theorem at_dict_list {a l : Addr} {items : Array Value} (d : IsD s.heap a) (hl : s.heap.IsList l items) (hu : A.units < cLine) : EqAt A s (.ref a) (.ref l) false := .of_refs (isD_ne_list d hl) (rc_dict_list d hl hu)
theorem at_list_dict {a l : Addr} {items : Array Value} (d : IsD s.heap a) (hl : s.heap.IsList l items) (hu : A.units < cLine) : EqAt A s (.ref l) (.ref a) false := .of_refs ((isD_ne_list d hl).symm) (rc_list_dict d hl hu)
theorem at_dict_tuple {a l : Addr} {items : Array Value} (d : IsD s.heap a) (hl : s.heap.IsTuple l items) (hu : A.units < cLine) : EqAt A s (.ref a) (.ref l) false := .of_refs (isD_ne_tuple d hl) (rc_dict_tuple d hl hu)
theorem at_tuple_dict {a l : Addr} {items : Array Value} (d : IsD s.heap a) (hl : s.heap.IsTuple l items) (hu : A.units < cLine) : EqAt A s (.ref l) (.ref a) false := .of_refs ((isD_ne_tuple d hl).symm) (rc_tuple_dict d hl hu)
end
end IX
end

section
set_option Elab.async false
set_option linter.all false
set_option maxRecDepth 100000
set_option maxHeartbeats 2000000
/-! IX4: == of own values. -/
namespace IX
open PySem PySem.Spec PyProof.Rows L2
section
variable {X : Cx} {cl : Nat → Option Addr} {pins : List (Addr × Obj)} {σ : L2.St} {ρ : Rho} {H : Hp} {h : Hh} {s : Shared}
theorem isD_of (I : Inv X pins σ H s) {p : Addr} {ks : List (Key × V)} (e : H p = some (.dK ks)) : IsD s.heap p := by
  obtain ⟨_, _, vs, _, o, es, ep, e1, x, z, _⟩ := (show ObjOk X.prog X.w H s.heap p (.dK ks) from I.hok p _ e)
  exact ⟨o, es, ep, e1, x, z⟩
theorem tup_ne_lst (I : Inv X pins σ H s) {p : Addr} {vs us : List V} (t : SqT X.K H p vs) (e : H p = some (.lst us)) : False := by
  obtain ⟨its, _, ⟨o, e1, c, _⟩, _⟩ := I.tuple t
  obtain ⟨_, its2, n, _, _, e2⟩ := I.lstM e
  rw [e1] at e2; cases e2
  injection c with c1
  exact absurd c1 (by decide)
theorem tup_ne_dic (I : Inv X pins σ H s) {p : Addr} {vs : List V} {us : List (Key × V)} (t : SqT X.K H p vs) (e : H p = some (.dK us)) : False := by
  obtain ⟨its, _, ⟨o, e1, c, _⟩, _⟩ := I.tuple t
  obtain ⟨o2, es, ep, e2, x, _⟩ := isD_of I e
  rw [e1] at e2; cases e2
  rw [x.1] at c
  injection c with c1
  exact absurd c1 (by decide)
theorem eq_scal {n : Nat} {d e : D} : True := trivial
mutual
/-- what stands at one place is equal to itself -/
theorem eqD_same (I : Inv X pins σ H s) (hr : HRel X.K cl ρ H h) : ∀ (n : Nat) (d e : D) (x : V) (b : Bool), Rep X.K ρ H d x → Rep X.K ρ H e x → eqD h n d e = some b → b = true
  | 0, _, _, _, _, _, _, q => by cases q
  | n + 1, d, e, x, b, r1, r2, q => by
    cases r1 with
    | non => cases r2; cases q; rfl
    | bl => cases r2; cases q; simp
    | int => cases r2; cases q; simp
    | str => cases r2; cases q; simp
    | lck => cases r2 <;> cases q
    | @tup p ds vs s1 t1 =>
      cases r2 with
      | @tup _ es us s2 t2 =>
        have e1 := I.tuple_inj s1 s2
        subst e1
        have q' : (eqL (eqD h n) ds es).map (fun b => b && ds.length == es.length) = some b := q
        cases q2 : eqL (eqD h n) ds es with
        | none => rw [q2] at q'; cases q'
        | some c =>
          rw [q2] at q'
          have q3 : (c && ds.length == es.length) = b := Option.some.inj q'
          have := eqL_same I hr n ds es vs c t1 t2 q2
          rw [← q3, this, t1.length, t2.length]
          simp
      | lck s2 t2 => cases q
      | @ref a _ ea =>
        obtain ⟨o, eo, ox⟩ := hr.get ea
        cases o with
        | lst us => obtain ⟨us, e3, _⟩ := ox; exact (tup_ne_lst I s1 e3).elim
        | dic us => obtain ⟨us, e3, _⟩ := ox; exact (tup_ne_dic I s1 e3).elim
        | ins _ _ =>
          have q' : (if (h[a]?.map O.plain) = some true then some false else none) = some b := q
          rw [eo] at q'
          exact absurd q' (by simp [O.plain])
    | @ref a p ea =>
      cases r2 with
      | @tup _ es us s2 t2 =>
        obtain ⟨o, eo, ox⟩ := hr.get ea
        cases o with
        | lst us => obtain ⟨us, e3, _⟩ := ox; exact (tup_ne_lst I s2 e3).elim
        | dic us => obtain ⟨us, e3, _⟩ := ox; exact (tup_ne_dic I s2 e3).elim
        | ins _ _ =>
          have q' : (if (h[a]?.map O.plain) = some true then some false else none) = some b := q
          rw [eo] at q'
          exact absurd q' (by simp [O.plain])
      | lck s2 t2 => cases q
      | @ref b' _ eb =>
        have e1 := hr.inj a b' p ea eb
        subst e1
        have q0 : (if a = a then (if (h[a]?.map O.plain) = some true then some true else none) else eqRef (eqD h n) h a a) = some b := q
        rw [if_pos rfl] at q0
        clear q
        have q := q0
        split at q
        · cases q; rfl
        · cases q
theorem eqL_same (I : Inv X pins σ H s) (hr : HRel X.K cl ρ H h) : ∀ (n : Nat) (ds es : List D) (vs : List V) (b : Bool), Reps X.K ρ H ds vs → Reps X.K ρ H es vs → eqL (eqD h n) ds es = some b → b = true
  | n, [], [], _, b, _, _, q => by cases q; rfl
  | n, [], _ :: _, _, b, r1, r2, q => by cases q; rfl
  | n, _ :: _, [], _, b, r1, r2, q => by cases q; rfl
  | n, d :: ds, e :: es, _, b, r1, r2, q => by
    cases r1 with
    | cons a1 t1 =>
      cases r2 with
      | cons a2 t2 =>
        unfold eqL at q
        cases q1 : eqD h n d e with
        | none => rw [q1] at q; cases q
        | some c =>
          cases q2 : eqL (eqD h n) ds es with
          | none => rw [q1, q2] at q; cases q
          | some c2 =>
            rw [q1, q2] at q
            cases q
            rw [eqD_same I hr n d e _ c a1 a2 q1, eqL_same I hr n ds es _ c2 t1 t2 q2]
            rfl
end
end
section
variable {X : Cx} {cl : Nat → Option Addr} {pins : List (Addr × Obj)} {σ : L2.St} {ρ : Rho} {H : Hp} {h : Hh} {s : Shared}
theorem range_all (e : Nat → Bool) : ∀ n : Nat, (List.range (n + 1)).all e = (e 0 && (List.range n).all fun j => e (j + 1)) := fun n => by
  rw [List.range_succ_eq_map, List.all_cons, List.all_map]
  rfl
/-- the items' answers of two rows -/
theorem eqL_at {A : Around} {f : D → D → Option Bool} {R : D → V → Prop} (hf : ∀ d e x y v u b, Rep X.K ρ H d x → Rep X.K ρ H e y → RelV x v → RelV y u → f d e = some b → SeqAt.EqAt A s v u b) :
    ∀ (ds es : List D) (vs us : List V) (vl ul : List Value) (b : Bool), Reps X.K ρ H ds vs → Reps X.K ρ H es us → Vals vs vl → Vals us ul → eqL f ds es = some b →
      ∃ e : Nat → Bool, (∀ j (h1 : j < vl.length) (h2 : j < ul.length), SeqAt.EqAt A s vl[j] ul[j] (e j)) ∧ (List.range (min vl.length ul.length)).all e = b
  | [], _, _, _, _, _, b, r1, _, w1, _, q => by
    cases r1; cases w1
    cases q
    exact ⟨fun _ => true, fun j h1 => absurd h1 (by simp), by simp⟩
  | _ :: _, [], _, _, _, _, b, _, r2, _, w2, q => by
    cases r2; cases w2
    cases q
    exact ⟨fun _ => true, fun j _ h2 => absurd h2 (by simp), by simp⟩
  | d :: ds, e :: es, _, _, _, _, b, .cons a1 t1, .cons a2 t2, .cons w1 y1, .cons w2 y2, q => by
    unfold eqL at q
    cases q1 : f d e with
    | none => rw [q1] at q; cases q
    | some c =>
      cases q2 : eqL f ds es with
      | none => rw [q1, q2] at q; cases q
      | some c2 =>
        rw [q1, q2] at q
        cases q
        obtain ⟨g, g1, g2⟩ := eqL_at (R := R) hf ds es _ _ _ _ c2 t1 t2 y1 y2 q2
        refine ⟨fun j => match j with | 0 => c | j + 1 => g j, fun j h1 h2 => ?_, ?_⟩
        · cases j with
          | zero => exact hf d e _ _ _ _ c a1 a2 w1 w2 q1
          | succ j => exact g1 j (by simpa using h1) (by simpa using h2)
        · rw [List.length_cons, List.length_cons, Nat.succ_min_succ, range_all]
          dsimp only
          rw [g2]
theorem eqD_at (I : Inv X pins σ H s) (hr : HRel X.K cl ρ H h) : ∀ (n : Nat) (d e : D) (x y : V) (v u : Value) (b : Bool) (A : Around), A.units + n < cLine → Rep X.K ρ H d x → Rep X.K ρ H e y → RelV x v → RelV y u → eqD h n d e = some b → SeqAt.EqAt A s v u b
  | 0, _, _, _, _, _, _, _, _, _, _, _, _, _, q => by cases q
  | n + 1, d, e, x, y, v, u, b, A, hu, r1, r2, w1, w2, q => by
    have hu0 : A.units < cLine := by omega
    have ih := fun d e x y v u b => eqD_at I hr n d e x y v u b A.in1 (by show A.units + 1 + n < cLine; omega)
    have refs : ∀ (c : Addr) (its : Array Value) (a : Nat) (p : Addr) (q' : (if (h[a]?.map O.plain) = some true then some false else none) = some b), ρ[a]? = some p → b = false ∧ ((∃ us, H p = some (.lst us)) ∨ ∃ us, H p = some (.dK us)) := fun c its a p q' ea => by
      obtain ⟨o, eo, ox⟩ := hr.get ea
      rw [eo] at q'
      cases o with
      | lst us => obtain ⟨us, e3, _⟩ := ox; simp [O.plain] at q'; exact ⟨q', .inl ⟨us, e3⟩⟩
      | dic us => obtain ⟨us, e3, _⟩ := ox; simp [O.plain] at q'; exact ⟨q', .inr ⟨us, e3⟩⟩
      | ins _ _ => exact absurd q' (by simp [O.plain])
    cases r1 with
    | non =>
      cases w1
      cases r2 with
      | non => cases w2; cases q; exact SeqAt.EqAt.same _
      | bl j => cases w2; cases q; exact eqAt_V (x := .bl j) (y := .non) rfl rfl rfl rfl
      | int j => obtain ⟨t', rfl⟩ := w2; cases q; exact eqAt_V (x := .int j) (y := .non) rfl ⟨_, rfl⟩ rfl rfl
      | str j => obtain ⟨t', rfl⟩ := w2; cases q; exact eqAt_V (x := .str j) (y := .non) rfl ⟨_, rfl⟩ rfl rfl
      | tup s2 t2 => cases w2; cases q; obtain ⟨its, _, p, _⟩ := I.tuple s2; exact .none_tuple p hu0
      | lck s2 t2 => cases q
      | @ref a p ea =>
        cases w2
        obtain ⟨rfl, hp⟩ := refs 0 #[] a p q ea
        rcases hp with ⟨us, e3⟩ | ⟨us, e3⟩
        · obtain ⟨its, _, pl, _⟩ := I.list (SqL.of e3); exact .none_list pl.isList hu0
        · exact at_none_dict (isD_of I e3) hu0
    | bl i =>
      cases w1
      cases r2 with
      | non => cases w2; cases q; exact eqAt_V (x := .non) (y := .bl i) rfl rfl rfl rfl
      | bl j => cases w2; cases q; exact eqAt_V (x := .bl j) (y := .bl i) rfl rfl rfl rfl
      | int j => obtain ⟨t', rfl⟩ := w2; cases q; exact eqAt_V (x := .int j) (y := .bl i) rfl ⟨_, rfl⟩ rfl rfl
      | str j => obtain ⟨t', rfl⟩ := w2; cases q; exact eqAt_V (x := .str j) (y := .bl i) rfl ⟨_, rfl⟩ rfl rfl
      | tup s2 t2 => cases w2; cases q; obtain ⟨its, _, p, _⟩ := I.tuple s2; exact .bool_tuple _ p hu0
      | lck s2 t2 => cases q
      | @ref a p ea =>
        cases w2
        obtain ⟨rfl, hp⟩ := refs 0 #[] a p q ea
        rcases hp with ⟨us, e3⟩ | ⟨us, e3⟩
        · obtain ⟨its, _, pl, _⟩ := I.list (SqL.of e3); exact .bool_list _ pl.isList hu0
        · exact at_bool_dict _ (isD_of I e3) hu0
    | int i =>
      obtain ⟨t, rfl⟩ := w1
      cases r2 with
      | non => cases w2; cases q; exact eqAt_V (x := .non) (y := .int i) ⟨_, rfl⟩ rfl rfl rfl
      | bl j => cases w2; cases q; exact eqAt_V (x := .bl j) (y := .int i) ⟨_, rfl⟩ rfl rfl rfl
      | int j => obtain ⟨t', rfl⟩ := w2; cases q; exact eqAt_V (x := .int j) (y := .int i) ⟨_, rfl⟩ ⟨_, rfl⟩ rfl rfl
      | str j => obtain ⟨t', rfl⟩ := w2; cases q; exact eqAt_V (x := .str j) (y := .int i) ⟨_, rfl⟩ ⟨_, rfl⟩ rfl rfl
      | tup s2 t2 => cases w2; cases q; obtain ⟨its, _, p, _⟩ := I.tuple s2; exact .int_tuple _ _ p hu0
      | lck s2 t2 => cases q
      | @ref a p ea =>
        cases w2
        obtain ⟨rfl, hp⟩ := refs 0 #[] a p q ea
        rcases hp with ⟨us, e3⟩ | ⟨us, e3⟩
        · obtain ⟨its, _, pl, _⟩ := I.list (SqL.of e3); exact .int_list _ _ pl.isList hu0
        · exact at_int_dict _ _ (isD_of I e3) hu0
    | str i zi =>
      obtain ⟨t, rfl⟩ := w1
      cases r2 with
      | non => cases w2; cases q; exact eqAt_V (x := .non) (y := .str i) ⟨_, rfl⟩ rfl rfl rfl
      | bl j => cases w2; cases q; exact eqAt_V (x := .bl j) (y := .str i) ⟨_, rfl⟩ rfl rfl rfl
      | int j => obtain ⟨t', rfl⟩ := w2; cases q; exact eqAt_V (x := .int j) (y := .str i) ⟨_, rfl⟩ ⟨_, rfl⟩ rfl rfl
      | str j => obtain ⟨t', rfl⟩ := w2; cases q; exact eqAt_V (x := .str j) (y := .str i) ⟨_, rfl⟩ ⟨_, rfl⟩ rfl rfl
      | tup s2 t2 => cases w2; cases q; obtain ⟨its, _, p, _⟩ := I.tuple s2; exact .str_tuple _ _ p hu0
      | lck s2 t2 => cases q
      | @ref a p ea =>
        cases w2
        obtain ⟨rfl, hp⟩ := refs 0 #[] a p q ea
        rcases hp with ⟨us, e3⟩ | ⟨us, e3⟩
        · obtain ⟨its, _, pl, _⟩ := I.list (SqL.of e3); exact .str_list _ _ pl.isList hu0
        · exact at_str_dict _ _ (isD_of I e3) hu0
    | lck s1 t1 => cases r2 <;> cases q
    | @tup p1 ds vs s1 t1 =>
      cases w1
      obtain ⟨its, v1, p, _⟩ := I.tuple s1
      cases r2 with
      | non => cases w2; cases q; exact .tuple_none p hu0
      | bl j => cases w2; cases q; exact .tuple_bool _ p hu0
      | int j => obtain ⟨t', rfl⟩ := w2; cases q; exact .tuple_int _ _ p hu0
      | str j => obtain ⟨t', rfl⟩ := w2; cases q; exact .tuple_str _ _ p hu0
      | @tup p2 es us s2 t2 =>
        cases w2
        by_cases hp : p1 = p2
        · subst hp
          have := eqD_same I hr (n + 1) _ _ _ b (.tup s1 t1) (.tup s2 t2) q
          subst this
          exact SeqAt.EqAt.same _
        · obtain ⟨its2, v2, p', _⟩ := I.tuple s2
          have q' : (eqL (eqD h n) ds es).map (fun b => b && ds.length == es.length) = some b := q
          cases q2 : eqL (eqD h n) ds es with
          | none => rw [q2] at q'; cases q'
          | some c =>
            rw [q2] at q'
            cases q'
            obtain ⟨g, g1, g2⟩ := eqL_at (R := fun _ _ => True) ih ds es vs us its its2 c t1 t2 v1 v2 q2
            have r := SeqAt.RcAt.tuples (e := g) p p' hu0 (fun j h1 h2 => by simpa using g1 j (by simpa using h1) (by simpa using h2))
            have e1 : ds.length = its.length := t1.length.trans v1.length
            have e2 : es.length = its2.length := t2.length.trans v2.length
            have r' : SeqAt.RcAt A s (.ref p1) (.ref p2) (c && ds.length == es.length) := by
              rw [e1, e2, ← g2]
              simpa using r
            exact .of_refs hp r'
      | lck s2 t2 => cases q
      | @ref a p2 ea =>
        cases w2
        obtain ⟨rfl, hp⟩ := refs 0 #[] a p2 q ea
        rcases hp with ⟨us, e3⟩ | ⟨us, e3⟩
        · obtain ⟨its, _, pl, _⟩ := I.list (SqL.of e3); exact .tuple_list p pl.isList hu0
        · exact at_tuple_dict (isD_of I e3) p hu0
    | @ref a p1 ea =>
      cases w1
      obtain ⟨oa, eoa, oxa⟩ := hr.get ea
      have left : ∀ {T : Prop}, ((if (h[a]?.map O.plain) = some true then some false else none) = some b) → (b = false → (∃ its, s.heap.IsList p1 its) ∨ IsD s.heap p1 → T) → T := fun {T} q' k => by
        obtain ⟨rfl, hp⟩ := refs 0 #[] a p1 q' ea
        refine k rfl ?_
        rcases hp with ⟨us, e3⟩ | ⟨us, e3⟩
        · obtain ⟨its, _, pl, _⟩ := I.list (SqL.of e3); exact .inl ⟨_, pl.isList⟩
        · exact .inr (isD_of I e3)
      cases r2 with
      | non => cases w2; exact left q fun e k => by subst e; exact k.elim (fun ⟨its, l⟩ => .list_none l hu0) fun d => at_dict_none d hu0
      | bl j => cases w2; exact left q fun e k => by subst e; exact k.elim (fun ⟨its, l⟩ => .list_bool _ l hu0) fun d => at_dict_bool _ d hu0
      | int j => obtain ⟨t', rfl⟩ := w2; exact left q fun e k => by subst e; exact k.elim (fun ⟨its, l⟩ => .list_int _ _ l hu0) fun d => at_dict_int _ _ d hu0
      | str j => obtain ⟨t', rfl⟩ := w2; exact left q fun e k => by subst e; exact k.elim (fun ⟨its, l⟩ => .list_str _ _ l hu0) fun d => at_dict_str _ _ d hu0
      | @tup p2 es us s2 t2 =>
        cases w2
        obtain ⟨its2, v2, p', _⟩ := I.tuple s2
        exact left q fun e k => by subst e; exact k.elim (fun ⟨its, l⟩ => .list_tuple l p' hu0) fun d => at_dict_tuple d p' hu0
      | lck s2 t2 => cases q
      | @ref b' p2 eb =>
        cases w2
        obtain ⟨ob, eob, oxb⟩ := hr.get eb
        by_cases hab : a = b'
        · subst hab
          rw [ea] at eb; cases eb
          have := eqD_same I hr (n + 1) _ _ _ b (.ref ea) (.ref ea) q
          subst this
          exact SeqAt.EqAt.same _
        · have hp : p1 ≠ p2 := fun z => hab (hr.inj a b' p1 ea (z ▸ eb))
          have q0 : (if a = b' then (if (h[a]?.map O.plain) = some true then some true else none) else eqRef (eqD h n) h a b') = some b := q
          rw [if_neg hab] at q0
          clear q
          have q := q0
          simp only [eqRef, eoa, eob] at q
          cases oa with
          | lst ds =>
            obtain ⟨vs, e3, t1⟩ := oxa
            obtain ⟨its, v1, pl, _⟩ := I.list (SqL.of e3)
            cases ob with
            | lst es =>
              obtain ⟨us, e4, t2⟩ := oxb
              obtain ⟨its2, v2, pl2, _⟩ := I.list (SqL.of e4)
              simp only [O.seq?] at q
              have e1 : ds.length = its.length := t1.length.trans v1.length
              have e2 : es.length = its2.length := t2.length.trans v2.length
              split at q
              · rename_i hl
                obtain ⟨g, g1, g2⟩ := eqL_at (R := fun _ _ => True) ih ds es vs us its its2 b t1 t2 v1 v2 q
                have r := SeqAt.RcAt.lists (e := g) pl.isList pl2.isList (by simp; omega) hu0 (fun j h1 h2 => by simpa using g1 j (by simpa using h1) (by simpa using h2))
                have em : min its.length its2.length = its.length := by omega
                rw [em] at g2
                have r' : SeqAt.RcAt A s (.ref p1) (.ref p2) b := by
                  rw [← g2]
                  simpa using r
                exact .of_refs hp r'
              · rename_i hl
                cases q
                exact .of_refs hp (SeqAt.RcAt.lists_lengths pl.isList pl2.isList (by simp; omega) hu0)
            | dic es =>
              obtain ⟨us, e4, _⟩ := oxb
              simp [O.seq?, O.plain] at q
              subst q
              exact at_list_dict (isD_of I e4) pl.isList hu0
            | ins _ _ => simp [O.seq?, O.plain] at q
          | dic ds =>
            obtain ⟨vs, e3, t1⟩ := oxa
            cases ob with
            | lst es =>
              obtain ⟨us, e4, t2⟩ := oxb
              obtain ⟨its2, v2, pl2, _⟩ := I.list (SqL.of e4)
              simp [O.seq?, O.plain] at q
              subst q
              exact at_dict_list (isD_of I e3) pl2.isList hu0
            | dic es => simp [O.seq?] at q
            | ins _ _ => simp [O.seq?] at q
          | ins _ _ =>
            cases ob with
            | lst es => simp [O.seq?, O.plain] at q
            | dic es => simp [O.seq?] at q
            | ins _ _ => simp [O.seq?] at q
end
section
variable {X : Cx} {cl : Nat → Option Addr} {pins : List (Addr × Obj)} {σ : L2.St} {ρ : Rho} {H : Hp} {h : Hh} {s : Shared}
theorem rcD_at (I : Inv X pins σ H s) (hr : HRel X.K cl ρ H h) (d e : D) (x y : V) (v u : Value) (b : Bool) (A : Around) (hu : A.units + 64 < cLine) (r1 : Rep X.K ρ H d x) (r2 : Rep X.K ρ H e y) (w1 : RelV x v) (w2 : RelV y u) (q : eqT h d e = some b) : SeqAt.RcAt A s v u (b) := by
  have hu0 : A.units < cLine := by omega
  have ih := fun d e x y v u b => eqD_at I hr 59 d e x y v u b A.in1 (by show A.units + 1 + 59 < cLine; omega)
  have refs : ∀ (a : Nat) (p : Addr) (q' : (if (h[a]?.map O.plain) = some true then some false else none) = some b), ρ[a]? = some p → b = false ∧ ((∃ us, H p = some (.lst us)) ∨ ((∃ us, H p = some (.dK us)) ∧ isDic h (.ref a) = true)) := fun a p q' ea => by
    obtain ⟨o, eo, ox⟩ := hr.get ea
    rw [eo] at q'
    cases o with
    | lst us => obtain ⟨us, e3, _⟩ := ox; simp [O.plain] at q'; exact ⟨q', .inl ⟨us, e3⟩⟩
    | dic us => obtain ⟨us, e3, _⟩ := ox; simp [O.plain] at q'; exact ⟨q', .inr ⟨⟨us, e3⟩, by simp [isDic, eo]⟩⟩
    | ins _ _ => exact absurd q' (by simp [O.plain])
  cases r1 with
  | non =>
    cases w1
    cases r2 with
    | non => cases w2; cases q; exact .none_none
    | bl j => cases w2; cases q; exact .none_bool _
    | int j => obtain ⟨t', rfl⟩ := w2; cases q; exact .none_int _ _
    | str j zj => obtain ⟨t', rfl⟩ := w2; cases q; exact .none_str _ _
    | tup s2 t2 => cases w2; cases q; obtain ⟨its, _, p, _⟩ := I.tuple s2; exact .none_tuple p hu0
    | lck s2 t2 => cases q
    | @ref a p ea =>
      cases w2
      obtain ⟨rfl, hp⟩ := refs a p q ea
      rcases hp with ⟨us, e3⟩ | ⟨⟨us, e3⟩, hz⟩
      · obtain ⟨its, _, pl, _⟩ := I.list (SqL.of e3); exact .none_list pl.isList hu0
      · exact rc_none_dict (isD_of I e3) hu0
  | bl i =>
    cases w1
    cases r2 with
    | non => cases w2; cases q; exact .bool_none _
    | bl j => cases w2; cases q; exact .bool_bool _ _
    | int j => obtain ⟨t', rfl⟩ := w2; cases q; exact .bool_int _ _ _
    | str j zj => obtain ⟨t', rfl⟩ := w2; cases q; exact .bool_str _ _ _
    | tup s2 t2 => cases w2; cases q; obtain ⟨its, _, p, _⟩ := I.tuple s2; exact .bool_tuple _ p hu0
    | lck s2 t2 => cases q
    | @ref a p ea =>
      cases w2
      obtain ⟨rfl, hp⟩ := refs a p q ea
      rcases hp with ⟨us, e3⟩ | ⟨⟨us, e3⟩, hz⟩
      · obtain ⟨its, _, pl, _⟩ := I.list (SqL.of e3); exact .bool_list _ pl.isList hu0
      · exact rc_bool_dict _ (isD_of I e3) hu0
  | int i =>
    obtain ⟨t, rfl⟩ := w1
    cases r2 with
    | non => cases w2; cases q; exact .int_none _ _
    | bl j => cases w2; cases q; exact .int_bool _ _ _
    | int j => obtain ⟨t', rfl⟩ := w2; cases q; exact .int_int _ _ _ _
    | str j zj => obtain ⟨t', rfl⟩ := w2; cases q; exact .int_str _ _ _ _
    | tup s2 t2 => cases w2; cases q; obtain ⟨its, _, p, _⟩ := I.tuple s2; exact .int_tuple _ _ p hu0
    | lck s2 t2 => cases q
    | @ref a p ea =>
      cases w2
      obtain ⟨rfl, hp⟩ := refs a p q ea
      rcases hp with ⟨us, e3⟩ | ⟨⟨us, e3⟩, hz⟩
      · obtain ⟨its, _, pl, _⟩ := I.list (SqL.of e3); exact .int_list _ _ pl.isList hu0
      · exact rc_int_dict _ _ (isD_of I e3) hu0
  | str i zi =>
    obtain ⟨t, rfl⟩ := w1
    cases r2 with
    | non => cases w2; cases q; exact .str_none _ _
    | bl j => cases w2; cases q; exact .str_bool _ _ _
    | int j => obtain ⟨t', rfl⟩ := w2; cases q; exact .str_int _ _ _ _
    | str j zj => obtain ⟨t', rfl⟩ := w2; cases q; exact .str_str _ _ _ _
    | tup s2 t2 => cases w2; cases q; obtain ⟨its, _, p, _⟩ := I.tuple s2; exact .str_tuple _ _ p hu0
    | lck s2 t2 => cases q
    | @ref a p ea =>
      cases w2
      obtain ⟨rfl, hp⟩ := refs a p q ea
      rcases hp with ⟨us, e3⟩ | ⟨⟨us, e3⟩, hz⟩
      · obtain ⟨its, _, pl, _⟩ := I.list (SqL.of e3); exact .str_list _ _ pl.isList hu0
      · exact rc_str_dict _ _ (isD_of I e3) hu0
  | lck s1 t1 => cases r2 <;> cases q
  | @tup p1 ds vs s1 t1 =>
    cases w1
    obtain ⟨its, v1, p, _⟩ := I.tuple s1
    cases r2 with
    | non => cases w2; cases q; exact .tuple_none p hu0
    | bl j => cases w2; cases q; exact .tuple_bool _ p hu0
    | int j => obtain ⟨t', rfl⟩ := w2; cases q; exact .tuple_int _ _ p hu0
    | str j zj => obtain ⟨t', rfl⟩ := w2; cases q; exact .tuple_str _ _ p hu0
    | @tup p2 es us s2 t2 =>
      cases w2
      obtain ⟨its2, v2, p', _⟩ := I.tuple s2
      have q' : (eqL (eqD h 59) ds es).map (fun b => b && ds.length == es.length) = some b := q
      cases q2 : eqL (eqD h 59) ds es with
      | none => rw [q2] at q'; cases q'
      | some c =>
        rw [q2] at q'
        cases q'
        obtain ⟨g, g1, g2⟩ := eqL_at (R := fun _ _ => True) ih ds es vs us its its2 c t1 t2 v1 v2 q2
        have r := SeqAt.RcAt.tuples (e := g) p p' hu0 (fun j h1 h2 => by simpa using g1 j (by simpa using h1) (by simpa using h2))
        have e1 : ds.length = its.length := t1.length.trans v1.length
        have e2 : es.length = its2.length := t2.length.trans v2.length
        rw [e1, e2, ← g2]
        simpa using r
    | lck s2 t2 => cases q
    | @ref a p2 ea =>
      cases w2
      obtain ⟨rfl, hp⟩ := refs a p2 q ea
      rcases hp with ⟨us, e3⟩ | ⟨⟨us, e3⟩, hz⟩
      · obtain ⟨its, _, pl, _⟩ := I.list (SqL.of e3); exact .tuple_list p pl.isList hu0
      · exact rc_tuple_dict (isD_of I e3) p hu0
  | @ref a p1 ea =>
    cases w1
    obtain ⟨oa, eoa, oxa⟩ := hr.get ea
    have left : ∀ {T : Prop}, ((if (h[a]?.map O.plain) = some true then some false else none) = some b) → (b = false → (∃ its, s.heap.IsList p1 its) ∨ (IsD s.heap p1 ∧ isDic h (.ref a) = true) → T) → T := fun {T} q' k => by
      obtain ⟨rfl, hp⟩ := refs a p1 q' ea
      refine k rfl ?_
      rcases hp with ⟨us, e3⟩ | ⟨⟨us, e3⟩, hz⟩
      · obtain ⟨its, _, pl, _⟩ := I.list (SqL.of e3); exact .inl ⟨_, pl.isList⟩
      · exact .inr ⟨isD_of I e3, hz⟩
    cases r2 with
    | non => cases w2; exact left q fun e k => by subst e; exact k.elim (fun ⟨its, l⟩ => .list_none l hu0) (fun d => rc_dict_none d.1 hu0)
    | bl j => cases w2; exact left q fun e k => by subst e; exact k.elim (fun ⟨its, l⟩ => .list_bool _ l hu0) (fun d => rc_dict_bool _ d.1 hu0)
    | int j => obtain ⟨t', rfl⟩ := w2; exact left q fun e k => by subst e; exact k.elim (fun ⟨its, l⟩ => .list_int _ _ l hu0) (fun d => rc_dict_int _ _ d.1 hu0)
    | str j zj => obtain ⟨t', rfl⟩ := w2; exact left q fun e k => by subst e; exact k.elim (fun ⟨its, l⟩ => .list_str _ _ l hu0) (fun d => rc_dict_str _ _ d.1 hu0)
    | @tup p2 es us s2 t2 =>
      cases w2
      obtain ⟨its2, v2, p', _⟩ := I.tuple s2
      exact left q fun e k => by subst e; exact k.elim (fun ⟨its, l⟩ => .list_tuple l p' hu0) (fun d => rc_dict_tuple d.1 p' hu0)
    | lck s2 t2 => cases q
    | @ref b' p2 eb =>
      cases w2
      obtain ⟨ob, eob, oxb⟩ := hr.get eb
      by_cases hab : a = b'
      · subst hab
        rw [ea] at eb; cases eb
        have q0 : (if a = a then (if isDic h (.ref a) then none else eqD h deep (.ref a) (.ref a)) else eqD h deep (.ref a) (.ref a)) = some b := q
        rw [if_pos rfl] at q0
        clear q left
        have q := q0
        cases oa with
        | lst ds =>
          obtain ⟨vs, e3, t1⟩ := oxa
          obtain ⟨its, v1, pl, _⟩ := I.list (SqL.of e3)
          have q2 : b = true := eqD_same I hr 60 _ _ _ b (.ref ea) (.ref ea) (by
            split at q
            · cases q
            · exact q)
          subst q2
          have r := SeqAt.RcAt.lists (e := fun _ => true) pl.isList pl.isList rfl hu0 (fun j h1 h2 => SeqAt.EqAt.same _)
          rw [show (List.range its.toArray.size).all (fun _ => true) = true by simp] at r
          exact r
        | dic ds =>
          have z : isDic h (.ref a) = true := by simp [isDic, eoa]
          rw [if_pos z] at q; cases q
        | ins _ _ =>
          have z : ¬ isDic h (.ref a) = true := by simp [isDic, eoa]
          rw [if_neg z] at q
          have q1 : (if a = a then (if (h[a]?.map O.plain) = some true then some true else none) else eqRef (eqD h 59) h a a) = some b := q
          rw [if_pos rfl, eoa] at q1
          exact absurd q1 (by simp [O.plain])
      · have q0 : (if a = b' then (if isDic h (.ref a) then none else eqD h deep (.ref a) (.ref b')) else (if a = b' then (if (h[a]?.map O.plain) = some true then some true else none) else eqRef (eqD h 59) h a b')) = some b := q
        rw [if_neg hab, if_neg hab] at q0
        clear q left
        have q := q0
        simp only [eqRef, eoa, eob] at q
        cases oa with
        | lst ds =>
          obtain ⟨vs, e3, t1⟩ := oxa
          obtain ⟨its, v1, pl, _⟩ := I.list (SqL.of e3)
          cases ob with
          | lst es =>
            obtain ⟨us, e4, t2⟩ := oxb
            obtain ⟨its2, v2, pl2, _⟩ := I.list (SqL.of e4)
            simp only [O.seq?] at q
            have e1 : ds.length = its.length := t1.length.trans v1.length
            have e2 : es.length = its2.length := t2.length.trans v2.length
            split at q
            · rename_i hl
              obtain ⟨g, g1, g2⟩ := eqL_at (R := fun _ _ => True) ih ds es vs us its its2 b t1 t2 v1 v2 q
              have r := SeqAt.RcAt.lists (e := g) pl.isList pl2.isList (by simp; omega) hu0 (fun j h1 h2 => by simpa using g1 j (by simpa using h1) (by simpa using h2))
              have em : min its.length its2.length = its.length := by omega
              rw [em] at g2
              rw [← g2]
              simpa using r
            · rename_i hl
              cases q
              exact SeqAt.RcAt.lists_lengths pl.isList pl2.isList (by simp; omega) hu0
          | dic es =>
            obtain ⟨us, e4, _⟩ := oxb
            simp [O.seq?, O.plain] at q
            subst q
            exact rc_list_dict (isD_of I e4) pl.isList hu0
          | ins _ _ => simp [O.seq?, O.plain] at q
        | dic ds =>
          obtain ⟨vs, e3, t1⟩ := oxa
          cases ob with
          | lst es =>
            obtain ⟨us, e4, t2⟩ := oxb
            obtain ⟨its2, v2, pl2, _⟩ := I.list (SqL.of e4)
            simp [O.seq?, O.plain] at q
            subst q
            exact rc_dict_list (isD_of I e3) pl2.isList hu0
          | dic es => simp [O.seq?] at q
          | ins _ _ => simp [O.seq?] at q
        | ins _ _ =>
          cases ob with
          | lst es => simp [O.seq?, O.plain] at q
          | dic es => simp [O.seq?] at q
          | ins _ _ => simp [O.seq?] at q
theorem rnD_at (I : Inv X pins σ H s) (hr : HRel X.K cl ρ H h) (d e : D) (x y : V) (v u : Value) (b : Bool) (A : Around) (hu : A.units + 64 < cLine) (hd1 : isDic h d = false) (hd2 : isDic h e = false) (r1 : Rep X.K ρ H d x) (r2 : Rep X.K ρ H e y) (w1 : RelV x v) (w2 : RelV y u) (q : eqT h d e = some b) : SeqAt.RcNeAt A s v u (!b) := by
  have hu0 : A.units < cLine := by omega
  have ih := fun d e x y v u b => eqD_at I hr 59 d e x y v u b A.in1 (by show A.units + 1 + 59 < cLine; omega)
  have refs : ∀ (a : Nat) (p : Addr) (q' : (if (h[a]?.map O.plain) = some true then some false else none) = some b), ρ[a]? = some p → b = false ∧ ((∃ us, H p = some (.lst us)) ∨ ((∃ us, H p = some (.dK us)) ∧ isDic h (.ref a) = true)) := fun a p q' ea => by
    obtain ⟨o, eo, ox⟩ := hr.get ea
    rw [eo] at q'
    cases o with
    | lst us => obtain ⟨us, e3, _⟩ := ox; simp [O.plain] at q'; exact ⟨q', .inl ⟨us, e3⟩⟩
    | dic us => obtain ⟨us, e3, _⟩ := ox; simp [O.plain] at q'; exact ⟨q', .inr ⟨⟨us, e3⟩, by simp [isDic, eo]⟩⟩
    | ins _ _ => exact absurd q' (by simp [O.plain])
  cases r1 with
  | non =>
    cases w1
    cases r2 with
    | non => cases w2; cases q; exact .none_none
    | bl j => cases w2; cases q; exact .none_bool _
    | int j => obtain ⟨t', rfl⟩ := w2; cases q; exact .none_int _ _
    | str j zj => obtain ⟨t', rfl⟩ := w2; cases q; exact .none_str _ _
    | tup s2 t2 => cases w2; cases q; obtain ⟨its, _, p, _⟩ := I.tuple s2; exact .none_tuple p hu0
    | lck s2 t2 => cases q
    | @ref a p ea =>
      cases w2
      obtain ⟨rfl, hp⟩ := refs a p q ea
      rcases hp with ⟨us, e3⟩ | ⟨⟨us, e3⟩, hz⟩
      · obtain ⟨its, _, pl, _⟩ := I.list (SqL.of e3); exact .none_list pl.isList hu0
      · rw [hz] at hd2; cases hd2
  | bl i =>
    cases w1
    cases r2 with
    | non => cases w2; cases q; exact .bool_none _
    | bl j => cases w2; cases q; exact .bool_bool _ _
    | int j => obtain ⟨t', rfl⟩ := w2; cases q; exact .bool_int _ _ _
    | str j zj => obtain ⟨t', rfl⟩ := w2; cases q; exact .bool_str _ _ _
    | tup s2 t2 => cases w2; cases q; obtain ⟨its, _, p, _⟩ := I.tuple s2; exact .bool_tuple _ p hu0
    | lck s2 t2 => cases q
    | @ref a p ea =>
      cases w2
      obtain ⟨rfl, hp⟩ := refs a p q ea
      rcases hp with ⟨us, e3⟩ | ⟨⟨us, e3⟩, hz⟩
      · obtain ⟨its, _, pl, _⟩ := I.list (SqL.of e3); exact .bool_list _ pl.isList hu0
      · rw [hz] at hd2; cases hd2
  | int i =>
    obtain ⟨t, rfl⟩ := w1
    cases r2 with
    | non => cases w2; cases q; exact .int_none _ _
    | bl j => cases w2; cases q; exact .int_bool _ _ _
    | int j => obtain ⟨t', rfl⟩ := w2; cases q; exact .int_int _ _ _ _
    | str j zj => obtain ⟨t', rfl⟩ := w2; cases q; exact .int_str _ _ _ _
    | tup s2 t2 => cases w2; cases q; obtain ⟨its, _, p, _⟩ := I.tuple s2; exact .int_tuple _ _ p hu0
    | lck s2 t2 => cases q
    | @ref a p ea =>
      cases w2
      obtain ⟨rfl, hp⟩ := refs a p q ea
      rcases hp with ⟨us, e3⟩ | ⟨⟨us, e3⟩, hz⟩
      · obtain ⟨its, _, pl, _⟩ := I.list (SqL.of e3); exact .int_list _ _ pl.isList hu0
      · rw [hz] at hd2; cases hd2
  | str i zi =>
    obtain ⟨t, rfl⟩ := w1
    cases r2 with
    | non => cases w2; cases q; exact .str_none _ _
    | bl j => cases w2; cases q; exact .str_bool _ _ _
    | int j => obtain ⟨t', rfl⟩ := w2; cases q; exact .str_int _ _ _ _
    | str j zj => obtain ⟨t', rfl⟩ := w2; cases q; exact .str_str _ _ _ _
    | tup s2 t2 => cases w2; cases q; obtain ⟨its, _, p, _⟩ := I.tuple s2; exact .str_tuple _ _ p hu0
    | lck s2 t2 => cases q
    | @ref a p ea =>
      cases w2
      obtain ⟨rfl, hp⟩ := refs a p q ea
      rcases hp with ⟨us, e3⟩ | ⟨⟨us, e3⟩, hz⟩
      · obtain ⟨its, _, pl, _⟩ := I.list (SqL.of e3); exact .str_list _ _ pl.isList hu0
      · rw [hz] at hd2; cases hd2
  | lck s1 t1 => cases r2 <;> cases q
  | @tup p1 ds vs s1 t1 =>
    cases w1
    obtain ⟨its, v1, p, _⟩ := I.tuple s1
    cases r2 with
    | non => cases w2; cases q; exact .tuple_none p hu0
    | bl j => cases w2; cases q; exact .tuple_bool _ p hu0
    | int j => obtain ⟨t', rfl⟩ := w2; cases q; exact .tuple_int _ _ p hu0
    | str j zj => obtain ⟨t', rfl⟩ := w2; cases q; exact .tuple_str _ _ p hu0
    | @tup p2 es us s2 t2 =>
      cases w2
      obtain ⟨its2, v2, p', _⟩ := I.tuple s2
      have q' : (eqL (eqD h 59) ds es).map (fun b => b && ds.length == es.length) = some b := q
      cases q2 : eqL (eqD h 59) ds es with
      | none => rw [q2] at q'; cases q'
      | some c =>
        rw [q2] at q'
        cases q'
        obtain ⟨g, g1, g2⟩ := eqL_at (R := fun _ _ => True) ih ds es vs us its its2 c t1 t2 v1 v2 q2
        have r := SeqAt.RcNeAt.tuples (e := g) p p' hu0 (fun j h1 h2 => by simpa using g1 j (by simpa using h1) (by simpa using h2))
        have e1 : ds.length = its.length := t1.length.trans v1.length
        have e2 : es.length = its2.length := t2.length.trans v2.length
        rw [e1, e2, ← g2]
        simpa using r
    | lck s2 t2 => cases q
    | @ref a p2 ea =>
      cases w2
      obtain ⟨rfl, hp⟩ := refs a p2 q ea
      rcases hp with ⟨us, e3⟩ | ⟨⟨us, e3⟩, hz⟩
      · obtain ⟨its, _, pl, _⟩ := I.list (SqL.of e3); exact .tuple_list p pl.isList hu0
      · rw [hz] at hd2; cases hd2
  | @ref a p1 ea =>
    cases w1
    obtain ⟨oa, eoa, oxa⟩ := hr.get ea
    have left : ∀ {T : Prop}, ((if (h[a]?.map O.plain) = some true then some false else none) = some b) → (b = false → (∃ its, s.heap.IsList p1 its) ∨ (IsD s.heap p1 ∧ isDic h (.ref a) = true) → T) → T := fun {T} q' k => by
      obtain ⟨rfl, hp⟩ := refs a p1 q' ea
      refine k rfl ?_
      rcases hp with ⟨us, e3⟩ | ⟨⟨us, e3⟩, hz⟩
      · obtain ⟨its, _, pl, _⟩ := I.list (SqL.of e3); exact .inl ⟨_, pl.isList⟩
      · exact .inr ⟨isD_of I e3, hz⟩
    cases r2 with
    | non => cases w2; exact left q fun e k => by subst e; exact k.elim (fun ⟨its, l⟩ => .list_none l hu0) (fun d => by rw [d.2] at hd1; cases hd1)
    | bl j => cases w2; exact left q fun e k => by subst e; exact k.elim (fun ⟨its, l⟩ => .list_bool _ l hu0) (fun d => by rw [d.2] at hd1; cases hd1)
    | int j => obtain ⟨t', rfl⟩ := w2; exact left q fun e k => by subst e; exact k.elim (fun ⟨its, l⟩ => .list_int _ _ l hu0) (fun d => by rw [d.2] at hd1; cases hd1)
    | str j zj => obtain ⟨t', rfl⟩ := w2; exact left q fun e k => by subst e; exact k.elim (fun ⟨its, l⟩ => .list_str _ _ l hu0) (fun d => by rw [d.2] at hd1; cases hd1)
    | @tup p2 es us s2 t2 =>
      cases w2
      obtain ⟨its2, v2, p', _⟩ := I.tuple s2
      exact left q fun e k => by subst e; exact k.elim (fun ⟨its, l⟩ => .list_tuple l p' hu0) (fun d => by rw [d.2] at hd1; cases hd1)
    | lck s2 t2 => cases q
    | @ref b' p2 eb =>
      cases w2
      obtain ⟨ob, eob, oxb⟩ := hr.get eb
      by_cases hab : a = b'
      · subst hab
        rw [ea] at eb; cases eb
        have q0 : (if a = a then (if isDic h (.ref a) then none else eqD h deep (.ref a) (.ref a)) else eqD h deep (.ref a) (.ref a)) = some b := q
        rw [if_pos rfl] at q0
        clear q left
        have q := q0
        cases oa with
        | lst ds =>
          obtain ⟨vs, e3, t1⟩ := oxa
          obtain ⟨its, v1, pl, _⟩ := I.list (SqL.of e3)
          have q2 : b = true := eqD_same I hr 60 _ _ _ b (.ref ea) (.ref ea) (by
            split at q
            · cases q
            · exact q)
          subst q2
          have r := SeqAt.RcNeAt.lists (e := fun _ => true) pl.isList pl.isList rfl hu0 (fun j h1 h2 => SeqAt.EqAt.same _)
          rw [show (List.range its.toArray.size).all (fun _ => true) = true by simp] at r
          exact r
        | dic ds =>
          have z : isDic h (.ref a) = true := by simp [isDic, eoa]
          rw [if_pos z] at q; cases q
        | ins _ _ =>
          have z : ¬ isDic h (.ref a) = true := by simp [isDic, eoa]
          rw [if_neg z] at q
          have q1 : (if a = a then (if (h[a]?.map O.plain) = some true then some true else none) else eqRef (eqD h 59) h a a) = some b := q
          rw [if_pos rfl, eoa] at q1
          exact absurd q1 (by simp [O.plain])
      · have q0 : (if a = b' then (if isDic h (.ref a) then none else eqD h deep (.ref a) (.ref b')) else (if a = b' then (if (h[a]?.map O.plain) = some true then some true else none) else eqRef (eqD h 59) h a b')) = some b := q
        rw [if_neg hab, if_neg hab] at q0
        clear q left
        have q := q0
        simp only [eqRef, eoa, eob] at q
        cases oa with
        | lst ds =>
          obtain ⟨vs, e3, t1⟩ := oxa
          obtain ⟨its, v1, pl, _⟩ := I.list (SqL.of e3)
          cases ob with
          | lst es =>
            obtain ⟨us, e4, t2⟩ := oxb
            obtain ⟨its2, v2, pl2, _⟩ := I.list (SqL.of e4)
            simp only [O.seq?] at q
            have e1 : ds.length = its.length := t1.length.trans v1.length
            have e2 : es.length = its2.length := t2.length.trans v2.length
            split at q
            · rename_i hl
              obtain ⟨g, g1, g2⟩ := eqL_at (R := fun _ _ => True) ih ds es vs us its its2 b t1 t2 v1 v2 q
              have r := SeqAt.RcNeAt.lists (e := g) pl.isList pl2.isList (by simp; omega) hu0 (fun j h1 h2 => by simpa using g1 j (by simpa using h1) (by simpa using h2))
              have em : min its.length its2.length = its.length := by omega
              rw [em] at g2
              rw [← g2]
              simpa using r
            · rename_i hl
              cases q
              exact SeqAt.RcNeAt.lists_lengths pl.isList pl2.isList (by simp; omega) hu0
          | dic es =>
            obtain ⟨us, e4, _⟩ := oxb
            simp [O.seq?, O.plain] at q
            subst q
            exact absurd hd2 (by simp [isDic, eob])
          | ins _ _ => simp [O.seq?, O.plain] at q
        | dic ds =>
          obtain ⟨vs, e3, t1⟩ := oxa
          cases ob with
          | lst es =>
            obtain ⟨us, e4, t2⟩ := oxb
            obtain ⟨its2, v2, pl2, _⟩ := I.list (SqL.of e4)
            simp [O.seq?, O.plain] at q
            subst q
            exact absurd hd1 (by simp [isDic, eoa])
          | dic es => simp [O.seq?] at q
          | ins _ _ => simp [O.seq?] at q
        | ins _ _ =>
          cases ob with
          | lst es => simp [O.seq?, O.plain] at q
          | dic es => simp [O.seq?] at q
          | ins _ _ => simp [O.seq?] at q
end
end IX
end

section
set_option Elab.async false
set_option linter.all false
set_option maxRecDepth 100000
set_option maxHeartbeats 2000000
/-! IX5: the other operators by value. -/
namespace IX
open PySem PySem.Spec PyProof.Rows L2
section
variable {X : Cx} {cl : Nat → Option Addr}
theorem op_subB : OpR X (binaryOp .Sub) (rB X.K cl .sub) := by
  intro pins s σ H x y v u Q I rx ry h
  obtain ⟨ρ, h, d, e, z, hr, r1, r2, w⟩ := h
  cases r1 with
  | int i =>
    cases r2 with
    | int j => exact op_sub pins s σ H _ _ v u Q I rx ry ⟨i, j, rfl, rfl, PostE.now hr (.int _) w⟩
    | _ => exact (show False from w).elim
  | _ => exact (show False from w).elim
theorem op_fdivB : OpR X (binaryOp .FloorDiv) (rB X.K cl .fdiv) := by
  intro pins s σ H x y v u Q I rx ry h
  obtain ⟨ρ, h, d, e, z, hr, r1, r2, w⟩ := h
  cases r1 with
  | int i =>
    cases r2 with
    | int j =>
      have w1 : WR (if 0 < j ∧ j < 2 ^ 1000 then R.ok (.int (i / j)) h else .bad) (PostE X.K cl ρ H Q) z := w
      by_cases c : 0 < j ∧ j < 2 ^ 1000
      · rw [if_pos c] at w1
        have c2 : j.natAbs < 2 ^ 1000 := by
          have := c.2
          have := c.1
          omega
        exact op_fdivW pins s σ H _ _ v u Q I rx ry ⟨i, j, rfl, rfl, wide_div c.1 c2 (by decide) (by decide), PostE.now hr (.int _) w1⟩
      · rw [if_neg c] at w1; exact (show False from w1).elim
    | _ => exact (show False from w).elim
  | _ => exact (show False from w).elim
theorem op_modB : OpR X (binaryOp .Mod) (rB X.K cl .mod) := by
  intro pins s σ H x y v u Q I rx ry h
  obtain ⟨ρ, h, d, e, z, hr, r1, r2, w⟩ := h
  cases r1 with
  | int i =>
    cases r2 with
    | int j =>
      have w1 : WR (if 0 < j then R.ok (.int (i % j)) h else .bad) (PostE X.K cl ρ H Q) z := w
      by_cases c : 0 < j
      · rw [if_pos c] at w1
        exact op_mod pins s σ H _ _ v u Q I rx ry ⟨i, j, rfl, rfl, c, PostE.now hr (.int _) w1⟩
      · rw [if_neg c] at w1; exact (show False from w1).elim
    | _ => exact (show False from w).elim
  | _ => exact (show False from w).elim
theorem op_powB : OpR X (binaryOp .Pow) (rB X.K cl .pow) := by
  intro pins s σ H x y v u Q I rx ry h
  obtain ⟨ρ, h, d, e, z, hr, r1, r2, w⟩ := h
  cases r1 with
  | int i =>
    cases r2 with
    | int j =>
      have w1 : WR (if 0 ≤ j ∧ j ≤ 1000000 ∧ i.natAbs < 2 ^ 64 then R.ok (.int (i ^ j.toNat)) h else .bad) (PostE X.K cl ρ H Q) z := w
      by_cases c : 0 ≤ j ∧ j ≤ 1000000 ∧ i.natAbs < 2 ^ 64
      · rw [if_pos c] at w1
        exact op_pow pins s σ H _ _ v u Q I rx ry ⟨i, j, rfl, rfl, c, PostE.now hr (.int _) w1⟩
      · rw [if_neg c] at w1; exact (show False from w1).elim
    | _ => exact (show False from w).elim
  | _ => exact (show False from w).elim
theorem Reps.rep {K : PySem.W.Frag} {ρ : Rho} {H : Hp} {ds : List D} {vs : List V} (r : Reps K ρ H ds vs) : ∀ n : Nat, Reps K ρ H (List.replicate n ds).flatten (List.replicate n vs).flatten
  | 0 => .nil
  | n + 1 => by
    rw [List.replicate_succ, List.replicate_succ, List.flatten_cons, List.flatten_cons]
    exact r.append (Reps.rep r n)
theorem op_mulB : OpR X (binaryOp .Mult) (rB X.K cl .mul) := by
  intro pins s σ H x y v u Q I rx ry h
  obtain ⟨ρ, h, d, e, z, hr, r1, r2, w⟩ := h
  have hl : sizeLine = line := sizeLine_eq
  cases r1 with
  | int i =>
    cases r2 with
    | int j =>
      have w1 : WR (if i.natAbs < 2 ^ 64 ∨ j.natAbs < 2 ^ 64 then R.ok (.int (i * j)) h else .bad) (PostE X.K cl ρ H Q) z := w
      by_cases c : i.natAbs < 2 ^ 64 ∨ j.natAbs < 2 ^ 64
      · rw [if_pos c] at w1
        have c2 : CMul i j := by
          rcases c with c | c
          · exact .inl ⟨by omega, by omega⟩
          · exact .inr ⟨by omega, by omega⟩
        exact op_mul pins s σ H _ _ v u Q I rx ry ⟨i, j, rfl, rfl, c2, PostE.now hr (.int _) w1⟩
      · rw [if_neg c] at w1; exact (show False from w1).elim
    | _ => exact (show False from w).elim
  | @ref a p ea =>
    cases r2 with
    | int k =>
      have w1 : WR (match h[a]? with
        | some (.lst xs) => if -(2 ^ 62) ≤ k ∧ k ≤ 2 ^ 62 ∧ xs.length * k.toNat ≤ line then R.new (.lst (List.replicate k.toNat xs).flatten) h else .bad
        | _ => .bad) (PostE X.K cl ρ H Q) z := w
      cases eo : h[a]? with
      | none => rw [eo] at w1; exact (show False from w1).elim
      | some o =>
        rw [eo] at w1
        cases o with
        | lst xs =>
          dsimp only at w1
          obtain ⟨vs, e3, t⟩ := obj_lst hr ea eo
          by_cases c : -(2 ^ 62) ≤ k ∧ k ≤ 2 ^ 62 ∧ xs.length * k.toNat ≤ line
          · rw [if_pos c] at w1
            exact op_rep pins s σ H _ _ v u Q I rx ry ⟨p, k, vs, rfl, rfl, e3, by omega, by omega, by rw [← t.length, hl]; exact c.2.2, fun q n => new_lst hr (t.rep _) w1 q n⟩
          · rw [if_neg c] at w1; exact (show False from w1).elim
        | dic _ => exact (show False from w1).elim
        | ins _ _ => exact (show False from w1).elim
    | _ => exact (show False from w).elim
  | _ => exact (show False from w).elim
theorem wr_bl {K : PySem.W.Frag} {ρ : Rho} {H : Hp} {h : Hh} {Q : VK} {z : Nat → List (Str × D) → Hh → Prop} {o : Option Bool} (hr : HRel K cl ρ H h) (w : WR (bl! o h) (PostE K cl ρ H Q) z) : ∃ b, o = some b ∧ Q (.bl b) H := by
  cases o with
  | none => exact (show False from w).elim
  | some b => exact ⟨b, rfl, PostE.now hr (.bl b) w⟩
theorem wr_neD {K : PySem.W.Frag} {ρ : Rho} {H : Hp} {h : Hh} {Q : VK} {z : Nat → List (Str × D) → Hh → Prop} {o : Option Bool} (hr : HRel K cl ρ H h) (w : WR (neD o h) (PostE K cl ρ H Q) z) : ∃ b, o = some b ∧ Q (.bl (!b)) H := by
  cases o with
  | none => exact (show False from w).elim
  | some b => exact ⟨b, rfl, PostE.now hr (.bl _) w⟩
theorem op_cmpB {op : CmpOp} {o : Op} {p : Int → Int → Bool} (ho : ∀ x y h, binop o x y h = cmpD p x y h) (rule : OpR X (compareOp op) (rI0 fun i j => .bl (p i j))) : OpR X (compareOp op) (rB X.K cl o) := by
  intro pins s σ H x y v u Q I rx ry h
  obtain ⟨ρ, h, d, e, z, hr, r1, r2, w⟩ := h
  rw [ho] at w
  cases r1 with
  | int i =>
    cases r2 with
    | int j => exact rule pins s σ H _ _ v u Q I rx ry ⟨i, j, rfl, rfl, PostE.now hr (.bl _) w⟩
    | _ => exact (show False from w).elim
  | _ => exact (show False from w).elim
theorem op_ltB : OpR X (compareOp .Lt) (rB X.K cl .lt) := op_cmpB (fun _ _ _ => rfl) op_lt
theorem op_leB : OpR X (compareOp .LtE) (rB X.K cl .le) := op_cmpB (fun _ _ _ => rfl) op_le
theorem op_gtB : OpR X (compareOp .Gt) (rB X.K cl .gt) := op_cmpB (fun _ _ _ => rfl) op_gt
theorem op_geB : OpR X (compareOp .GtE) (rB X.K cl .ge) := op_cmpB (fun _ _ _ => rfl) op_ge
/-- is, by values -/
theorem isD_at {K : PySem.W.Frag} {ρ : Rho} {H : Hp} {d e : D} {x y : V} {v u : Value} {b : Bool} {M : Model} {A : Around} {E : Value → Shared → Prop} {s : Shared} {Q : Bool → Shared → Prop} (r1 : Rep K ρ H d x) (r2 : Rep K ρ H e y) (rx : RelV x v) (ry : RelV y u) (q : isD d e = some b) (h : Q b s) :
    wpAny M A (isSame v u) Q E s := by
  cases r2 with
  | non =>
    cases ry
    cases r1 with
    | non => cases rx; cases q; exact wpAny_pure h
    | bl _ => cases rx; cases q; exact wpAny_pure h
    | int _ => obtain ⟨t, rfl⟩ := rx; cases q; exact wpAny_pure h
    | str _ _ => obtain ⟨t, rfl⟩ := rx; cases q; exact wpAny_pure h
    | tup _ _ => cases rx; cases q; exact wpAny_pure h
    | lck _ _ => cases rx; cases q; exact wpAny_pure h
    | ref _ => cases rx; cases q; exact wpAny_pure h
  | bl j =>
    cases ry
    cases r1 with
    | non => cases rx; cases q; exact wpAny_pure h
    | bl i => cases rx; cases q; exact wpAny_pure (by revert h; cases i <;> cases j <;> exact id)
    | int _ => obtain ⟨t, rfl⟩ := rx; cases q; exact wpAny_pure h
    | str _ _ => obtain ⟨t, rfl⟩ := rx; cases q; exact wpAny_pure h
    | tup _ _ => cases rx; cases q; exact wpAny_pure h
    | lck _ _ => cases rx; cases q; exact wpAny_pure h
    | ref _ => cases rx; cases q; exact wpAny_pure h
  | _ => cases r1 <;> cases q
theorem op_isB : OpR X (compareOp .Is) (rB X.K cl .is_) := by
  intro pins s σ H x y v u Q I rx ry h
  obtain ⟨ρ, h, d, e, z, hr, r1, r2, w⟩ := h
  obtain ⟨b, q, k⟩ := wr_bl hr w
  show wpAny _ _ (do return Value.bool (← isSame v u) : Sem Value) _ _ s
  exact wpAny_bind (isD_at r1 r2 rx ry q (wpAny_pure ⟨.bl b, H, I, rfl, k⟩))
theorem op_isnotB : OpR X (compareOp .IsNot) (rB X.K cl .isnot) := by
  intro pins s σ H x y v u Q I rx ry h
  obtain ⟨ρ, h, d, e, z, hr, r1, r2, w⟩ := h
  obtain ⟨b, q, k⟩ := wr_neD hr w
  show wpAny _ _ (do return Value.bool (!(← isSame v u)) : Sem Value) _ _ s
  exact wpAny_bind (isD_at r1 r2 rx ry q (wpAny_pure ⟨.bl _, H, I, rfl, k⟩))
/-! ### in -/
/-- the items' answers one by one -/
theorem anyD_pairs {h : Hh} {pins : List (Addr × Obj)} {s : Shared} {σ : L2.St} {H : Hp} {ρ : Rho} (I : Inv X pins σ H s) (hr : HRel X.K cl ρ H h) {A : Around} (hu : A.units + 60 < cLine) {d : D} {x : V} {v : Value} (r1 : Rep X.K ρ H d x) (rx : RelV x v) :
    ∀ (ds : List D) (vs : List V) (us : List Value) (b : Bool), Reps X.K ρ H ds vs → Vals vs us → anyD h d ds = some b → ∃ bs : List Bool, Paired (fun y c => SeqAt.EqAt A s y v c) us bs ∧ bs.any id = b
  | [], _, _, b, t, w, q => by
    cases t; cases w; cases q
    exact ⟨[], .nil, rfl⟩
  | e :: ds, _, _, b, .cons a t, .cons w1 w, q => by
    unfold anyD at q
    cases q1 : eqD h deep e d with
    | none => rw [q1] at q; cases q
    | some c =>
      cases q2 : anyD h d ds with
      | none => rw [q1, q2] at q; cases q
      | some c2 =>
        rw [q1, q2] at q
        cases q
        obtain ⟨bs, p, e2⟩ := anyD_pairs I hr hu r1 rx ds _ _ c2 t w q2
        refine ⟨c :: bs, .cons (eqD_at I hr deep e d _ _ _ _ c A hu a r1 w1 rx q1) p, ?_⟩
        rw [List.any_cons, e2]
        rfl
theorem paired_fun {A : Around} {s : Shared} {v : Value} : ∀ (us : List Value) (bs : List Bool), Paired (fun y c => SeqAt.EqAt A s y v c) us bs → ∃ e : Value → Bool, (∀ y ∈ us, SeqAt.EqAt A s y v (e y)) ∧ us.any e = bs.any id := by
  intro us bs p
  classical
  refine ⟨fun y => decide (∃ q ∈ us.zip bs, q.1 = y ∧ q.2 = true), fun y hy => ?_, ?_⟩
  · show SeqAt.EqAt A s y v (decide (∃ q ∈ us.zip bs, q.1 = y ∧ q.2 = true))
    by_cases c : ∃ q ∈ us.zip bs, q.1 = y ∧ q.2 = true
    · rw [decide_eq_true c]
      obtain ⟨⟨y', b⟩, hq, e1, e2⟩ := c
      simp only at e1 e2
      subst e1 e2
      clear hy
      induction p with
      | nil => simp at hq
      | cons r t ih =>
        rw [List.zip_cons_cons] at hq
        rcases List.mem_cons.mp hq with e | hq
        · cases e; exact r
        · exact ih hq
    · rw [decide_eq_false c]
      induction p with
      | nil => simp at hy
      | @cons a b l1 l2 r t ih =>
        rcases List.mem_cons.mp hy with e | hy
        · subst e
          cases b with
          | true => exact absurd ⟨(y, true), by rw [List.zip_cons_cons]; exact List.mem_cons_self, rfl, rfl⟩ c
          | false => exact r
        · exact ih hy fun ⟨q, hq, z⟩ => c ⟨q, by rw [List.zip_cons_cons]; exact List.mem_cons_of_mem _ hq, z⟩
  · have hl : us.length = bs.length := p.length
    rw [Bool.eq_iff_iff, List.any_eq_true, List.any_eq_true]
    constructor
    · rintro ⟨y, _, hy⟩
      obtain ⟨q, hq, _, e2⟩ := of_decide_eq_true hy
      exact ⟨q.2, (List.of_mem_zip hq).2, e2⟩
    · rintro ⟨b, hb, e⟩
      obtain ⟨i, hi, ei⟩ := List.getElem_of_mem hb
      refine ⟨us[i], List.getElem_mem _, decide_eq_true ⟨(us[i], bs[i]), ?_, rfl, ?_⟩⟩
      · exact List.mem_iff_getElem.mpr ⟨i, by rw [List.length_zip]; omega, List.getElem_zip⟩
      · rw [ei]; exact e
/-- a key's place in a dict -/
theorem keyD_kV {K : PySem.W.Frag} {ρ : Rho} {H : Hp} {d : D} {x : V} {k : Key} (r : Rep K ρ H d x) (e : keyD d = some k) : x = kV k := by
  cases r <;> cases e <;> rfl
theorem look_rel {K : PySem.W.Frag} {ρ : Rho} {H : Hp} {k : D} {j : Key} (e : keyD k = some j) : ∀ {kvs : List (D × D)} {ks : List (Key × V)}, RepK K ρ H kvs ks → (∀ d, lookD k kvs = some d → ∃ v, valV ks j = some v ∧ Rep K ρ H d v) ∧ (lookD k kvs = none → valV ks j = none)
  | _, _, .nil => ⟨fun d q => (nomatch q), fun _ => rfl⟩
  | _, _, @RepK.cons _ _ _ k1 j1 d1 ds v1 vs e1 a1 b1 r => by
    have ih := look_rel e r
    by_cases c : j1 = j
    · subst c
      have q1 : lookD k ((k1, d1) :: ds) = some d1 := by
        show (if keyD k1 = keyD k then some d1 else lookD k ds) = some d1
        rw [if_pos (e1.trans e.symm)]
      have q2 : valV ((j1, v1) :: vs) j1 = some v1 := by simp [valV]
      exact ⟨fun d q => by rw [q1] at q; cases q; exact ⟨v1, q2, b1⟩, fun q => by rw [q1] at q; cases q⟩
    · have q1 : lookD k ((k1, d1) :: ds) = lookD k ds := by
        show (if keyD k1 = keyD k then some d1 else lookD k ds) = lookD k ds
        rw [if_neg (fun z => c (by rw [e1, e] at z; exact Option.some.inj z))]
      have q2 : valV ((j1, v1) :: vs) j = valV vs j := by simp [valV, c]
      rw [q1, q2]
      exact ih
theorem RepK.length {K : PySem.W.Frag} {ρ : Rho} {H : Hp} : ∀ {kvs : List (D × D)} {ks : List (Key × V)}, RepK K ρ H kvs ks → kvs.length = ks.length
  | _, _, .nil => rfl
  | _, _, .cons _ _ _ r => congrArg Nat.succ (RepK.length r)
theorem RepK.append {K : PySem.W.Frag} {ρ : Rho} {H : Hp} : ∀ {kvs kvs2 : List (D × D)} {ks ks2 : List (Key × V)}, RepK K ρ H kvs ks → RepK K ρ H kvs2 ks2 → RepK K ρ H (kvs ++ kvs2) (ks ++ ks2)
  | _, _, _, _, .nil, s => s
  | _, _, _, _, .cons e a b r, s => .cons e a b (RepK.append r s)
theorem put_rel {K : PySem.W.Frag} {ρ : Rho} {H : Hp} {k d : D} {j : Key} {v : V} (e : keyD k = some j) (a : Rep K ρ H k (kV j)) (b : Rep K ρ H d v) {kvs : List (D × D)} {ks : List (Key × V)} (r : RepK K ρ H kvs ks) : RepK K ρ H (putD k d kvs) (putK ks j v) := by
  have hany : ∀ {kvs : List (D × D)} {ks : List (Key × V)}, RepK K ρ H kvs ks → (kvs.any fun p => decide (keyD p.1 = keyD k)) = ks.any fun p => decide (p.1 = j) := by
    intro kvs ks r
    induction r with
    | nil => rfl
    | @cons k1 j1 d1 ds v1 vs e1 a1 b1 r ih =>
      rw [List.any_cons, List.any_cons, ih]
      congr 1
      show decide (keyD k1 = keyD k) = decide (j1 = j)
      rw [e1, e]
      simp
  have hmap : ∀ {kvs : List (D × D)} {ks : List (Key × V)}, RepK K ρ H kvs ks → RepK K ρ H (kvs.map (fun p => if keyD p.1 = keyD k then (p.1, d) else p)) (ks.map (fun p => if p.1 = j then (p.1, v) else p)) := by
    intro kvs ks r
    induction r with
    | nil => exact .nil
    | @cons k1 j1 d1 ds v1 vs e1 a1 b1 r ih =>
      rw [List.map_cons, List.map_cons]
      by_cases c : j1 = j
      · subst c
        have c2 : keyD k1 = keyD k := e1.trans e.symm
        simp only [if_pos c2, if_true]
        exact .cons e1 a1 b ih
      · have c2 : ¬ keyD k1 = keyD k := fun z => c (by rw [e1, e] at z; exact Option.some.inj z)
        simp only [if_neg c2, if_neg c]
        exact .cons e1 a1 b1 ih
  unfold putD putK
  rw [hany r]
  by_cases c : (ks.any fun p => decide (p.1 = j)) = true
  · rw [if_pos c, if_pos c]; exact hmap r
  · rw [if_neg c, if_neg c]; exact r.append (.cons e a b .nil)
theorem dicD_at {K : PySem.W.Frag} {ρ : Rho} {H : Hp} {h : Hh} {d : D} {x : V} {ka : List (D × D)} (hr : HRel K cl ρ H h) (r : Rep K ρ H d x) (q : dicD h d = some ka) : ∃ a p vs, d = .ref a ∧ x = .ref p ∧ H p = some (.dK vs) ∧ RepK K ρ H ka vs := by
  cases r with
  | @ref a p ea =>
    simp only [dicD] at q
    cases eo : h[a]? with
    | none => rw [eo] at q; cases q
    | some o =>
      rw [eo] at q
      cases o with
      | dic kvs =>
        cases q
        obtain ⟨vs, e3, t⟩ := obj_dic hr ea eo
        exact ⟨a, p, vs, rfl, rfl, e3, t⟩
      | _ => cases q
  | _ => cases q
theorem hits_at {h : Hh} {pins : List (Addr × Obj)} {s : Shared} {σ : L2.St} {H : Hp} {ρ : Rho} (I : Inv X pins σ H s) (hr : HRel X.K cl ρ H h) {A : Around} (hu : A.units + 60 < cLine) {kb : List (D × D)} {wb : List (Key × V)} {vb : List (Key × Value)} (tb : RepK X.K ρ H kb wb) (rb : KV wb vb) :
    ∀ {ka : List (D × D)} {wa : List (Key × V)} {va : List (Key × Value)} {b : Bool}, RepK X.K ρ H ka wa → KV wa va → eqKV (eqD h deep) kb ka = some b → PySem.W.KeqHits A s vb va b
  | [], _, _, _, .nil, .nil, q => by cases q; exact .nil
  | (k, d) :: ka, _, _, b, @RepK.cons _ _ _ _ j _ _ v ws ek a1 b1 t, .cons ⟨e1, r1⟩ w, q => by
    rename_i p ps
    obtain ⟨j', u⟩ := p
    have e1' : j = j' := e1
    subst e1'
    have lr := look_rel ek tb
    unfold eqKV at q
    cases q1 : lookD k kb with
    | none =>
      rw [q1] at q
      cases q
      have hv := rb.val j
      rw [lr.2 q1] at hv
      refine .miss ?_
      cases q3 : valueAt vb j with
      | none => rfl
      | some _ => rw [q3] at hv; cases hv
    | some d2 =>
      rw [q1] at q
      dsimp only at q
      cases q2 : eqD h deep d d2 with
      | none => rw [q2] at q; cases q
      | some e =>
        cases q4 : eqKV (eqD h deep) kb ka with
        | none => rw [q2, q4] at q; cases q
        | some b' =>
          rw [q2, q4] at q
          cases q
          obtain ⟨v2, e4, r4⟩ := lr.1 d2 q1
          have hv := rb.val j
          rw [e4] at hv
          obtain ⟨y, hy, ry⟩ := hv.some_of
          exact .hit hy (eqD_at I hr deep d d2 _ _ _ _ e A hu b1 r4 r1 ry q2) (hits_at I hr hu tb rb t w q4)
theorem eqDD_at {h : Hh} {pins : List (Addr × Obj)} {s : Shared} {σ : L2.St} {H : Hp} {ρ : Rho} (hu : X.A.units + 64 < cLine) (I : Inv X pins σ H s) (hr : HRel X.K cl ρ H h) {d e : D} {x y : V} {v u : Value} {ka kb : List (D × D)} {b : Bool} (r1 : Rep X.K ρ H d x) (r2 : Rep X.K ρ H e y) (rx : RelV x v) (ry : RelV y u)
    (q1 : dicD h d = some ka) (q2 : dicD h e = some kb) (q : eqDD h ka kb = some b) : ∃ a c va vb r, v = .ref a ∧ u = .ref c ∧ (a == sysModules) = false ∧ (c == sysModules) = false ∧ s.heap.DictOf (mixKind X.prog X.w) a va ∧ s.heap.DictOf (mixKind X.prog X.w) c vb ∧ (va.length = vb.length → PySem.W.KeqHits X.A.in1 s vb va r) ∧ b = (va.length == vb.length && r) := by
  obtain ⟨_, p1, w1, rfl, rfl, e1, t1⟩ := dicD_at hr r1 q1
  obtain ⟨_, p2, w2, rfl, rfl, e2, t2⟩ := dicD_at hr r2 q2
  cases rx
  cases ry
  obtain ⟨_, ya, va, ra, da⟩ := dk_of I.hok e1
  obtain ⟨_, yb, vb, rb, db⟩ := dk_of I.hok e2
  have l1 := t1.length
  have l2 := t2.length
  have l3 := ra.length
  have l4 := rb.length
  have hu2 : X.A.in1.units + 60 < cLine := by
    show X.A.units + 1 + 60 < cLine
    omega
  unfold eqDD at q
  by_cases c : ka.length = kb.length
  · rw [if_pos c] at q
    refine ⟨p1, p2, va, vb, b, rfl, rfl, ya, yb, da, db, fun _ => hits_at I hr hu2 t2 rb t1 ra q, ?_⟩
    have : va.length = vb.length := by omega
    simp [this]
  · rw [if_neg c] at q
    cases q
    refine ⟨p1, p2, va, vb, false, rfl, rfl, ya, yb, da, db, fun z => absurd (by omega) c, ?_⟩
    simp
theorem op_eqB (hu : X.A.units + 64 < cLine) : OpR X (compareOp .Eq) (rB X.K cl .eq) := by
  intro pins s σ H x y v u Q I rx ry h
  obtain ⟨ρ, h, d, e, z, hr, r1, r2, w⟩ := h
  obtain ⟨b, q, k⟩ := wr_bl hr w
  have old : eqT h d e = some b → wpAny (model X.prog X.w) X.A (compareOp .Eq v u) (EP X pins σ Q) X.xe s := fun q => rcD_at I hr d e x y v u b X.A hu r1 r2 rx ry q X.prog X.w X.xe _ ⟨.bl b, H, I, rfl, k⟩
  unfold eqTD at q
  cases q1 : dicD h d with
  | none => rw [q1] at q; exact old q
  | some ka =>
    cases q2 : dicD h e with
    | none => rw [q1, q2] at q; exact old q
    | some kb =>
      rw [q1, q2] at q
      dsimp only at q
      obtain ⟨a, c, va, vb, r, rfl, rfl, ya, yb, da, db, hits, rfl⟩ := eqDD_at hu I hr r1 r2 rx ry q1 q2 q
      exact PySem.W.keq_eq ya yb da db (by omega) hits ⟨.bl _, H, I, rfl, k⟩
theorem op_neB (hu : X.A.units + 64 < cLine) : OpR X (compareOp .NotEq) (rB X.K cl .ne) := by
  intro pins s σ H x y v u Q I rx ry h
  obtain ⟨ρ, h, d, e, z, hr, r1, r2, w⟩ := h
  obtain ⟨b, q, k⟩ := wr_bl hr w
  have old : neT h d e = some b → wpAny (model X.prog X.w) X.A (compareOp .NotEq v u) (EP X pins σ Q) X.xe s := fun q => by
    unfold neT at q
    split at q
    · cases q
    · rename_i hd
      cases q2 : eqT h d e with
      | none => rw [q2] at q; cases q
      | some c =>
        rw [q2] at q
        cases q
        have hd' : isDic h d = false ∧ isDic h e = false := by simpa using hd
        exact rnD_at I hr d e x y v u c X.A hu hd'.1 hd'.2 r1 r2 rx ry q2 X.prog X.w X.xe _ ⟨.bl _, H, I, rfl, k⟩
  unfold neTD at q
  cases q1 : dicD h d with
  | none => rw [q1] at q; exact old q
  | some ka =>
    cases q2 : dicD h e with
    | none => rw [q1, q2] at q; exact old q
    | some kb =>
      rw [q1, q2] at q
      dsimp only at q
      cases q3 : eqDD h ka kb with
      | none => rw [q3] at q; cases q
      | some b0 =>
        rw [q3] at q
        cases q
        obtain ⟨a, c, va, vb, r, rfl, rfl, ya, yb, da, db, hits, rfl⟩ := eqDD_at hu I hr r1 r2 rx ry q1 q2 q3
        exact PySem.W.keq_ne ya yb da db (by omega) hits ⟨.bl _, H, I, rfl, k⟩
theorem inD_at (hu : X.A.units + 65 < cLine) (neg : Bool) (op : CmpOp) (hop : op = if neg then .NotIn else .In) {pins : List (Addr × Obj)} {s : Shared} {σ : L2.St} {H : Hp} {ρ : Rho} {h : Hh} {d e : D} {x y : V} {v u : Value} {b : Bool} {Q : VK}
    (I : Inv X pins σ H s) (hr : HRel X.K cl ρ H h) (r1 : Rep X.K ρ H d x) (r2 : Rep X.K ρ H e y) (rx : RelV x v) (ry : RelV y u) (q : inD d e h = some b) (k : Q (.bl (if neg then !b else b)) H) : wpAny (model X.prog X.w) X.A (compareOp op v u) (EP X pins σ Q) X.xe s := by
  have fin : ∀ {c : Bool}, c = b → EP X pins σ Q (.bool (if neg then !c else c)) s := fun {c} e => by subst e; exact ⟨.bl _, H, I, rfl, k⟩
  have byItems : ∀ (ds : List D) (vs : List V) (us : List Value), Reps X.K ρ H ds vs → Vals vs us → anyD h d ds = some b → ∃ e : Value → Bool, (∀ y ∈ us.toArray, SeqAt.EqAt X.A.in1 s y v (e y)) ∧ us.toArray.any e = b := fun ds vs us t w q => by
    obtain ⟨bs, p, eb⟩ := anyD_pairs I hr (A := X.A.in1) (by show X.A.units + 1 + 60 < cLine; omega) r1 rx ds vs us b t w q
    obtain ⟨f, f1, f2⟩ := paired_fun us bs p
    exact ⟨f, fun y hy => f1 y (by simpa using hy), by rw [show us.toArray.any f = us.any f by simp, f2, eb]⟩
  subst hop
  cases r2 with
  | @tup p ds vs s2 t =>
    cases ry
    obtain ⟨its, w, pl, _⟩ := I.tuple s2
    obtain ⟨f, f1, f2⟩ := byItems ds vs its t w q
    cases neg with
    | false => exact SeqAt.in_tupleAt f pl f1 (fin (c := its.toArray.any f) f2)
    | true => exact SeqAt.notIn_tupleAt f pl f1 (fin (c := its.toArray.any f) f2)
  | str z zz =>
    cases r1 with
    | str a za =>
      have q' : some (!(Builtin.Str.occurrences z a 0 z.length 1).isEmpty) = some b := q
      cases q'
      cases neg with
      | false => exact op_in_str pins s σ H _ _ v u Q I rx ry ⟨a, z, rfl, rfl, k⟩
      | true => exact op_notin_str pins s σ H _ _ v u Q I rx ry ⟨a, z, rfl, rfl, k⟩
    | _ => cases q
  | @ref a p ea =>
    cases ry
    have q' : (match h[a]? with
      | some (.lst ys) => anyD h d ys
      | some (.dic kvs) => if (keyD d).isSome then some (lookD d kvs).isSome else none
      | _ => none) = some b := q
    cases eo : h[a]? with
    | none => rw [eo] at q'; cases q'
    | some o =>
      rw [eo] at q'
      cases o with
      | lst ds =>
        obtain ⟨vs, e3, t⟩ := obj_lst hr ea eo
        obtain ⟨its, w, pl, _⟩ := I.list (SqL.of e3)
        obtain ⟨f, f1, f2⟩ := byItems ds vs its t w q'
        cases neg with
        | false => exact SeqAt.in_listAt f pl.isList f1 (fin (c := its.toArray.any f) f2)
        | true => exact SeqAt.notIn_listAt f pl.isList f1 (fin (c := its.toArray.any f) f2)
      | dic kvs =>
        obtain ⟨ks, e3, t⟩ := obj_dic hr ea eo
        dsimp only at q'
        split at q'
        · rename_i hk
          obtain ⟨j, ej⟩ := Option.isSome_iff_exists.mp hk
          have ex := keyD_kV r1 ej
          subst ex
          have lr := look_rel (k := d) ej t
          have eb : (valV ks j).isSome = b := by
            cases q2 : lookD d kvs with
            | none => rw [q2] at q'; rw [lr.2 q2]; exact Option.some.inj q'
            | some d2 => rw [q2] at q'; obtain ⟨v2, e4, _⟩ := lr.1 d2 q2; rw [e4]; exact Option.some.inj q'
          cases neg with
          | false => exact d_in (by omega) I (DGet.k e3) rx fun s' I' => ⟨.bl _, H, I', rfl, by rw [eb]; exact k⟩
          | true => exact d_notIn (by omega) I (DGet.k e3) rx fun s' I' => ⟨.bl _, H, I', rfl, by rw [eb]; exact k⟩
        · cases q'
      | ins _ _ => cases q'
  | _ => cases q
theorem op_inB (hu : X.A.units + 65 < cLine) : OpR X (compareOp .In) (rB X.K cl .isin) := by
  intro pins s σ H x y v u Q I rx ry h
  obtain ⟨ρ, h, d, e, z, hr, r1, r2, w⟩ := h
  obtain ⟨b, q, k⟩ := wr_bl hr w
  exact inD_at hu false .In rfl I hr r1 r2 rx ry q k
theorem op_notinB (hu : X.A.units + 65 < cLine) : OpR X (compareOp .NotIn) (rB X.K cl .notin) := by
  intro pins s σ H x y v u Q I rx ry h
  obtain ⟨ρ, h, d, e, z, hr, r1, r2, w⟩ := h
  obtain ⟨b, q, k⟩ := wr_neD hr w
  exact inD_at hu true .NotIn rfl I hr r1 r2 rx ry q k
end
end IX
end

section
set_option Elab.async false
set_option linter.all false
set_option maxRecDepth 100000
set_option maxHeartbeats 2000000
/-! IX6: subscripts, slices, truth, isinstance. -/
namespace IX
open PySem PySem.Spec PyProof.Rows L2
section
variable {X : Cx} {cl : Nat → Option Addr}
def rIdx (K : PySem.W.Frag) (cl : Nat → Option Addr) : R2 := fun x y H Q => ∃ ρ h d e z, HRel K cl ρ H h ∧ Rep K ρ H d x ∧ Rep K ρ H e y ∧ WR (idxD d e h) (PostE K cl ρ H Q) z
theorem ix_all (hu : X.A.units + 1 < cLine) : IxR X (rIdx X.K cl) := by
  intro value slice pins s σ H x y v u Q I rx ry h hs
  obtain ⟨ρ, h, d, e, z, hr, r1, r2, w⟩ := h
  have hl : sizeLine = line := sizeLine_eq
  have seqL : ∀ {p : Addr} {ds : List D} {vs : List V} {i : Int}, x = .ref p → y = .int i → SqL X.K H p vs → Reps X.K ρ H ds vs → WR (match L2.atI ds i with | some v => R.ok v h | none => .bad) (PostE X.K cl ρ H Q) z → wpAny (model X.prog X.w) X.A (subscriptTail value slice v u) (EP X pins σ Q) X.xe s := fun {p ds vs i} ex ey sq t w => by
    cases q : L2.atI ds i with
    | none => rw [q] at w; exact (show False from w).elim
    | some d2 =>
      rw [q] at w
      obtain ⟨v2, e2, r3⟩ := t.atI q
      exact ix_list value slice pins s σ H x y v u Q I rx ry ⟨p, vs, i, v2, ex, ey, sq, e2, PostE.now hr r3 w⟩ hs
  cases r1 with
  | @tup p ds vs s1 t =>
    cases r2 with
    | int i =>
      have w' : WR (match L2.atI ds i with | some v => R.ok v h | none => .bad) (PostE X.K cl ρ H Q) z := w
      cases q : L2.atI ds i with
      | none => rw [q] at w'; exact (show False from w').elim
      | some d2 =>
        rw [q] at w'
        obtain ⟨v2, e2, r3⟩ := t.atI q
        exact ix_tup value slice pins s σ H _ _ v u Q I rx ry ⟨p, vs, i, v2, rfl, rfl, s1, e2, PostE.now hr r3 w'⟩ hs
    | _ => exact (show False from w).elim
  | @lck p ds vs s1 t =>
    cases r2 with
    | int i => exact seqL rfl rfl s1.sql t w
    | _ => exact (show False from w).elim
  | str zt zz =>
    cases r2 with
    | int i =>
      have w' : WR (match L2.atI zt.cps.toList i with | some c => R.ok (.str ⟨#[c]⟩) h | none => .bad) (PostE X.K cl ρ H Q) z := w
      cases q : L2.atI zt.cps.toList i with
      | none => rw [q] at w'; exact (show False from w').elim
      | some c =>
        rw [q] at w'
        exact ix_str value slice pins s σ H _ _ v u Q I rx ry ⟨zt, i, c, rfl, rfl, by rw [hl]; exact zz, q, PostE.now hr (.str _ (by show 1 ≤ line; decide)) w'⟩ hs
    | _ => exact (show False from w).elim
  | @ref a p ea =>
    have w' : WR (match h[a]? with
      | some (.lst xs) => match e with
        | .int i => match L2.atI xs i with
          | some v => .ok v h
          | none => .bad
        | _ => .bad
      | some (.dic kvs) => if (keyD e).isSome then match lookD e kvs with
        | some v => .ok v h
        | none => .bad
        else .bad
      | _ => .bad) (PostE X.K cl ρ H Q) z := by cases r2 <;> exact w
    cases eo : h[a]? with
    | none => rw [eo] at w'; exact (show False from w').elim
    | some o =>
      rw [eo] at w'
      cases o with
      | lst ds =>
        obtain ⟨vs, e3, t⟩ := obj_lst hr ea eo
        cases r2 with
        | int i => exact seqL rfl rfl (SqL.of e3) t w'
        | _ => exact (show False from w').elim
      | dic kvs =>
        obtain ⟨ks, e3, t⟩ := obj_dic hr ea eo
        dsimp only at w'
        by_cases hk : (keyD e).isSome = true
        · rw [if_pos hk] at w'
          obtain ⟨j, ej⟩ := Option.isSome_iff_exists.mp hk
          have ex := keyD_kV r2 ej
          subst ex
          have lr := look_rel (k := e) ej t
          cases q2 : lookD e kvs with
          | none => rw [q2] at w'; exact (show False from w').elim
          | some d2 =>
            rw [q2] at w'
            obtain ⟨v2, e4, r4⟩ := lr.1 d2 q2
            cases rx
            have g : DGet H p (kV j) (some v2) := by rw [← e4]; exact DGet.k e3
            exact tail_any (dict_typeIs I g) slot_dict_getitem.lookup (d_getItem hu I g ry fun uu s' I' r' => ⟨v2, H, I', r', PostE.now hr r4 w'⟩) hs
        · rw [if_neg hk] at w'; exact (show False from w').elim
      | ins _ _ => exact (show False from w').elim
  | _ => cases r2 <;> exact (show False from w).elim
/-! ### slices -/
theorem cut_rel {K : PySem.W.Frag} {ρ : Rho} {H : Hp} {ds : List D} {vs : List V} (t : Reps K ρ H ds vs) (lo hi : Option Int) : Reps K ρ H (cutD ds lo hi) (cutV vs lo hi) := by
  unfold cutD cutV
  rw [t.length]
  exact (t.drop _).take _
theorem cut_whole {vs : List V} {lo hi : Option Int} (h : HT.sIx vs.length 0 lo = 0 ∧ HT.sIx vs.length vs.length hi = vs.length) : cutV vs lo hi = vs := by
  unfold cutV
  rw [h.1, h.2, List.drop_zero, Nat.sub_zero, List.take_length]
def rSlc (K : PySem.W.Frag) (cl : Nat → Option Addr) : V → Option Int → Option Int → Hp → VK → Prop := fun x lo hi H Q => ∃ ρ h d z, HRel K cl ρ H h ∧ Rep K ρ H d x ∧ WR (slcD d lo hi h) (PostE K cl ρ H Q) z
theorem sl_all : SlR X (rSlc X.K cl) := by
  intro pins s σ H x v vl vu lo hi sl Q I rx hs pl pu h
  obtain ⟨ρ, h, d, z, hr, r1, w⟩ := h
  have hl : sizeLine = line := sizeLine_eq
  cases r1 with
  | @tup p ds vs s1 t =>
    refine sl_tupA pins s σ H _ v vl vu lo hi sl Q I rx hs pl pu ⟨p, vs, rfl, s1, fun e => ?_, fun _ q n => new_tup hr (cut_rel t lo hi) w q n⟩
    have t2 := cut_rel t lo hi
    rw [cut_whole e] at t2
    exact PostE.now hr (.tup s1 t2) w
  | str zt zz => exact sl_str pins s σ H _ v vl vu lo hi sl Q I rx hs pl pu ⟨zt, rfl, by rw [hl]; exact zz, PostE.now hr (.str _ (Nat.le_trans (cutS_length _ _ _) zz)) w⟩
  | @lck p ds vs s1 t => exact sl_list pins s σ H _ v vl vu lo hi sl Q I rx hs pl pu ⟨p, vs, rfl, s1.sql, fun q n => new_lst hr (cut_rel t lo hi) w q n⟩
  | @ref a p ea =>
    have w' : WR (match h[a]?.bind O.seq? with
      | some xs => R.new (.lst (cutD xs lo hi)) h
      | none => .bad) (PostE X.K cl ρ H Q) z := w
    cases eo : h[a]? with
    | none => rw [eo] at w'; exact (show False from w').elim
    | some o =>
      rw [eo] at w'
      cases o with
      | lst ds =>
        obtain ⟨vs, e3, t⟩ := obj_lst hr ea eo
        exact sl_list pins s σ H _ v vl vu lo hi sl Q I rx hs pl pu ⟨p, vs, rfl, SqL.of e3, fun q n => new_lst hr (cut_rel t lo hi) w' q n⟩
      | dic _ => exact (show False from w').elim
      | ins _ _ => exact (show False from w').elim
  | _ => exact (show False from w).elim
/-! ### truth -/
theorem tru_at {pins : List (Addr × Obj)} {s : Shared} {σ : L2.St} {H : Hp} {ρ : Rho} {h : Hh} {d : D} {x : V} {v : Value} {b : Bool} {Q : Bool → Hp → Prop} (I : Inv X pins σ H s) (hr : HRel X.K cl ρ H h) (r : Rep X.K ρ H d x) (rx : RelV x v) (q : truth d h = some b) (k : Q b H) :
    wpAny (model X.prog X.w) X.A (truthy v) (TP X pins σ Q) X.xe s := by
  have hl : sizeLine = line := sizeLine_eq
  refine tru_ok pins s σ H x v Q I rx ⟨b, ?_, k⟩
  have emp : ∀ {ds : List D} {vs : List V}, Reps X.K ρ H ds vs → (!ds.isEmpty) = !vs.isEmpty := fun t => by cases t <;> rfl
  cases r with
  | non => cases q; rfl
  | bl _ => cases q; rfl
  | int _ => cases q; rfl
  | str zt zz => cases q; exact ⟨by rw [hl]; exact zz, rfl⟩
  | tup s1 t => cases q; exact .inr (.inl ⟨_, s1, emp t⟩)
  | lck s1 t => cases q; exact .inl ⟨_, s1.sql, emp t⟩
  | @ref a p ea =>
    have q' : (match h[a]? with
      | some (.lst xs) => some (!xs.isEmpty)
      | some (.dic kvs) => some (!kvs.isEmpty)
      | _ => none) = some b := q
    cases eo : h[a]? with
    | none => rw [eo] at q'; cases q'
    | some o =>
      rw [eo] at q'
      cases o with
      | lst ds =>
        obtain ⟨vs, e3, t⟩ := obj_lst hr ea eo
        cases q'
        exact .inl ⟨vs, SqL.of e3, emp t⟩
      | dic kvs =>
        obtain ⟨ks, e3, t⟩ := obj_dic hr ea eo
        cases q'
        exact .inr (.inr ⟨ks, e3, by cases t <;> rfl⟩)
      | ins _ _ => cases q'
/-! ### isinstance -/
def tyName : Ty → String
  | .int => "int" | .bool => "bool" | .str => "str" | .tuple => "tuple" | .list => "list" | .dict => "dict" | .own _ => ""
def isOwn : Ty → Bool
  | .own _ => true
  | _ => false
/-- a value's type, as isinstance asks it -/
theorem ty_of {H : Hp} {ρ : Rho} {h : Hh} {d : D} {x : V} (hr : HRel X.K cl ρ H h) (r : Rep X.K ρ H d x) {t : Ty} {b : Bool} (q : isTy d h t = some b) :
    ∃ T : String, TyX X.K H x (.type T) ∧ (∀ t b, isTy d h t = some b → isOwn t = false ∧ kitB T (tyName t) = some b) := by
  have cst : ∀ {T : String} {f : Ty → Option Bool}, (∀ t b, f t = some b → isOwn t = false ∧ kitB T (tyName t) = some b) → (∀ t, isTy d h t = f t) → TyX X.K H x (.type T) → ∃ T : String, TyX X.K H x (.type T) ∧ (∀ t b, isTy d h t = some b → isOwn t = false ∧ kitB T (tyName t) = some b) :=
    fun {T f} h1 h2 h3 => ⟨T, h3, fun t b e => h1 t b ((h2 t).symm.trans e)⟩
  cases r with
  | non => exact ⟨"NoneType", .base .non, fun t b e => by cases t <;> cases e <;> exact ⟨rfl, by decide +kernel⟩⟩
  | bl c => exact ⟨"bool", .base (.bl c), fun t b e => by cases t <;> cases e <;> exact ⟨rfl, by decide +kernel⟩⟩
  | int i => exact ⟨"int", .base (.int i), fun t b e => by cases t <;> cases e <;> exact ⟨rfl, by decide +kernel⟩⟩
  | str zt zz => exact ⟨"str", .base (.str zt), fun t b e => by cases t <;> cases e <;> exact ⟨rfl, by decide +kernel⟩⟩
  | @tup p ds vs s1 t1 =>
    have ty : TyX X.K H (.ref p) (.type "tuple") := by
      rcases s1 with (s1 | ⟨o, s1⟩) | ⟨o, its, n, k, c, _⟩
      · exact .base (.tup s1)
      · exact .fTuple s1
      · exact .kTuple k c
    exact ⟨"tuple", ty, fun t b e => by cases t <;> cases e <;> exact ⟨rfl, by decide +kernel⟩⟩
  | @lck p ds vs s1 t1 =>
    have ty : TyX X.K H (.ref p) (.type "list") := by
      rcases s1 with ⟨o, s1⟩ | ⟨o, its, n, k, c, _⟩
      · exact .base (.frz s1)
      · exact .kList k c
    exact ⟨"list", ty, fun t b e => by cases t <;> cases e <;> exact ⟨rfl, by decide +kernel⟩⟩
  | @ref a p ea =>
    cases eo : h[a]? with
    | none => have : isTy (.ref a) h t = none := by simp [isTy, eo]
              rw [this] at q; cases q
    | some o =>
      cases o with
      | lst ds =>
        obtain ⟨vs, e3, _⟩ := obj_lst hr ea eo
        refine ⟨"list", .base (.lst e3), fun t b e => ?_⟩
        simp only [isTy, eo] at e
        cases t <;> cases e <;> exact ⟨rfl, by decide +kernel⟩
      | dic ds =>
        obtain ⟨vs, e3, _⟩ := obj_dic hr ea eo
        refine ⟨"dict", .base (.dK e3), fun t b e => ?_⟩
        simp only [isTy, eo] at e
        cases t <;> cases e <;> exact ⟨rfl, by decide +kernel⟩
      | ins c fs =>
        have : isTy (.ref a) h t = none := by simp [isTy, eo]
        rw [this] at q; cases q
end
end IX
end

section
set_option Elab.async false
set_option linter.all false
set_option maxRecDepth 100000
set_option maxHeartbeats 2000000
/-! IX7: built-in functions and methods. -/
namespace IX
open PySem PySem.Spec PyProof.Rows L2
section
variable {X : Cx} {cl : Nat → Option Addr}
def rBi (K : PySem.W.Frag) (cl : Nat → Option Addr) (b : Bi) : List V → Hp → VK → Prop := fun vs H Q => ∃ ρ h ds z, HRel K cl ρ H h ∧ Reps K ρ H ds vs ∧ WR (biD b ds h) (PostE K cl ρ H Q) z
theorem reps0 {K : PySem.W.Frag} {ρ : Rho} {H : Hp} {vs : List V} (t : Reps K ρ H [] vs) : vs = [] := by cases t; rfl
theorem reps1 {K : PySem.W.Frag} {ρ : Rho} {H : Hp} {d : D} {vs : List V} (t : Reps K ρ H [d] vs) : ∃ v, vs = [v] ∧ Rep K ρ H d v := by
  cases t with
  | cons a t => cases t; exact ⟨_, rfl, a⟩
theorem reps2 {K : PySem.W.Frag} {ρ : Rho} {H : Hp} {d e : D} {vs : List V} (t : Reps K ρ H [d, e] vs) : ∃ v u, vs = [v, u] ∧ Rep K ρ H d v ∧ Rep K ρ H e u := by
  cases t with
  | cons a t =>
    obtain ⟨u, rfl, b⟩ := reps1 t
    exact ⟨_, _, rfl, a, b⟩
theorem bi_len : CallR X (.builtin "len") (rBi X.K cl .len) := by
  intro pins s σ H xs us Q I r h
  obtain ⟨ρ, h, ds, z, hr, t, w⟩ := h
  have hl : sizeLine = line := sizeLine_eq
  match ds, t, w with
  | [], t, w => exact (show False from w).elim
  | _ :: _ :: _, t, w => cases t; rename_i d _ _ _ _ _ _; cases d <;> exact (show False from w).elim
  | [d], t, w =>
    obtain ⟨v, rfl, a⟩ := reps1 t
    cases a with
    | str zt zz => exact call_len pins s σ H _ us Q I r ⟨_, zt.length, rfl, ⟨by rw [hl]; exact zz, rfl⟩, PostE.now hr (.int _) w⟩
    | @tup p ds vs s1 t1 => exact call_len pins s σ H _ us Q I r ⟨_, ds.length, rfl, .inr ⟨vs, s1, t1.length⟩, PostE.now hr (.int _) w⟩
    | @lck p ds vs s1 t1 => exact call_len pins s σ H _ us Q I r ⟨_, ds.length, rfl, .inl ⟨vs, s1.sql, t1.length⟩, PostE.now hr (.int _) w⟩
    | @ref a p ea =>
      have w' : WR (match h[a]? with
        | some (.lst xs) => .ok (.int xs.length) h
        | some (.dic kvs) => .ok (.int kvs.length) h
        | _ => .bad) (PostE X.K cl ρ H Q) z := w
      cases eo : h[a]? with
      | none => rw [eo] at w'; exact (show False from w').elim
      | some o =>
        rw [eo] at w'
        cases o with
        | lst ds =>
          obtain ⟨vs, e3, t1⟩ := obj_lst hr ea eo
          exact call_len pins s σ H _ us Q I r ⟨_, ds.length, rfl, .inl ⟨vs, SqL.of e3, t1.length⟩, PostE.now hr (.int _) w'⟩
        | dic ds =>
          obtain ⟨vs, e3, t1⟩ := obj_dic hr ea eo
          exact call_lenD pins s σ H _ us Q I r ⟨p, vs, rfl, e3, by rw [← t1.length]; exact PostE.now hr (.int _) w'⟩
        | ins _ _ => exact (show False from w').elim
    | _ => exact (show False from w).elim
theorem bi_max (hc : X.calm = true) : CallR X (.builtin "max") (rBi X.K cl .max) := by
  intro pins s σ H xs us Q I r h
  obtain ⟨ρ, h, ds, z, hr, t, w⟩ := h
  match ds, t, w with
  | [.int i, .int j], t, w =>
    obtain ⟨v, u, rfl, a, b⟩ := reps2 t
    cases a; cases b
    exact call_max2 hc pins s σ H _ us Q I r ⟨i, j, rfl, PostE.now hr (.int _) w⟩
theorem bi_min (hc : X.calm = true) : CallR X (.builtin "min") (rBi X.K cl .min) := by
  intro pins s σ H xs us Q I r h
  obtain ⟨ρ, h, ds, z, hr, t, w⟩ := h
  match ds, t, w with
  | [.int i, .int j], t, w =>
    obtain ⟨v, u, rfl, a, b⟩ := reps2 t
    cases a; cases b
    exact call_min2 hc pins s σ H _ us Q I r ⟨i, j, rfl, PostE.now hr (.int _) w⟩
theorem bi_int : CallR X (.type "int") (rBi X.K cl .int) := by
  intro pins s σ H xs us Q I r h
  obtain ⟨ρ, h, ds, z, hr, t, w⟩ := h
  match ds, t, w with
  | [.int i], t, w =>
    obtain ⟨v, rfl, a⟩ := reps1 t
    cases a
    exact call_int1 pins s σ H _ us Q I r (.inl ⟨i, rfl, PostE.now hr (.int _) w⟩)
  | [.bl k], t, w =>
    obtain ⟨v, rfl, a⟩ := reps1 t
    cases a
    exact call_int1 pins s σ H _ us Q I r (.inr ⟨k, rfl, PostE.now hr (.int _) w⟩)
  | [.str x], t, w =>
    obtain ⟨v, rfl, a⟩ := reps1 t
    cases a
    have w' : WR (match PySem.intText? x with
      | some n => if x.length ≤ 640 then R.ok (.int n) h else .bad
      | none => .bad) (PostE X.K cl ρ H Q) z := w
    cases q : PySem.intText? x with
    | none => rw [q] at w'; exact (show False from w').elim
    | some n =>
      rw [q] at w'
      dsimp only at w'
      by_cases c : x.length ≤ 640
      · rw [if_pos c] at w'
        exact call_int_str pins s σ H _ us Q I r ⟨x, n, rfl, q, c, PostE.now hr (.int _) w'⟩
      · rw [if_neg c] at w'; exact (show False from w').elim
theorem bi_str : CallR X (.type "str") (rBi X.K cl .str) := by
  intro pins s σ H xs us Q I r h
  obtain ⟨ρ, h, ds, z, hr, t, w⟩ := h
  match ds, t, w with
  | [.int i], t, w =>
    obtain ⟨v, rfl, a⟩ := reps1 t
    cases a
    have w' : WR (if i.natAbs.log2 < 1920 then strD (toString i) h else .bad) (PostE X.K cl ρ H Q) z := w
    by_cases c : i.natAbs.log2 < 1920
    · rw [if_pos c] at w'
      unfold strD at w'
      split at w'
      · rename_i c2
        exact call_str_int pins s σ H _ us Q I r ⟨i, rfl, c, PostE.now hr (.str _ c2) w'⟩
      · exact (show False from w').elim
    · rw [if_neg c] at w'; exact (show False from w').elim
  | [.str x], t, w =>
    obtain ⟨v, rfl, a⟩ := reps1 t
    cases a with
    | str _ zz =>
      obtain ⟨u, rfl, tk, rfl⟩ := vals1 r
      exact PySem.P.str_of_str ⟨.str x, H, I, ⟨tk, rfl⟩, PostE.now hr (.str _ zz) w⟩
theorem bi_list : CallR X (.type "list") (rBi X.K cl .list) := by
  intro pins s σ H xs us Q I r h
  obtain ⟨ρ, h, ds, z, hr, t, w⟩ := h
  match ds, t, w with
  | [], t, w => exact (show False from w).elim
  | _ :: _ :: _, t, w => cases t; rename_i d _ _ _ _ _ _; cases d <;> exact (show False from w).elim
  | [d], t, w =>
    obtain ⟨v, rfl, a⟩ := reps1 t
    have byL : ∀ {m : R D}, biD .list [d] h = m → (m = match listD d h with
      | some xs => R.new (.lst xs) h
      | none => .bad) → wpAny (model X.prog X.w) X.A (call (.type "list") us) (EP X pins σ Q) X.xe s := fun {m} e1 e2 => by
      have w1 : WR (biD .list [d] h) (PostE X.K cl ρ H Q) z := w
      rw [e1, e2] at w1
      cases q : listD d h with
      | none => rw [q] at w1; exact (show False from w1).elim
      | some ds =>
        rw [q] at w1
        obtain ⟨p, vs, rfl, sq, t1⟩ := listD_rel hr a q
        exact call_list_of pins s σ H _ us Q I r ⟨p, vs, rfl, .inl sq, fun l n => new_lst hr t1 w1 l n⟩
    cases a with
    | @tup p ds vs s1 t1 => exact call_list_of pins s σ H _ us Q I r ⟨p, vs, rfl, .inr s1, fun l n => new_lst hr t1 w l n⟩
    | _ => exact byL rfl rfl
theorem bi_tuple : CallR X (.type "tuple") (rBi X.K cl .tuple) := by
  intro pins s σ H xs us Q I r h
  obtain ⟨ρ, h, ds, z, hr, t, w⟩ := h
  match ds, t, w with
  | [], t, w => exact (show False from w).elim
  | _ :: _ :: _, t, w => cases t; rename_i d _ _ _ _ _ _; cases d <;> exact (show False from w).elim
  | [d], t, w =>
    obtain ⟨v, rfl, a⟩ := reps1 t
    have byL : ∀ {m : R D}, biD .tuple [d] h = m → (m = match listD d h with
      | some xs => R.ok (.tup xs) h
      | none => .bad) → wpAny (model X.prog X.w) X.A (call (.type "tuple") us) (EP X pins σ Q) X.xe s := fun {m} e1 e2 => by
      have w1 : WR (biD .tuple [d] h) (PostE X.K cl ρ H Q) z := w
      rw [e1, e2] at w1
      cases q : listD d h with
      | none => rw [q] at w1; exact (show False from w1).elim
      | some ds =>
        rw [q] at w1
        obtain ⟨p, vs, rfl, sq, t1⟩ := listD_rel hr a q
        exact call_tuple_of pins s σ H _ us Q I r ⟨p, vs, rfl, .inl ⟨sq, fun l n => new_tup hr t1 w1 l n⟩⟩
    cases a with
    | @tup p ds vs s1 t1 => exact call_tuple_of pins s σ H _ us Q I r ⟨p, vs, rfl, .inr ⟨s1, PostE.now hr (.tup s1 t1) w⟩⟩
    | _ => exact byL rfl rfl
theorem bi_dict : CallR X (.type "dict") (rBi X.K cl .dict) := by
  intro pins s σ H xs us Q I r h
  obtain ⟨ρ, h, ds, z, hr, t, w⟩ := h
  match ds, t, w with
  | [], t, w => exact (show False from w).elim
  | _ :: _ :: _, t, w => cases t; rename_i d _ _ _ _ _ _; cases d <;> exact (show False from w).elim
  | [d], t, w =>
    obtain ⟨v, rfl, a⟩ := reps1 t
    cases a with
    | @ref a p ea =>
      have w' : WR (match h[a]? with
        | some (.dic kvs) => R.new (.dic kvs) h
        | _ => .bad) (PostE X.K cl ρ H Q) z := w
      cases eo : h[a]? with
      | none => rw [eo] at w'; exact (show False from w').elim
      | some o =>
        rw [eo] at w'
        cases o with
        | dic kvs =>
          obtain ⟨vs, e3, t1⟩ := obj_dic hr ea eo
          exact call_dictD pins s σ H _ us Q I r ⟨p, vs, rfl, .inl e3, fun q n => new_dic hr t1 w' q n⟩
        | lst _ => exact (show False from w').elim
        | ins _ _ => exact (show False from w').elim
    | _ => exact (show False from w).elim
theorem allBl_rel {K : PySem.W.Frag} {ρ : Rho} {H : Hp} : ∀ {ds : List D} {vs : List V} {b : Bool}, Reps K ρ H ds vs → allBl ds = some b → ∃ bs : List Bool, vs = bs.map V.bl ∧ bs.all id = b
  | [], _, b, t, q => by cases t; cases q; exact ⟨[], rfl, rfl⟩
  | .bl c :: ds, _, b, .cons a t, q => by
    cases a
    have q' : (allBl ds).map (fun d => c && d) = some b := q
    cases q2 : allBl ds with
    | none => rw [q2] at q'; cases q'
    | some c2 =>
      rw [q2] at q'
      obtain ⟨bs, rfl, e⟩ := allBl_rel t q2
      exact ⟨c :: bs, rfl, by rw [List.all_cons, e]; exact Option.some.inj q'⟩
theorem bi_all (hc : X.calm = true) : CallR X (.builtin "all") (rBi X.K cl .all) := by
  intro pins s σ H xs us Q I r h
  obtain ⟨ρ, h, ds, z, hr, t, w⟩ := h
  match ds, t, w with
  | [.ref a], t, w =>
    obtain ⟨v, rfl, q⟩ := reps1 t
    cases q with
    | @ref _ p ea =>
      have w' : WR (match h[a]? with
        | some (.lst xs) => bl! (allBl xs) h
        | _ => .bad) (PostE X.K cl ρ H Q) z := w
      cases eo : h[a]? with
      | none => rw [eo] at w'; exact (show False from w').elim
      | some o =>
        rw [eo] at w'
        cases o with
        | lst ds =>
          obtain ⟨vs, e3, t1⟩ := obj_lst hr ea eo
          obtain ⟨b, q, k⟩ := wr_bl hr w'
          obtain ⟨bs, rfl, e⟩ := allBl_rel t1 q
          exact cr_all hc pins s σ H _ us Q I r ⟨p, bs, rfl, SqL.of e3, by rw [e]; exact k⟩
        | dic _ => exact (show False from w').elim
        | ins _ _ => exact (show False from w').elim
/-! ### methods -/
def rMe (K : PySem.W.Frag) (cl : Nat → Option Addr) (m : Me) : V → List V → Hp → VK → Prop := fun v vs H Q => ∃ ρ h d ds z, HRel K cl ρ H h ∧ Rep K ρ H d v ∧ Reps K ρ H ds vs ∧ WR (meD m d ds h) (PostE K cl ρ H Q) z
theorem reps_strs {K : PySem.W.Frag} {ρ : Rho} {H : Hp} : ∀ (ys : List Str), (∀ y ∈ ys, y.length ≤ line) → Reps K ρ H (ys.map D.str) (ys.map V.str)
  | [], _ => .nil
  | y :: ys, h => .cons (.str y (h y List.mem_cons_self)) (reps_strs ys fun z hz => h z (List.mem_cons_of_mem _ hz))
theorem strsD_rel {K : PySem.W.Frag} {ρ : Rho} {H : Hp} : ∀ {ds : List D} {vs : List V} {ys : List Str}, Reps K ρ H ds vs → strsD ds = some ys → vs = ys.map V.str
  | [], _, ys, t, q => by cases t; cases q; rfl
  | .str x :: ds, _, ys, .cons a t, q => by
    cases a
    have q' : (strsD ds).map (fun c => x :: c) = some ys := q
    cases q2 : strsD ds with
    | none => rw [q2] at q'; cases q'
    | some c =>
      rw [q2] at q'
      cases q'
      rw [strsD_rel t q2]
      rfl
theorem me_split : MtR X "str.split" (rMe X.K cl .split) := by
  intro pins s σ H x xs v us Q I rx r h
  obtain ⟨ρ, h, d, ds, z, hr, a, t, w⟩ := h
  have hl : sizeLine = line := sizeLine_eq
  match d, ds, a, t, w with
  | .str x1, [.str y1], a, t, w =>
    cases a
    obtain ⟨u, rfl, b⟩ := reps1 t
    cases b
    have w' : WR (if y1.length ≠ 0 ∧ x1.length + 2 ≤ line ∧ (∀ y ∈ Txt.split x1 y1, y.length ≤ line) then R.new (.lst ((Txt.split x1 y1).map D.str)) h else .bad) (PostE X.K cl ρ H Q) z := w
    by_cases c : y1.length ≠ 0 ∧ x1.length + 2 ≤ line ∧ (∀ y ∈ Txt.split x1 y1, y.length ≤ line)
    · rw [if_pos c] at w'
      exact mt_split pins s σ H _ _ v us Q I rx r ⟨x1, y1, rfl, rfl, by simpa using c.1, by rw [hl]; exact c.2.1, fun p n => new_lst hr (reps_strs _ c.2.2) w' p n⟩
    · rw [if_neg c] at w'; exact (show False from w').elim
theorem me_join : MtR X "str.join" (rMe X.K cl .join) := by
  intro pins s σ H x xs v us Q I rx r h
  obtain ⟨ρ, h, d, ds, z, hr, a, t, w⟩ := h
  match d, ds, a, t, w with
  | .str x1, [.ref l], a, t, w =>
    cases a
    obtain ⟨u, rfl, b⟩ := reps1 t
    cases b with
    | @ref _ p ea =>
      have w' : WR (match h[l]? with
        | some (.lst xs) => match strsD xs with
          | some ys => if (ys.map (·.length)).sum + ys.length * x1.length ≤ line then strD (Txt.join x1 ys) h else .bad
          | none => .bad
        | _ => .bad) (PostE X.K cl ρ H Q) z := w
      cases eo : h[l]? with
      | none => rw [eo] at w'; exact (show False from w').elim
      | some o =>
        rw [eo] at w'
        cases o with
        | lst ds =>
          obtain ⟨vs, e3, t1⟩ := obj_lst hr ea eo
          dsimp only at w'
          cases q : strsD ds with
          | none => rw [q] at w'; exact (show False from w').elim
          | some ys =>
            rw [q] at w'
            have ev := strsD_rel t1 q
            subst ev
            dsimp only at w'
            by_cases c : (ys.map (·.length)).sum + ys.length * x1.length ≤ line
            · rw [if_pos c] at w'
              unfold strD at w'
              split at w'
              · rename_i c2
                exact mt_join pins s σ H _ _ v us Q I rx r ⟨x1, p, ys, rfl, rfl, .inl (SqL.of e3), c, PostE.now hr (.str _ c2) w'⟩
              · exact (show False from w').elim
            · rw [if_neg c] at w'; exact (show False from w').elim
        | dic _ => exact (show False from w').elim
        | ins _ _ => exact (show False from w').elim
theorem me_upper : MtR X "str.upper" (rMe X.K cl .upper) := by
  intro pins s σ H x xs v us Q I rx r h
  obtain ⟨ρ, h, d, ds, z, hr, a, t, w⟩ := h
  match d, ds, a, t, w with
  | .str x1, [], a, t, w =>
    cases a
    cases t
    have w' : WR (if x1.length ≤ 5592405 then strD (Txt.upper x1) h else .bad) (PostE X.K cl ρ H Q) z := w
    by_cases c : x1.length ≤ 5592405
    · rw [if_pos c] at w'
      unfold strD at w'
      split at w'
      · rename_i c2
        exact mt_upper pins s σ H _ _ v us Q I rx r ⟨x1, rfl, rfl, c, PostE.now hr (.str _ c2) w'⟩
      · exact (show False from w').elim
    · rw [if_neg c] at w'; exact (show False from w').elim
/-- a list is rewritten -/
theorem put_lst {K : PySem.W.Frag} {ρ : Rho} {H : Hp} {h : Hh} {a : Nat} {p : Addr} {us vs : List V} {ds : List D} {Q : VK} {x : Nat → List (Str × D) → Hh → Prop} (hr : HRel K cl ρ H h) (ea : ρ[a]? = some p) (e : H p = some (.lst us)) (t : Reps K ρ H ds vs)
    (w : WR (R.ok D.non (h.set a (.lst ds))) (PostE K cl ρ H Q) x) : Q .non (upd H p (.lst vs)) := by
  have kp : Keep K ρ H ρ (upd H p (.lst vs)) := Keep.wr ea (Soft.lst e)
  exact w ρ _ .non kp (hr.write ea (Soft.lst e) ⟨vs, upd_same, t.keep kp⟩) .non
theorem put_dic {K : PySem.W.Frag} {ρ : Rho} {H : Hp} {h : Hh} {a : Nat} {p : Addr} {us vs : List (Key × V)} {ds : List (D × D)} {Q : VK} {x : Nat → List (Str × D) → Hh → Prop} (hr : HRel K cl ρ H h) (ea : ρ[a]? = some p) (e : H p = some (.dK us)) (t : RepK K ρ H ds vs)
    (w : WR (R.ok D.non (h.set a (.dic ds))) (PostE K cl ρ H Q) x) : Q .non (upd H p (.dK vs)) := by
  have kp : Keep K ρ H ρ (upd H p (.dK vs)) := Keep.wr ea (Soft.dK e)
  exact w ρ _ .non kp (hr.write ea (Soft.dK e) ⟨vs, upd_same, t.keep kp⟩) .non
theorem me_append : MtR X "list.append" (rMe X.K cl .append) := by
  intro pins s σ H x xs v us Q I rx r h
  obtain ⟨ρ, h, d, ds, z, hr, a, t, w⟩ := h
  have hl : sizeLine = line := sizeLine_eq
  match d, ds, a, t, w with
  | .ref l, [y], a, t, w =>
    obtain ⟨u, rfl, b⟩ := reps1 t
    cases a with
    | @ref _ p ea =>
      have w' : WR (match h[l]? with
        | some (.lst xs) => if xs.length < line then R.ok .non (h.set l (.lst (xs ++ [y]))) else .bad
        | _ => .bad) (PostE X.K cl ρ H Q) z := w
      cases eo : h[l]? with
      | none => rw [eo] at w'; exact (show False from w').elim
      | some o =>
        rw [eo] at w'
        cases o with
        | lst ds =>
          obtain ⟨vs, e3, t1⟩ := obj_lst hr ea eo
          dsimp only at w'
          by_cases c : ds.length < line
          · rw [if_pos c] at w'
            exact mt_append pins s σ H _ _ v us Q I rx r ⟨p, vs, u, rfl, rfl, e3, by rw [← t1.length, hl]; exact c, put_lst hr ea e3 (t1.append (.cons b .nil)) w'⟩
          · rw [if_neg c] at w'; exact (show False from w').elim
        | dic _ => exact (show False from w').elim
        | ins _ _ => exact (show False from w').elim
theorem me_insert : MtR X "list.insert" (rMe X.K cl .insert) := by
  intro pins s σ H x xs v us Q I rx r h
  obtain ⟨ρ, h, d, ds, z, hr, a, t, w⟩ := h
  have hl : sizeLine = line := sizeLine_eq
  match d, ds, a, t, w with
  | .ref l, [.int i, y], a, t, w =>
    obtain ⟨u0, u, rfl, b0, b⟩ := reps2 t
    cases b0
    cases a with
    | @ref _ p ea =>
      have w' : WR (match h[l]? with
        | some (.lst xs) => if xs.length < line ∧ 0 ≤ i ∧ i < 2 ^ 63 then R.ok .non (h.set l (.lst (xs.take i.toNat ++ [y] ++ xs.drop i.toNat))) else .bad
        | _ => .bad) (PostE X.K cl ρ H Q) z := w
      cases eo : h[l]? with
      | none => rw [eo] at w'; exact (show False from w').elim
      | some o =>
        rw [eo] at w'
        cases o with
        | lst ds =>
          obtain ⟨vs, e3, t1⟩ := obj_lst hr ea eo
          dsimp only at w'
          by_cases c : ds.length < line ∧ 0 ≤ i ∧ i < 2 ^ 63
          · rw [if_pos c] at w'
            exact mt_insert pins s σ H _ _ v us Q I rx r ⟨p, vs, i, u, rfl, rfl, e3, by rw [← t1.length, hl]; exact c.1, c.2.1, c.2.2, put_lst hr ea e3 (((t1.take _).append (.cons b .nil)).append (t1.drop _)) w'⟩
          · rw [if_neg c] at w'; exact (show False from w').elim
        | dic _ => exact (show False from w').elim
        | ins _ _ => exact (show False from w').elim
end
end IX
end

section
set_option Elab.async false
set_option linter.all false
set_option maxRecDepth 100000
set_option maxHeartbeats 2000000
/-! IXs: sorted, of texts. -/
namespace IX
open PySem PySem.Spec PyProof.Rows L2
/-- x stands not behind y -/
def leS (x y : Str) : Prop := ltS y x = false
theorem ltS_iff {x y : Str} : ltS x y = true ↔ x.cps.toList < y.cps.toList := by unfold ltS; exact decide_eq_true_iff
theorem leS_iff {x y : Str} : leS x y ↔ ¬ y.cps.toList < x.cps.toList := by unfold leS ltS; exact decide_eq_false_iff_not
theorem leS_trans {x y z : Str} (a : leS x y) (b : leS y z) : leS x z := by
  rw [leS_iff] at *
  exact List.not_lt.mpr (List.le_trans (List.not_lt.mp a) (List.not_lt.mp b))
theorem leS_total {x y : Str} : leS x y ∨ leS y x := by
  rw [leS_iff, leS_iff]
  by_cases h : y.cps.toList < x.cps.toList
  · exact .inr (List.lt_asymm h)
  · exact .inl h
theorem leS_anti {x y : Str} (a : leS x y) (b : leS y x) : x = y := by
  rw [leS_iff] at *
  have := List.le_antisymm (List.not_lt.mp a) (List.not_lt.mp b)
  exact PySem.Str.ext' (by have := congrArg List.toArray this; simpa using this)
theorem insS_perm (x : Str) : ∀ l : List Str, (insS x l).Perm (x :: l)
  | [] => List.Perm.refl _
  | y :: r => by
    unfold insS
    by_cases h : ltS y x = true
    · rw [if_pos h]; exact ((insS_perm x r).cons y).trans (List.Perm.swap x y r)
    · rw [if_neg h]
theorem sortS_perm : ∀ l : List Str, (sortS l).Perm l
  | [] => List.Perm.refl _
  | x :: r => (insS_perm x (sortS r)).trans ((sortS_perm r).cons x)
theorem insS_pair (x : Str) : ∀ {l : List Str}, l.Pairwise leS → (insS x l).Pairwise leS
  | [], _ => List.pairwise_singleton _ _
  | y :: r, h => by
    have h' := List.pairwise_cons.mp h
    unfold insS
    by_cases q : ltS y x = true
    · rw [if_pos q]
      refine List.pairwise_cons.mpr ⟨fun z hz => ?_, insS_pair x h'.2⟩
      rcases List.mem_cons.mp ((insS_perm x r).mem_iff.mp hz) with rfl | hz
      · rw [leS_iff]; exact List.lt_asymm (ltS_iff.mp q)
      · exact h'.1 z hz
    · rw [if_neg q]
      have xy : leS x y := by
        unfold leS
        exact Bool.eq_false_iff.mpr q
      refine List.pairwise_cons.mpr ⟨fun z hz => ?_, h⟩
      rcases List.mem_cons.mp hz with rfl | hz
      · exact xy
      · exact leS_trans xy (h'.1 z hz)
theorem sortS_pair : ∀ l : List Str, (sortS l).Pairwise leS
  | [] => List.Pairwise.nil
  | x :: r => insS_pair x (sortS_pair r)
theorem rising_pair : ∀ (p : Str) (l : List Str), risingS p l = true → (p :: l).Pairwise leS
  | p, [], _ => List.pairwise_singleton _ _
  | p, x :: r, h => by
    have h' : (!ltCps x.cps.toList p.cps.toList && risingS x r) = true := h
    rw [Bool.and_eq_true, Bool.not_eq_true', ltCps_eq] at h'
    have ih := rising_pair x r h'.2
    have px : leS p x := h'.1
    refine List.pairwise_cons.mpr ⟨fun z hz => ?_, ih⟩
    rcases List.mem_cons.mp hz with rfl | hz
    · exact px
    · exact leS_trans px ((List.pairwise_cons.mp ih).1 z hz)
theorem sorted_is {ys xs : List Str} (p : ys.Perm xs) (h : sortedS ys = true) : ys = sortS xs := by
  have hp : ys.Pairwise leS := by
    cases ys with
    | nil => exact List.Pairwise.nil
    | cons x r => exact rising_pair x r h
  exact List.Perm.eq_of_pairwise (fun a b _ _ => leS_anti) hp (sortS_pair xs) (p.trans (sortS_perm xs).symm)
theorem strsD_len {K : PySem.W.Frag} {ρ : Rho} {H : Hp} : ∀ {ds : List D} {vs : List V} {ys : List Str}, Reps K ρ H ds vs → strsD ds = some ys → ∀ y ∈ ys, y.length ≤ line
  | [], _, ys, t, q, y, hy => by cases q; cases hy
  | .str x :: ds, _, ys, .cons a t, q, y, hy => by
    have q' : (strsD ds).map (fun c => x :: c) = some ys := q
    cases e : strsD ds with
    | none => rw [e] at q'; cases q'
    | some zs =>
      rw [e] at q'
      cases q'
      rcases List.mem_cons.mp hy with rfl | hy
      · cases a with
        | str _ z => exact z
      · exact strsD_len t e y hy
  | .non :: _, _, _, _, q, _, _ => by cases q
  | .bl _ :: _, _, _, _, q, _, _ => by cases q
  | .int _ :: _, _, _, _, q, _, _ => by cases q
  | .tup _ :: _, _, _, _, q, _, _ => by cases q
  | .lck _ :: _, _, _, _, q, _, _ => by cases q
  | .ref _ :: _, _, _, _, q, _, _ => by cases q
section
variable {X : Cx} {cl : Nat → Option Addr}
theorem bi_sorted : CallR X (.builtin "sorted") (rBi X.K cl .sorted) := by
  intro pins s σ H vs us Q I r ⟨ρ, h, ds, z, hr, t, w⟩
  match ds, t, w with
  | [.ref a], t, w =>
    obtain ⟨v, rfl, b⟩ := reps1 t
    cases b with
    | @ref _ p ea =>
      have w' : WR (match h[a]? with
        | some (.lst xs) => (match strsD xs with
          | some ys => if ys.length < 64 then R.new (.lst ((sortS ys).map D.str)) h else .bad
          | none => .bad)
        | _ => .bad) (PostE X.K cl ρ H Q) z := w
      cases eo : h[a]? with
      | none => rw [eo] at w'; exact (show False from w').elim
      | some o =>
        rw [eo] at w'
        cases o with
        | lst ds =>
          obtain ⟨vs, e3, t1⟩ := obj_lst hr ea eo
          dsimp only at w'
          cases es : strsD ds with
          | none => rw [es] at w'; exact (show False from w').elim
          | some ys =>
            rw [es] at w'
            dsimp only at w'
            by_cases c : ys.length < 64
            · rw [if_pos c] at w'
              have ev := strsD_rel t1 es
              have el := strsD_len t1 es
              subst ev
              refine cr_sortedS pins s σ H _ us Q I r ⟨p, ys, rfl, SqL.of e3, c, fun ys' q hp hs hq => ?_⟩
              have e := sorted_is hp hs
              subst e
              refine new_lst hr (reps_strs _ fun y hy => ?_) w' q hq
              have my := (sortS_perm ys).mem_iff.mp hy
              exact el y my
            · rw [if_neg c] at w'; exact (show False from w').elim
        | dic _ => exact (show False from w').elim
        | ins _ _ => exact (show False from w').elim
end
end IX
end

section
set_option Elab.async false
set_option linter.all false
set_option maxRecDepth 100000
set_option maxHeartbeats 2000000
/-! IX8: from the text to the code. -/
namespace IX
open PySem PySem.Spec PyProof.Rows L2

/-- what a name of the module is: a def, a class, a constant; none: a built-in name -/
inductive GK where
  | fn (f : Nat) | cls (c : Nat) | cst (d : D)
structure Gam where
  glob : Str → Option GK
  meth : Str → Option Nat
def notStar : Expr → Bool
  | .Starred _ _ => false
  | _ => true
def notComp : Expr → Bool
  | .ListComp _ _ _ _ => false | .SetComp _ _ _ _ => false | .DictComp _ _ _ _ _ => false
  | _ => true
def notSl : Expr → Bool
  | .Slice _ _ _ _ => false
  | _ => true
def notSet : Expr → Bool
  | .Set _ _ _ => false
  | _ => true
def notSup : Expr → Bool
  | .Call (.Name _ _) [] [] _ => false
  | _ => true
/-- a test that is a value's truth -/
def plainT : Expr → Bool
  | .UnaryOp .Not _ _ => false | .BoolOp _ _ _ => false | .IfExp _ _ _ _ => false | .Compare _ _ _ _ => false
  | _ => true
def place (x : Str) : List Str → Option Nat
  | [] => none
  | y :: r => if y = x then some 0 else (place x r).map (· + 1)
def isLoc : Option NameKind → Bool
  | some .local => true | some .cell => true
  | _ => false
def isVis : Option NameKind → Bool
  | some .local => true | some .cell => true | some .free => true
  | _ => false
def isGl : Option NameKind → Bool
  | some .globalImplicit => true
  | _ => false
def okName (x : Str) : Bool := !(x == ("__debug__" : Str)) && !(x == ("__classdict__" : Str)) && !decide (x = ("__name__" : Str))
def opOf : Operator → Option Op
  | .Add => some .add | .Sub => some .sub | .Mult => some .mul | .FloorDiv => some .fdiv | .Mod => some .mod | .Pow => some .pow
  | _ => none
def cmpOf : CmpOp → Option Op
  | .Eq => some .eq | .NotEq => some .ne | .Lt => some .lt | .LtE => some .le | .Gt => some .gt | .GtE => some .ge
  | .In => some .isin | .NotIn => some .notin | .Is => some .is_ | .IsNot => some .isnot
def compL (f : Expr → Option E) : List Expr → Option E
  | [] => some .nil
  | e :: r => if notStar e = true then match f e, compL f r with
    | some a, some b => some (.cons a b)
    | _, _ => none
    else none
/-- the pairs of a display -/
def compD (f : Expr → Option E) : List (Option Expr) → List Expr → Option E
  | [], [] => some .nil
  | some k :: ks, v :: vs => match f k, f v, compD f ks vs with
    | some a, some b, some c => some (.cons a (.cons b c))
    | _, _, _ => none
  | _, _ => none
def compB (f : Expr → Option E) (k : E → E → E) : List Expr → Option E
  | [] => none
  | [a] => f a
  | a :: b :: r => match f a, compB f k (b :: r) with
    | some x, some y => some (k x y)
    | _, _ => none
def compN (N : List Str) (sc : Scope) : Expr → Option Nat
  | .Name x _ => if isLoc (sc.names.lookup x) = true then place x N else none
  | _ => none
def compNs (N : List Str) (sc : Scope) : List Expr → Option (List Nat)
  | [] => some []
  | e :: r => match compN N sc e, compNs N sc r with
    | some i, some is => some (i :: is)
    | _, _ => none
def compT (N : List Str) (sc : Scope) : Expr → Option (List Nat × Bool)
  | .Name x p => (compN N sc (.Name x p)).map fun i => ([i], false)
  | .Tuple es _ _ => (compNs N sc es).map fun is => (is, true)
  | _ => none
def ownOf : Expr → List Str
  | .Name x _ => [x]
  | .Tuple es _ _ => es.filterMap fun e => match e with
    | .Name x _ => some x
    | _ => none
  | _ => []
def tyOf (G : Gam) (sc : Scope) : Expr → Option Ty
  | .Name x _ => if isGl (sc.names.lookup x) = true then match G.glob x with
      | some (.cls c) => some (.own c)
      | some _ => none
      | none => if x = ("int" : Str) then some .int else if x = ("bool" : Str) then some .bool else if x = ("str" : Str) then some .str
          else if x = ("tuple" : Str) then some .tuple else if x = ("list" : Str) then some .list else if x = ("dict" : Str) then some .dict else none
    else none
  | _ => none
def biOf (x : Str) : Option Bi :=
  if x = ("len" : Str) then some .len else if x = ("max" : Str) then some .max else if x = ("min" : Str) then some .min else if x = ("int" : Str) then some .int
  else if x = ("str" : Str) then some .str else if x = ("list" : Str) then some .list else if x = ("tuple" : Str) then some .tuple else if x = ("all" : Str) then some .all
  else if x = ("sorted" : Str) then some .sorted else if x = ("dict" : Str) then some .dict
  else none
def meOf (x : Str) : Option Me :=
  if x = ("split" : Str) then some .split else if x = ("join" : Str) then some .join else if x = ("upper" : Str) then some .upper else if x = ("append" : Str) then some .append
  else if x = ("insert" : Str) then some .insert else if x = ("get" : Str) then some .get else if x = ("clear" : Str) then some .clear
  else none
def optE (f : Expr → Option E) : Option Expr → Option E
  | none => some .nil
  | some e => match f e with
    | some .nil => none
    | some c => some c
    | none => none
def plainIt : E → Bool
  | .rng1 _ => false | .rng2 _ _ => false | .enum _ => false | .zip _ _ => false
  | _ => true
def enOk (i : E) (tp : Bool) : Bool := match i with
  | .enum _ => tp
  | _ => true
def okIt (o : Option E) : Option E := match o with
  | some c => if plainIt c = true then some c else none
  | none => none
def compI (f : Expr → Option E) (G : Gam) (sc : Scope) : Expr → Option E
  | .Call (.Name x p) args [] pos => if isGl (sc.names.lookup x) = true ∧ okName x = true then (match G.glob x with
      | none => if x = ("range" : Str) then (match args with
          | [a] => if notStar a = true then (f a).map .rng1 else none
          | [a, b] => if notStar a = true ∧ notStar b = true then (match f a, f b with
            | some a, some b => some (.rng2 a b)
            | _, _ => none) else none
          | _ => none)
        else if x = ("enumerate" : Str) then (match args with
          | [a] => if notStar a = true then (f a).map .enum else none
          | _ => none)
        else okIt (f (.Call (.Name x p) args [] pos))
      | _ => okIt (f (.Call (.Name x p) args [] pos)))
      else none
  | e => if notSet e = true then okIt (f e) else none
def isM1 : Expr → Bool
  | .UnaryOp .USub (.Constant (.int i) _ _) _ => decide (i = 1)
  | _ => false
/-- sorted(set(a)) -/
def ssOf (g : Str → Bool) (x : Str) (args : List Expr) : Option Expr := if x = ("sorted" : Str) then (match args with
  | [.Call (.Name y _) [a] [] _] => if y = ("set" : Str) ∧ g y = true ∧ notStar a = true then some a else none
  | _ => none) else none
def compE (G : Gam) (N : List Str) : Nat → Scope → Expr → Option E
  | 0, _, _ => none
  | n + 1, sc, e => match e with
    | .Name x _ => if okName x = true then (if isVis (sc.names.lookup x) = true then (place x N).map .loc
        else if isGl (sc.names.lookup x) = true then (match G.glob x with
          | some (.cst d) => some (.cst d)
          | _ => none) else none) else none
    | .Constant c _ _ => match c with
      | .int i => some (.cst (.int i))
      | .bool b => some (.cst (.bl b))
      | .none => some (.cst .non)
      | .str x => if x.length ≤ line then some (.cst (.str x)) else none
      | _ => none
    | .BinOp a op b _ => match opOf op, compE G N n sc a, compE G N n sc b with
      | some o, some x, some y => some (.bop o x y)
      | _, _, _ => none
    | .UnaryOp op a _ => match op, compE G N n sc a with
      | .Not, some x => some (.not x)
      | .USub, some x => some (.neg x)
      | _, _ => none
    | .BoolOp op es _ => compB (compE G N n sc) (match op with | .And => E.and | .Or => E.or) es
    | .IfExp c a b _ => match compE G N n sc c, compE G N n sc a, compE G N n sc b with
      | some z, some x, some y => some (.ite z x y)
      | _, _, _ => none
    | .Compare a ops bs _ => match ops, bs with
      | [op], [b] => if behindInMarks op b = false then (match cmpOf op, compE G N n sc a, compE G N n sc b with
        | some o, some x, some y => some (.bop o x y)
        | _, _, _ => none) else none
      | [op, op'], [b, c] => if lastMarks [op, op'] [b, c] = false then (match cmpOf op, cmpOf op', compE G N n sc a, compE G N n sc b, compE G N n sc c with
        | some o, some p, some x, some y, some z => some (.cmp2 o p x y z)
        | _, _, _, _, _ => none) else none
      | _, _ => none
    | .Tuple es _ _ => (compL (compE G N n sc) es).map .tup
    | .List es _ => (compL (compE G N n sc) es).map .lst
    | .Dict ks vs _ => match ks, vs with
      | [], [] => some (.dic .nil)
      | k :: ks, vs => if (k :: ks).length ≤ 15 then (compD (compE G N n sc) (k :: ks) vs).map .dic else none
      | _, _ => none
    | .Subscript a b _ => match b with
      | .Slice lo hi none _ => match compE G N n sc a, optE (compE G N n sc) lo, optE (compE G N n sc) hi with
        | some x, some l, some u => some (.slc x l u)
        | _, _, _ => none
      | .Slice lo hi (some st) _ => if isM1 st = true ∧ lo.isNone = true ∧ hi.isNone = true then (compE G N n sc a).map .rev else none
      | b => if notSl b = true then (match compE G N n sc a, compE G N n sc b with
        | some x, some y => some (.idx x y)
        | _, _ => none) else none
    | .Call f args kws cpos => match f, kws with
      | .Name x _, [] => if isGl (sc.names.lookup x) = true ∧ okName x = true then (match G.glob x with
        | some (.fn i) => (compL (compE G N n sc) args).map (.call i)
        | some _ => none
        | none => if x = ("isinstance" : Str) then (match args with
            | [a, t] => if notStar a = true ∧ notStar t = true then (match compE G N n sc a, tyOf G sc t with
              | some x, some t => if isOwn t = false then some (.isi x [t]) else none
              | _, _ => none) else none
            | _ => none)
          else match ssOf (fun y => isGl (sc.names.lookup y) && (G.glob y).isNone) x args with
            | some a => (compE G N n sc a).map fun z => .bi .sortset (.cons z .nil)
            | none => match biOf x, args with
              | some b, e :: es => (compL (compE G N n sc) (e :: es)).map (.bi b)
              | _, _ => none) else none
      | .Attribute o m apos, [] => if (apos.endLine == cpos.line) = true ∧ notSup o = true ∧ args.length < 29 then (match G.meth m with
        | some _ => none
        | none => match meOf m, compE G N n sc o, compL (compE G N n sc) args with
          | some k, some x, some y => some (.me k x y)
          | _, _, _ => none) else none
      | _, _ => none
    | .ListComp elt gens scope _ => match gens with
      | [⟨tg, it, ifs, 0⟩] => match compI (compE G N n sc) G sc it, compT N scope tg, compE G N n scope elt with
        | some i, some (g, tp), some x => if blkC N sc scope ((ownOf tg).zip g) = true ∧ enOk i tp = true ∧ (ownOf tg).length = g.length then (match ifs with
            | [] => some (.lc x g tp i .nil)
            | [c] => match compE G N n scope c with
              | some .nil => none
              | some c => some (.lc x g tp i c)
              | none => none
            | _ => none) else none
        | _, _, _ => none
      | _ => none
    | _ => none
end IX
end

section
set_option Elab.async false
set_option linter.all false
set_option maxRecDepth 100000
set_option maxHeartbeats 2000000
/-! IX9: the code of an expression says what the expression does. -/
namespace IX
open PySem PySem.Spec PyProof.Rows L2

/-- what a def's call does, as a promise -/
def spF (K : PySem.W.Frag) (cl : Nat → Option Addr) (T : Tbl) (n f : Nat) : Sp := fun vs H Q E => ∃ ρ h ds, HRel K cl ρ H h ∧ Reps K ρ H ds vs ∧ WR (callF T n f ds h) (PostE K cl ρ H Q) (PostX K cl ρ H E)
noncomputable abbrev pgT (T : Tbl) (n : Nat) : Pg := ⟨callF T n, T.meth, T.init⟩
/-- the built-in names that the code may use: no name of the module is one of them -/
def isBlt (x : Str) : Bool := decide (x ∈ (["len", "max", "min", "int", "str", "list", "tuple", "all", "isinstance", "range", "enumerate", "bool", "dict", "sorted", "set"] : List Str))
/-- what is known where a text runs -/
structure Ok (X : Cx) (G : Gam) (T : Tbl) (cl : Nat → Option Addr) (n : Nat) (E : XK) : Prop where
  calm : X.calm = true
  nd : X.N.Nodup
  room : Room n X.A
  fn : ∀ x f, G.glob x = some (.fn f) → ∃ a fd ps, X.mg x = some (.ref a) ∧ PySem.W.keepIn X.K (.ref a) = true ∧ Binds X.K fd ps [] ∧ FnOk X.prog X.w X.K X.mg X.base (L2.CX X.prog X.w) n a fd ps (spF X.K cl T n f)
  cst : ∀ x d, G.glob x = some (.cst d) → ∃ u v, X.mg x = some u ∧ RelV v u ∧ ∀ ρ H, Rep X.K ρ H d v
  non : ∀ x, isBlt x = true → X.mg x = none
  pass : Passes (L2.CX X.prog X.w) X E
theorem Ok.hu {X : Cx} {G : Gam} {T : Tbl} {cl : Nat → Option Addr} {n : Nat} {E : XK} (o : Ok X G T cl n E) : X.A.units + 65 < cLine := by have := o.room.un; omega
/-- the names where a text runs are those of sc -/
structure ScOk (X : Cx) (sc : Scope) : Prop where
  loc : ∀ x, isLoc (sc.names.lookup x) = true → Loc X.env.scope x ∧ (X.fn x = true ∨ X.env.scope.names.lookup x = some .local)
  vis : ∀ x, isVis (sc.names.lookup x) = true → Vis X.env.scope x
  gl : ∀ x, isGl (sc.names.lookup x) = true → Gl X x
  fr : ∀ x, sc.names.lookup x = some .cell ∨ sc.names.lookup x = some .free → X.env.scope.names.lookup x = some .cell ∨ X.env.scope.names.lookup x = some .free
section
variable (K : PySem.W.Frag) (cl : Nat → Option Addr) (P : Pg) (E : XK)
def tE (c : IX.E) : TE := fun σ H Q => ∃ ρ τ h, SRel K ρ H τ σ ∧ HRel K cl ρ H h ∧ WR (evalE P c τ h) (PostE K cl ρ H Q) (PostX K cl ρ H E)
def tA (c : IX.E) : TA := fun σ H Q => ∃ ρ τ h, SRel K ρ H τ σ ∧ HRel K cl ρ H h ∧ WR (evalEs P c τ h) (PostA K cl ρ H Q) (PostX K cl ρ H E)
/-- a test -/
def ofTruth (x : D) (h : Hh) : R Bool := match truth x h with
  | some b => .ok b h
  | none => .bad
noncomputable def testE (c : IX.E) (τ : IX.St) (h : Hh) : R Bool := (evalE P c τ h).bind ofTruth
def tT (c : IX.E) : TT := fun σ H Q => ∃ ρ τ h, SRel K ρ H τ σ ∧ HRel K cl ρ H h ∧ WR (testE P c τ h) (fun b => PostB K cl ρ H (Q b)) (PostX K cl ρ H E)
end
theorem _root_.L2.PE.imp {X : Cx} {e : Expr} {t t' : TE} (h : PE X e t) (hi : ∀ σ H Q, t' σ H Q → t σ H Q) : PE X e t' := ⟨fun pins s σ H Q I q => h.run pins s σ H Q I (hi σ H Q q)⟩
theorem _root_.L2.PT.imp {X : Cx} {e : Expr} {t t' : TT} (h : PT X e t) (hi : ∀ σ H Q, t' σ H Q → t σ H Q) : PT X e t' := ⟨fun pins s σ H Q I q => h.run pins s σ H Q I (hi σ H Q q)⟩
theorem _root_.L2.PW.imp {X : Cx} {e : Expr} {t t' : TT} (h : PW X e t) (hi : ∀ σ H Q, t' σ H Q → t σ H Q) : PW X e t' := ⟨fun wh pins s σ H Q I q => h.run wh pins s σ H Q I (hi σ H Q q)⟩
theorem _root_.L2.PA.imp {X : Cx} {e : List Expr} {t t' : TA} (h : PA X e t) (hi : ∀ σ H Q, t' σ H Q → t σ H Q) : PA X e t' := ⟨fun pos pins s σ H Q I q => h.run pos pins s σ H Q I (hi σ H Q q)⟩
section
variable {K : PySem.W.Frag} {cl : Nat → Option Addr} {P : Pg} {E : XK} {ρ : Rho} {τ : IX.St} {σ : L2.St} {H : Hp} {h : Hh}
/-- a part is reckoned, then the rest -/
theorem ev1 {α : Type} {F : D → Hh → R α} {k : α → Hh → Prop} {c : IX.E} {Qv : VK} (s : SRel K ρ H τ σ) (hr : HRel K cl ρ H h) (w : WR ((evalE P c τ h).bind F) k (PostX K cl ρ H E))
    (go : ∀ ρ1 H1 v d h1, Keep K ρ H ρ1 H1 → HRel K cl ρ1 H1 h1 → SRel K ρ1 H1 τ σ → Rep K ρ1 H1 d v → WR (F d h1) k (PostX K cl ρ1 H1 E) → Qv v H1) : tE K cl P E c σ H Qv :=
  ⟨ρ, τ, h, s, hr, w.bnd.imp (fun d h1 w1 ρ1 H1 v kp hr1 r1 => go ρ1 H1 v d h1 kp hr1 (s.keep kp) r1 (w1.imp (fun _ _ q => q) fun _ _ _ q => q.keep kp)) fun _ _ _ q => q⟩
theorem evs {α : Type} {F : List D → Hh → R α} {k : α → Hh → Prop} {c : IX.E} {Qv : List V → Hp → Prop} (s : SRel K ρ H τ σ) (hr : HRel K cl ρ H h) (w : WR ((evalEs P c τ h).bind F) k (PostX K cl ρ H E))
    (go : ∀ ρ1 H1 v d h1, Keep K ρ H ρ1 H1 → HRel K cl ρ1 H1 h1 → SRel K ρ1 H1 τ σ → Reps K ρ1 H1 d v → WR (F d h1) k (PostX K cl ρ1 H1 E) → Qv v H1) : tA K cl P E c σ H Qv :=
  ⟨ρ, τ, h, s, hr, w.bnd.imp (fun d h1 w1 ρ1 H1 v kp hr1 r1 => go ρ1 H1 v d h1 kp hr1 (s.keep kp) r1 (w1.imp (fun _ _ q => q) fun _ _ _ q => q.keep kp)) fun _ _ _ q => q⟩
theorem evt {α : Type} {F : Bool → Hh → R α} {k : α → Hh → Prop} {c : IX.E} {Qv : Bool → Hp → Prop} (s : SRel K ρ H τ σ) (hr : HRel K cl ρ H h) (w : WR ((testE P c τ h).bind F) k (PostX K cl ρ H E))
    (go : ∀ ρ1 H1 b h1, Keep K ρ H ρ1 H1 → HRel K cl ρ1 H1 h1 → SRel K ρ1 H1 τ σ → WR (F b h1) k (PostX K cl ρ1 H1 E) → Qv b H1) : tT K cl P E c σ H Qv :=
  ⟨ρ, τ, h, s, hr, w.bnd.imp (fun d h1 w1 ρ1 H1 kp hr1 => go ρ1 H1 d h1 kp hr1 (s.keep kp) (w1.imp (fun _ _ q => q) fun _ _ _ q => q.keep kp)) fun _ _ _ q => q⟩
end
section
variable {X : Cx} {cl : Nat → Option Addr} {P : Pg} {E : XK} {a b c : Expr} {ca cb cc : IX.E} {pos : Pos}
theorem s_loc {x : Str} {i : Nat} (hN : X.N[i]? = some x) (hv : Vis X.env.scope x) (h1 : (x == ("__debug__" : Str)) = false) (h2 : (x == ("__classdict__" : Str)) = false) : PE X (.Name x pos) (tE X.K cl P E (.loc i)) := by
  refine (pe_var hN hv h1 h2).imp fun σ H Q ⟨ρ, τ, h, s, hr, w⟩ => ?_
  have w' : WR (match τ[i]? with | some (some v) => R.ok v h | _ => .bad) (PostE X.K cl ρ H Q) (PostX X.K cl ρ H E) := w
  cases q : τ[i]? with
  | none => rw [q] at w'; exact (show False from w').elim
  | some o =>
    cases o with
    | none => rw [q] at w'; exact (show False from w').elim
    | some d =>
      rw [q] at w'
      obtain ⟨v, e, r⟩ := s.at_ i d q
      exact ⟨v, e, PostE.now hr r w'⟩
theorem s_cst {e : Expr} {d : D} {v : V} (h : PE X e (tC v)) (r : ∀ ρ H, Rep X.K ρ H d v) : PE X e (tE X.K cl P E (.cst d)) := by
  refine h.imp fun σ H Q ⟨ρ, τ, h, s, hr, w⟩ => PostE.now hr (r ρ H) w
theorem s_bop {op : Operator} {o : Op} (ho : OpR X (binaryOp op) (rB X.K cl o)) (ha : PE X a (tE X.K cl P E ca)) (hb : PE X b (tE X.K cl P E cb)) : PE X (.BinOp a op b pos) (tE X.K cl P E (.bop o ca cb)) := by
  refine (pe_op ho ha hb).imp fun σ H Q ⟨ρ, τ, h, s, hr, w⟩ => ?_
  exact ev1 s hr w fun ρ1 H1 v d h1 kp hr1 s1 r1 w1 => ev1 s1 hr1 w1 fun ρ2 H2 u e h2 kp2 hr2 s2 r2 w2 => ⟨ρ2, h2, d, e, _, hr2, r1.keep kp2, r2, w2.imp (fun _ _ q => q.keep (kp.trans kp2)) fun _ _ _ q => q⟩
theorem s_cmp {op : CmpOp} {o : Op} (ho : OpR X (compareOp op) (rB X.K cl o)) (ha : PE X a (tE X.K cl P E ca)) (hb : PE X b (tE X.K cl P E cb)) (hm : behindInMarks op b = false) : PE X (.Compare a [op] [b] pos) (tE X.K cl P E (.bop o ca cb)) := by
  refine (pe_cmpR ho ha hb hm).imp fun σ H Q ⟨ρ, τ, h, s, hr, w⟩ => ?_
  exact ev1 s hr w fun ρ1 H1 v d h1 kp hr1 s1 r1 w1 => ev1 s1 hr1 w1 fun ρ2 H2 u e h2 kp2 hr2 s2 r2 w2 => ⟨ρ2, h2, d, e, _, hr2, r1.keep kp2, r2, w2.imp (fun _ _ q => q.keep (kp.trans kp2)) fun _ _ _ q => q⟩
/-- a value's truth behind a run -/
theorem truth_post {K : PySem.W.Frag} {ρ : Rho} {H : Hp} {m : R D} {Q : Bool → Hp → Prop} (w : WR (m.bind ofTruth) (fun b => PostB K cl ρ H (Q b)) (PostX K cl ρ H E)) :
    WR m (fun d h1 => ∃ b, truth d h1 = some b ∧ PostB K cl ρ H (Q b) h1) (PostX K cl ρ H E) := by
  refine w.bnd.imp (fun d h1 w1 => ?_) fun _ _ _ q => q
  unfold ofTruth at w1
  cases q : truth d h1 with
  | none => rw [q] at w1; exact (show False from w1).elim
  | some b => rw [q] at w1; exact ⟨b, rfl, w1⟩
/-- a test that is a value's truth -/
theorem s_tru (ha : PE X a (tE X.K cl P E ca)) (hp : ∀ whole, isTrue a X.env whole = (do let v ← whole; standAt a.pos; holding [v] (truthy v))) : PT X a (tT X.K cl P E ca) := by
  refine ⟨fun pins s σ H Q I hw => ?_⟩
  obtain ⟨ρ, τ, h, sr, hr, w⟩ := hw
  refine isTrue_plain (thn (ha.run pins s σ H (fun x H1 => ∃ ρ1 h1 d b, HRel X.K cl ρ1 H1 h1 ∧ Rep X.K ρ1 H1 d x ∧ truth d h1 = some b ∧ Q b H1) I ⟨ρ, τ, h, sr, hr, (truth_post w).imp (fun d h1 ⟨b, q, p⟩ ρ1 H1 v kp hr1 r1 => ⟨ρ1, h1, d, b, hr1, r1, q, p ρ1 H1 kp hr1⟩) fun _ _ _ q => q⟩) fun v s1 ⟨x, H1, I1, rx, ρ1, h1, d, b, hr1, r1, q, k⟩ => ?_) (hp _)
  exact tru_at I1 hr1 r1 rx q k
theorem s_cmpT {op : CmpOp} {o : Op} (ho : OpR X (compareOp op) (rB X.K cl o)) (hbl : ∀ x y h z h', binop o x y h = R.ok z h' → ∃ k, z = .bl k) (hne : ∀ x y h c fs h', binop o x y h ≠ R.ex c fs h') (ha : PE X a (tE X.K cl P E ca)) (hb : PE X b (tE X.K cl P E cb)) (hm : behindInMarks op b = false) : PT X (.Compare a [op] [b] pos) (tT X.K cl P E (.bop o ca cb)) := by
  refine (pt_cmpR ho ha hb hm).imp fun σ H Q ⟨ρ, τ, h, s, hr, w⟩ => ?_
  have w0 := truth_post w
  refine ev1 s hr w0 fun ρ1 H1 v d h1 kp hr1 s1 r1 w1 => ev1 s1 hr1 w1 fun ρ2 H2 u e h2 kp2 hr2 s2 r2 w2 => ⟨ρ2, h2, d, e, fun _ _ _ => False, hr2, r1.keep kp2, r2, ?_⟩
  cases q : binop o d e h2 with
  | bad => rw [q] at w2; exact (show False from w2).elim
  | ex c fs h3 => exact absurd q (hne _ _ _ _ _ _)
  | ok z h3 =>
    rw [q] at w2
    obtain ⟨k, rfl⟩ := hbl _ _ _ _ _ q
    obtain ⟨b, q2, p⟩ := (show ∃ b, truth (.bl k) h3 = some b ∧ PostB X.K cl ρ H (Q b) h3 from w2)
    cases q2
    intro ρ3 H3 v3 kp3 hr3 r3
    cases r3
    exact ⟨k, rfl, p ρ3 H3 ((kp.trans kp2).trans kp3) hr3⟩
theorem s_not (ha : PT X a (tT X.K cl P E ca)) : PT X (.UnaryOp .Not a pos) (tT X.K cl P E (.not ca)) := by
  refine (pt_not ha).imp fun σ H Q ⟨ρ, τ, h, s, hr, w⟩ => ?_
  refine ⟨ρ, τ, h, s, hr, ?_⟩
  have w1 : WR (((evalE P ca τ h).bind fun x h1 => match truth x h1 with
    | some b => R.ok (D.bl (!b)) h1
    | none => R.bad).bind ofTruth) (fun b => PostB X.K cl ρ H (Q b)) (PostX X.K cl ρ H E) := w
  show WR ((evalE P ca τ h).bind ofTruth) _ _
  cases q : evalE P ca τ h with
  | bad => rw [q] at w1; exact w1
  | ex c fs h1 => rw [q] at w1; exact w1
  | ok d h1 =>
    rw [q] at w1
    have w2 : WR ((match truth d h1 with
      | some b => R.ok (D.bl (!b)) h1
      | none => R.bad).bind ofTruth) (fun b => PostB X.K cl ρ H (Q b)) (PostX X.K cl ρ H E) := w1
    show WR (ofTruth d h1) _ _
    unfold ofTruth
    cases q2 : truth d h1 with
    | none => rw [q2] at w2; exact w2
    | some b => rw [q2] at w2; exact w2
/-- a value's truth, by the abstract heap -/
theorem truV_of {K : PySem.W.Frag} {ρ : Rho} {H : Hp} {h : Hh} {d : D} {x : V} {b : Bool} (hr : HRel K cl ρ H h) (r : Rep K ρ H d x) (q : truth d h = some b) : TruV K x H b := by
  have em : ∀ {ds : List D} {vs : List V}, Reps K ρ H ds vs → ds.isEmpty = vs.isEmpty := fun t => by cases t <;> rfl
  cases r with
  | non => cases q; rfl
  | bl c => cases q; rfl
  | int i => cases q; rfl
  | str x z => cases q; exact ⟨by rw [sizeLine_eq]; exact z, rfl⟩
  | tup s t => cases q; exact .inr (.inl ⟨_, s, by rw [em t]⟩)
  | lck s t => cases q; exact .inl ⟨_, s.sql, by rw [em t]⟩
  | @ref a p ea =>
    obtain ⟨o, eo, x⟩ := hr.get ea
    change (match h[a]? with
      | some (O.lst xs) => some (!xs.isEmpty)
      | some (O.dic kvs) => some (!kvs.isEmpty)
      | _ => none) = some b at q
    rw [eo] at q
    cases o with
    | lst ds =>
      cases q
      obtain ⟨vs, e3, t⟩ := x
      exact .inl ⟨vs, SqL.of e3, by rw [em t]⟩
    | dic ds =>
      cases q
      obtain ⟨vs, e3, t⟩ := x
      exact .inr (.inr ⟨vs, e3, by cases t <;> rfl⟩)
    | ins _ _ => cases q
theorem by_test {α : Type} (m : R D) (f g : Hh → R α) : (m.bind fun x h1 => match truth x h1 with
    | some true => f h1
    | some false => g h1
    | none => .bad) = (m.bind ofTruth).bind fun b h1 => if b = true then f h1 else g h1 := by
  cases m with
  | bad => rfl
  | ex c fs h => rfl
  | ok x h =>
    show (match truth x h with
    | some true => f h
    | some false => g h
    | none => .bad) = (ofTruth x h).bind _
    unfold ofTruth
    cases truth x h with
    | none => rfl
    | some b => cases b <;> rfl
theorem bind_assoc {α β γ : Type} (m : R α) (f : α → Hh → R β) (g : β → Hh → R γ) : (m.bind f).bind g = m.bind fun x h => (f x h).bind g := by cases m <;> rfl
theorem testE_ite (x : IX.E) (y z : IX.E) (τ : IX.St) (h : Hh) : testE P (.ite x y z) τ h = (testE P x τ h).bind fun b h1 => if b = true then testE P y τ h1 else testE P z τ h1 := by
  show ((evalE P x τ h).bind fun v h1 => match truth v h1 with
    | some true => evalE P y τ h1
    | some false => evalE P z τ h1
    | none => .bad).bind ofTruth = _
  rw [by_test, bind_assoc]
  show (testE P x τ h).bind _ = _
  congr 1
  funext b h1
  cases b <;> rfl
theorem testE_and (x y : IX.E) (τ : IX.St) (h : Hh) : testE P (.and x y) τ h = (testE P x τ h).bind fun b h1 => if b = true then testE P y τ h1 else .ok false h1 := by
  show ((evalE P x τ h).bind fun v h1 => match truth v h1 with
    | some true => evalE P y τ h1
    | some false => .ok v h1
    | none => .bad).bind ofTruth = ((evalE P x τ h).bind ofTruth).bind _
  cases evalE P x τ h with
  | bad => rfl
  | ex c fs h => rfl
  | ok v h1 =>
    show (match truth v h1 with
    | some true => evalE P y τ h1
    | some false => .ok v h1
    | none => .bad).bind ofTruth = (ofTruth v h1).bind _
    cases q : truth v h1 with
    | none => simp only [ofTruth, q]; rfl
    | some b =>
      cases b with
      | true => simp only [ofTruth, q]; rfl
      | false =>
        have e : ofTruth v h1 = .ok false h1 := by simp only [ofTruth, q]
        simp only [q]
        show ofTruth v h1 = (ofTruth v h1).bind _
        rw [e]; rfl
theorem testE_or (x y : IX.E) (τ : IX.St) (h : Hh) : testE P (.or x y) τ h = (testE P x τ h).bind fun b h1 => if b = true then .ok true h1 else testE P y τ h1 := by
  show ((evalE P x τ h).bind fun v h1 => match truth v h1 with
    | some true => R.ok v h1
    | some false => evalE P y τ h1
    | none => .bad).bind ofTruth = ((evalE P x τ h).bind ofTruth).bind _
  cases evalE P x τ h with
  | bad => rfl
  | ex c fs h => rfl
  | ok v h1 =>
    show (match truth v h1 with
    | some true => R.ok v h1
    | some false => evalE P y τ h1
    | none => .bad).bind ofTruth = (ofTruth v h1).bind _
    cases q : truth v h1 with
    | none => simp only [ofTruth, q]; rfl
    | some b =>
      cases b with
      | false => simp only [ofTruth, q]; rfl
      | true =>
        have e : ofTruth v h1 = .ok true h1 := by simp only [ofTruth, q]
        simp only [q]
        show ofTruth v h1 = (ofTruth v h1).bind _
        rw [e]; rfl
/-- a not as a value -/
theorem s_notV (ha : PE X a (tE X.K cl P E ca)) : PE X (.UnaryOp .Not a pos) (tE X.K cl P E (.not ca)) := by
  refine (pe_notT ha).imp fun σ H Q ⟨ρ, τ, h, s, hr, w⟩ => ev1 s hr w fun ρ1 H1 v d h1 kp hr1 s1 r1 w1 => ?_
  cases q : truth d h1 with
  | none => rw [q] at w1; exact (show False from w1).elim
  | some k =>
    rw [q] at w1
    exact ⟨k, truV_of hr1 r1 q, PostE.now hr1 (.bl _) ((show PostE X.K cl ρ H Q (.bl (!k)) h1 from w1).keep kp)⟩
section
variable {rest : List Expr}
theorem s_one {op : BoolOp} (ha : PE X a (tE X.K cl P E ca)) : PE X (.BoolOp op [a] pos) (tE X.K cl P E ca) := pe_one ha
theorem s_andV (ha : PE X a (tE X.K cl P E ca)) (hb : PE X (.BoolOp .And (b :: rest) pos) (tE X.K cl P E cb)) : PE X (.BoolOp .And (a :: b :: rest) pos) (tE X.K cl P E (.and ca cb)) := by
  refine (pe_andT ha hb).imp fun σ H Q ⟨ρ, τ, h, s, hr, w⟩ => ev1 s hr w fun ρ1 H1 v d h1 kp hr1 s1 r1 w1 => ?_
  cases q : truth d h1 with
  | none => rw [q] at w1; exact (show False from w1).elim
  | some k =>
    rw [q] at w1
    refine ⟨k, truV_of hr1 r1 q, ?_⟩
    cases k with
    | true => exact (if_pos rfl).mpr ⟨ρ1, τ, h1, s1, hr1, wrE ((show WR (evalE P cb τ h1) _ _ from w1).imp (fun _ _ q => q.keep kp) fun _ _ _ q => q) Keep.refl⟩
    | false => exact PostE.now hr1 r1 ((show PostE X.K cl ρ H Q d h1 from w1).keep kp)
theorem s_orV (ha : PE X a (tE X.K cl P E ca)) (hb : PE X (.BoolOp .Or (b :: rest) pos) (tE X.K cl P E cb)) : PE X (.BoolOp .Or (a :: b :: rest) pos) (tE X.K cl P E (.or ca cb)) := by
  refine (pe_orT ha hb).imp fun σ H Q ⟨ρ, τ, h, s, hr, w⟩ => ev1 s hr w fun ρ1 H1 v d h1 kp hr1 s1 r1 w1 => ?_
  cases q : truth d h1 with
  | none => rw [q] at w1; exact (show False from w1).elim
  | some k =>
    rw [q] at w1
    refine ⟨k, truV_of hr1 r1 q, ?_⟩
    cases k with
    | true => exact PostE.now hr1 r1 ((show PostE X.K cl ρ H Q d h1 from w1).keep kp)
    | false => exact ⟨ρ1, τ, h1, s1, hr1, (show WR (evalE P cb τ h1) _ _ from w1).imp (fun _ _ q => q.keep kp) fun _ _ _ q => q⟩
theorem s_andT (ha : PT X a (tT X.K cl P E ca)) (hb : PW X (.BoolOp .And (b :: rest) pos) (tT X.K cl P E cb)) : PW X (.BoolOp .And (a :: b :: rest) pos) (tT X.K cl P E (.and ca cb)) := by
  refine (pw_and ha hb).imp fun σ H Q ⟨ρ, τ, h, s, hr, w⟩ => ?_
  rw [testE_and] at w
  refine evt s hr w fun ρ1 H1 k h1 kp hr1 s1 w1 => ?_
  cases k with
  | true => exact ⟨ρ1, τ, h1, s1, hr1, (show WR (testE P cb τ h1) _ _ from w1).imp (fun _ _ q => q.keep kp) fun _ _ _ q => q⟩
  | false => exact (show PostB X.K cl ρ H (Q false) h1 from w1) ρ1 H1 kp hr1
theorem s_orT (ha : PT X a (tT X.K cl P E ca)) (hb : PW X (.BoolOp .Or (b :: rest) pos) (tT X.K cl P E cb)) : PW X (.BoolOp .Or (a :: b :: rest) pos) (tT X.K cl P E (.or ca cb)) := by
  refine (pw_or ha hb).imp fun σ H Q ⟨ρ, τ, h, s, hr, w⟩ => ?_
  rw [testE_or] at w
  refine evt s hr w fun ρ1 H1 k h1 kp hr1 s1 w1 => ?_
  cases k with
  | false => exact ⟨ρ1, τ, h1, s1, hr1, (show WR (testE P cb τ h1) _ _ from w1).imp (fun _ _ q => q.keep kp) fun _ _ _ q => q⟩
  | true => exact (show PostB X.K cl ρ H (Q true) h1 from w1) ρ1 H1 kp hr1
end
/-- a if c else b -/
theorem s_ifV (hc : PT X c (tT X.K cl P E cc)) (ha : PE X a (tE X.K cl P E ca)) (hb : PE X b (tE X.K cl P E cb)) : PE X (.IfExp c a b pos) (tE X.K cl P E (.ite cc ca cb)) := by
  refine (pe_ifExp hc ha hb).imp fun σ H Q ⟨ρ, τ, h, s, hr, w⟩ => ?_
  have w0 : WR ((evalE P cc τ h).bind fun v h1 => match truth v h1 with
    | some true => evalE P ca τ h1
    | some false => evalE P cb τ h1
    | none => .bad) (PostE X.K cl ρ H Q) (PostX X.K cl ρ H E) := w
  rw [by_test] at w0
  refine evt s hr w0 fun ρ1 H1 k h1 kp hr1 s1 w1 => ?_
  cases k with
  | true => exact ⟨ρ1, τ, h1, s1, hr1, (show WR (evalE P ca τ h1) _ _ from w1).imp (fun _ _ q => q.keep kp) fun _ _ _ q => q⟩
  | false => exact ⟨ρ1, τ, h1, s1, hr1, (show WR (evalE P cb τ h1) _ _ from w1).imp (fun _ _ q => q.keep kp) fun _ _ _ q => q⟩
theorem s_ifT (hc : PT X c (tT X.K cl P E cc)) (ha : PT X a (tT X.K cl P E ca)) (hb : PT X b (tT X.K cl P E cb)) : PT X (.IfExp c a b pos) (tT X.K cl P E (.ite cc ca cb)) := by
  refine ⟨fun pins s σ H Q I ⟨ρ, τ, h, sr, hr, w⟩ => ?_⟩
  rw [testE_ite] at w
  have t1 : tT X.K cl P E cc σ H fun k H1 => if k = true then tT X.K cl P E ca σ H1 Q else tT X.K cl P E cb σ H1 Q := by
    refine evt sr hr w fun ρ1 H1 k h1 kp hr1 s1 w1 => ?_
    cases k with
    | true => exact (⟨ρ1, τ, h1, s1, hr1, (show WR (testE P ca τ h1) _ _ from w1).imp (fun _ _ q => q.keep kp) fun _ _ _ q => q⟩ : tT X.K cl P E ca σ H1 Q)
    | false => exact (⟨ρ1, τ, h1, s1, hr1, (show WR (testE P cb τ h1) _ _ from w1).imp (fun _ _ q => q.keep kp) fun _ _ _ q => q⟩ : tT X.K cl P E cb σ H1 Q)
  refine isTrue_IfExp (thn (hc.run pins s σ H _ I t1) fun k s1 ⟨H1, I1, q1⟩ => ?_)
  cases k with
  | true => exact ha.run pins s1 σ H1 Q I1 q1
  | false => exact hb.run pins s1 σ H1 Q I1 q1
/-- -a -/
theorem s_neg (ha : PE X a (tE X.K cl P E ca)) : PE X (.UnaryOp .USub a pos) (tE X.K cl P E (.neg ca)) := by
  refine (pe_un un_neg ha).imp fun σ H Q ⟨ρ, τ, h, s, hr, w⟩ => ev1 s hr w fun ρ1 H1 v d h1 kp hr1 s1 r1 w1 => ?_
  cases r1 with
  | int i => exact ⟨i, rfl, PostE.now hr1 (.int _) ((show PostE X.K cl ρ H Q (.int (-i)) h1 from w1).keep kp)⟩
  | _ => exact (show False from w1).elim
/-- a o b p c -/
theorem chain_imp {o p : Op} {σ : L2.St} {H : Hp} {Q : VK} (t : tE X.K cl P E (.cmp2 o p ca cb cc) σ H Q) : tChain (rB X.K cl o) (rB X.K cl p) (tE X.K cl P E ca) (tE X.K cl P E cb) (tE X.K cl P E cc) σ H Q := by
  obtain ⟨ρ, τ, h, s, hr, w⟩ := t
  refine ev1 s hr w fun ρ1 H1 v d h1 kp hr1 s1 r1 w1 => ev1 s1 hr1 w1 fun ρ2 H2 u e h2 kp2 hr2 s2 r2 w2 => ⟨ρ2, h2, d, e, _, hr2, r1.keep kp2, r2, w2.bnd.imp (fun z h3 w3 ρ3 H3 v3 kp3 hr3 r3 => ?_) fun _ _ _ q => q⟩
  cases r3 with
  | bl k =>
    refine ⟨k, rfl, ?_⟩
    have kp' := (kp.trans kp2).trans kp3
    cases k with
    | true =>
      have w4 : WR ((evalE P cc τ h3).bind fun w h4 => binop p e w h4) (PostE X.K cl ρ H Q) (PostX X.K cl ρ2 H2 E) := w3
      refine (if_pos rfl).mpr (ev1 (s2.keep kp3) hr3 (w4.imp (fun _ _ q => q) fun _ _ _ q => q.keep kp3) fun ρ4 H4 v4 d4 h4 kp4 hr4 s4 r4 w5 => ⟨ρ4, h4, e, d4, _, hr4, (r2.keep kp3).keep kp4, r4, w5.imp (fun _ _ q => q.keep (kp'.trans kp4)) fun _ _ _ q => q⟩)
    | false => exact PostE.now hr3 (.bl _) ((show PostE X.K cl ρ H Q (.bl false) h3 from w3).keep kp')
  | _ => exact (show False from w3).elim
theorem s_chain {op op' : CmpOp} {o p : Op} (ho : OpR X (compareOp op) (rB X.K cl o)) (hp : OpR X (compareOp op') (rB X.K cl p)) (ha : PE X a (tE X.K cl P E ca)) (hb : PE X b (tE X.K cl P E cb)) (hc : PE X c (tE X.K cl P E cc)) (hm : lastMarks [op, op'] [b, c] = false) :
    PE X (.Compare a [op, op'] [b, c] pos) (tE X.K cl P E (.cmp2 o p ca cb cc)) := (pe_chain ho hp ha hb hc hm).imp fun _ _ _ t => chain_imp t
theorem s_chainT {op op' : CmpOp} {o p : Op} (ho : OpR X (compareOp op) (rB X.K cl o)) (hp : OpR X (compareOp op') (rB X.K cl p)) (hbl : ∀ x y h z h', binop p x y h = R.ok z h' → ∃ k, z = .bl k) (ha : PE X a (tE X.K cl P E ca)) (hb : PE X b (tE X.K cl P E cb)) (hc : PE X c (tE X.K cl P E cc)) (hm : lastMarks [op, op'] [b, c] = false) :
    PT X (.Compare a [op, op'] [b, c] pos) (tT X.K cl P E (.cmp2 o p ca cb cc)) := by
  refine (pt_chain ho hp ha hb hc hm).imp fun σ H Q ⟨ρ, τ, h, s, hr, w⟩ => chain_imp ⟨ρ, τ, h, s, hr, ?_⟩
  have w0 := truth_post w
  have bl : ∀ z h', evalE P (.cmp2 o p ca cb cc) τ h = R.ok z h' → ∃ k, z = .bl k := fun z h' q => by
    have q0 : ((evalE P ca τ h).bind fun x h1 => (evalE P cb τ h1).bind fun y h2 => (binop o x y h2).bind fun z h3 => match z with
      | .bl true => (evalE P cc τ h3).bind fun w h4 => binop p y w h4
      | .bl false => .ok (.bl false) h3
      | _ => .bad) = R.ok z h' := q
    cases q1 : evalE P ca τ h with
    | bad => rw [q1] at q0; cases q0
    | ex _ _ _ => rw [q1] at q0; cases q0
    | ok x h1 =>
      rw [q1] at q0
      change ((evalE P cb τ h1).bind _) = _ at q0
      cases q2 : evalE P cb τ h1 with
      | bad => rw [q2] at q0; cases q0
      | ex _ _ _ => rw [q2] at q0; cases q0
      | ok y h2 =>
        rw [q2] at q0
        change ((binop o x y h2).bind _) = _ at q0
        cases q3 : binop o x y h2 with
        | bad => rw [q3] at q0; cases q0
        | ex _ _ _ => rw [q3] at q0; cases q0
        | ok z1 h3 =>
          rw [q3] at q0
          cases z1 with
          | bl k =>
            cases k with
            | true =>
              change ((evalE P cc τ h3).bind fun w h4 => binop p y w h4) = _ at q0
              cases q4 : evalE P cc τ h3 with
              | bad => rw [q4] at q0; cases q0
              | ex _ _ _ => rw [q4] at q0; cases q0
              | ok w h4 => rw [q4] at q0; exact hbl _ _ _ _ _ q0
            | false => cases q0; exact ⟨_, rfl⟩
          | _ => cases q0
  cases q : evalE P (.cmp2 o p ca cb cc) τ h with
  | bad => rw [q] at w0; exact w0
  | ex c fs h1 => rw [q] at w0; exact w0
  | ok z h1 =>
    rw [q] at w0
    obtain ⟨k, rfl⟩ := bl z h1 q
    obtain ⟨b, q2, p⟩ := (show ∃ b, truth (.bl k) h1 = some b ∧ PostB X.K cl ρ H (Q b) h1 from w0)
    cases q2
    intro ρ3 H3 v3 kp3 hr3 r3
    cases r3
    exact ⟨k, rfl, p ρ3 H3 kp3 hr3⟩
/-! ### lists of arguments, displays -/
theorem star_of {e : Expr} {es : List Expr} {env : Env} (h : notStar e = true) : starEach (e :: es) env = (false, eval e env) :: starEach es env := by cases e <;> first | rfl | cases h
theorem plain_of {f : Expr → Option IX.E} {env : Env} {pos : Pos} : ∀ {es : List Expr} {c : IX.E}, compL f es = some c → (backTo pos (starEach es env)).any (·.1) = false
  | [], _, _ => rfl
  | e :: r, c, h => by
    unfold compL at h
    by_cases n : notStar e = true
    · rw [if_pos n] at h
      cases q1 : f e with
      | none => rw [q1] at h; cases h
      | some x =>
        cases q2 : compL f r with
        | none => rw [q1, q2] at h; cases h
        | some y =>
          rw [star_of n]
          have ih := plain_of (env := env) (pos := pos) q2
          unfold backTo at ih ⊢
          rw [List.map_cons, List.any_cons, ih]; rfl
    · rw [if_neg n] at h; cases h
theorem s_args {f : Expr → Option IX.E} (hf : ∀ e c, f e = some c → PE X e (tE X.K cl P E c)) : ∀ {es : List Expr} {c : IX.E}, compL f es = some c → PA X es (tA X.K cl P E c)
  | [], c, h => by
    cases h
    exact pa_nil.imp fun σ H Q ⟨ρ, τ, h, s, hr, w⟩ => (show PostA X.K cl ρ H Q [] h from w) ρ H [] Keep.refl hr .nil
  | e :: r, c, h => by
    unfold compL at h
    by_cases n : notStar e = true
    · rw [if_pos n] at h
      cases q1 : f e with
      | none => rw [q1] at h; cases h
      | some x =>
        cases q2 : compL f r with
        | none => rw [q1, q2] at h; cases h
        | some y =>
          rw [q1, q2] at h
          cases h
          refine (pa_cons (hf e x q1) (s_args hf q2) (star_of n)).imp fun σ H Q ⟨ρ, τ, h, s, hr, w⟩ => ?_
          exact ev1 s hr w fun ρ1 H1 v d h1 kp hr1 s1 r1 w1 => evs s1 hr1 w1 fun ρ2 H2 vs ds h2 kp2 hr2 s2 r2 w2 => (show PostA X.K cl ρ H Q (d :: ds) h2 from w2) ρ2 H2 (v :: vs) (kp.trans kp2) hr2 (.cons (r1.keep kp2) r2)
    · rw [if_neg n] at h; cases h
section
variable {es : List Expr} {ce : IX.E}
theorem s_tup {x1 : Nat} (h : PA X es (tA X.K cl P E ce)) : PE X (.Tuple es x1 pos) (tE X.K cl P E (.tup ce)) := by
  refine (pe_tup h).imp fun σ H Q ⟨ρ, τ, h, s, hr, w⟩ => evs s hr w fun ρ1 H1 vs ds h1 kp hr1 s1 r1 w1 => ?_
  by_cases c : ds.length ≤ line
  · rw [if_pos c] at w1
    exact ⟨by rw [← r1.length, sizeLine_eq]; exact c, fun p n => new_tup hr1 r1 ((show PostE X.K cl ρ H Q (.tup ds) h1 from w1).keep kp) p n⟩
  · rw [if_neg c] at w1; exact (show False from w1).elim
theorem s_lst (h : PA X es (tA X.K cl P E ce)) : PE X (.List es pos) (tE X.K cl P E (.lst ce)) := by
  refine (pe_lst h).imp fun σ H Q ⟨ρ, τ, h, s, hr, w⟩ => evs s hr w fun ρ1 H1 vs ds h1 kp hr1 s1 r1 w1 => ?_
  by_cases c : ds.length ≤ line
  · rw [if_pos c] at w1
    exact ⟨by rw [← r1.length, sizeLine_eq]; exact c, fun p n => new_lst (x := PostX X.K cl ρ1 H1 E) hr1 r1 (w1.imp (fun _ _ q => q.keep kp) fun _ _ _ q => q) p n⟩
  · rw [if_neg c] at w1; exact (show False from w1).elim
end
theorem s_dic0 : PE X (.Dict [] [] pos) (tE X.K cl P E (.dic .nil)) := by
  refine pe_dnewK.imp fun σ H Q ⟨ρ, τ, h, s, hr, w⟩ p n => ?_
  exact new_dic (x := PostX X.K cl ρ H E) hr .nil (show WR (R.new (.dic []) h) (PostE X.K cl ρ H Q) (PostX X.K cl ρ H E) from w) p n
/-- a[b] -/
theorem s_idx (hu : X.A.units + 1 < cLine) (ha : PE X a (tE X.K cl P E ca)) (hb : PE X b (tE X.K cl P E cb)) (hs : PlainIx b) : PE X (.Subscript a b pos) (tE X.K cl P E (.idx ca cb)) := by
  refine (pe_ix (ix_all (cl := cl) hu) ha hb hs).imp fun σ H Q ⟨ρ, τ, h, s, hr, w⟩ => ?_
  exact ev1 s hr w fun ρ1 H1 v d h1 kp hr1 s1 r1 w1 => ev1 s1 hr1 w1 fun ρ2 H2 u e h2 kp2 hr2 s2 r2 w2 => ⟨ρ2, h2, d, e, _, hr2, r1.keep kp2, r2, w2.imp (fun _ _ q => q.keep (kp.trans kp2)) fun _ _ _ q => q⟩
/-! ### slices -/
def tO (K : PySem.W.Frag) (cl : Nat → Option Addr) (P : Pg) (E : XK) (c : IX.E) : TO := fun σ H Q => ∃ ρ τ h, SRel K ρ H τ σ ∧ HRel K cl ρ H h ∧ WR (evalPt P c τ h) (fun o => PostB K cl ρ H (Q o)) (PostX K cl ρ H E)
theorem evalPt_ne {P : Pg} {c : IX.E} {τ : IX.St} {h : Hh} (n : c ≠ .nil) : evalPt P c τ h = (evalE P c τ h).bind fun x h1 => match x with
    | .int i => .ok (some i) h1
    | _ => .bad := by
  cases c <;> first | rfl | exact absurd rfl n
theorem _root_.L2.PO.imp {X : Cx} {e : Option Expr} {t t' : TO} (h : PO X e t) (hi : ∀ σ H Q, t' σ H Q → t σ H Q) : PO X e t' := ⟨fun pins s σ H Q I q => h.run pins s σ H Q I (hi σ H Q q)⟩
theorem s_opt {f : Expr → Option IX.E} (hf : ∀ e c, f e = some c → PE X e (tE X.K cl P E c)) : ∀ {e : Option Expr} {c : IX.E}, optE f e = some c → PO X e (tO X.K cl P E c)
  | none, c, h => by
    cases h
    exact po_none.imp fun σ H Q ⟨ρ, τ, h, s, hr, w⟩ => (show PostB X.K cl ρ H (Q none) h from w) ρ H Keep.refl hr
  | some e, c, h => by
    change (match f e with
      | some .nil => none
      | some c => some c
      | none => none) = some c at h
    cases q : f e with
    | none => rw [q] at h; cases h
    | some c' =>
      rw [q] at h
      have n : c' ≠ .nil := by rintro rfl; cases h
      have e2 : c' = c := by
        cases c' <;> first | exact absurd rfl n | (injection h)
      subst e2
      refine (po_some (hf e c' q)).imp fun σ H Q ⟨ρ, τ, h, s, hr, w⟩ => ?_
      rw [evalPt_ne n] at w
      refine ev1 s hr w fun ρ1 H1 v d h1 kp hr1 s1 r1 w1 => ?_
      cases r1 with
      | int i => exact ⟨i, rfl, (show PostB X.K cl ρ H (Q (some i)) h1 from w1) ρ1 H1 kp hr1⟩
      | _ => exact (show False from w1).elim
theorem evo {α : Type} {K : PySem.W.Frag} {ρ : Rho} {τ : IX.St} {σ : L2.St} {H : Hp} {h : Hh} {F : Option Int → Hh → R α} {k : α → Hh → Prop} {c : IX.E} {Qv : Option Int → Hp → Prop} (s : SRel K ρ H τ σ) (hr : HRel K cl ρ H h) (w : WR ((evalPt P c τ h).bind F) k (PostX K cl ρ H E))
    (go : ∀ ρ1 H1 b h1, Keep K ρ H ρ1 H1 → HRel K cl ρ1 H1 h1 → SRel K ρ1 H1 τ σ → WR (F b h1) k (PostX K cl ρ1 H1 E) → Qv b H1) : tO K cl P E c σ H Qv :=
  ⟨ρ, τ, h, s, hr, w.bnd.imp (fun d h1 w1 ρ1 H1 kp hr1 => go ρ1 H1 d h1 kp hr1 (s.keep kp) (w1.imp (fun _ _ q => q) fun _ _ _ q => q.keep kp)) fun _ _ _ q => q⟩
theorem s_slc {lo hi : Option Expr} {cl' ch : IX.E} {p2 : Pos} (ha : PE X a (tE X.K cl P E ca)) (hl : PO X lo (tO X.K cl P E cl')) (hh : PO X hi (tO X.K cl P E ch)) : PE X (.Subscript a (.Slice lo hi none p2) pos) (tE X.K cl P E (.slc ca cl' ch)) := by
  refine (pe_slice (sl_all (cl := cl)) ha hl hh).imp fun σ H Q ⟨ρ, τ, h, s, hr, w⟩ => ?_
  exact ev1 s hr w fun ρ1 H1 v d h1 kp hr1 s1 r1 w1 => evo s1 hr1 w1 fun ρ2 H2 l h2 kp2 hr2 s2 w2 => evo s2 hr2 w2 fun ρ3 H3 u h3 kp3 hr3 s3 w3 =>
    ⟨ρ3, h3, d, _, hr3, (r1.keep kp2).keep kp3, w3.imp (fun _ _ q => q.keep ((kp.trans kp2).trans kp3)) fun _ _ _ q => q⟩
end
end IX
end

section
set_option Elab.async false
set_option linter.all false
set_option maxRecDepth 100000
set_option maxHeartbeats 2000000
/-! IX10: operators by their signs, calls, methods. -/
namespace IX
open PySem PySem.Spec PyProof.Rows L2
section
variable {X : Cx} {cl : Nat → Option Addr} {P : Pg} {E : XK} {a b c : Expr} {ca cb cc : IX.E} {pos : Pos}
theorem op_ok {op : Operator} {o : Op} (h : opOf op = some o) : OpR X (binaryOp op) (rB X.K cl o) := by
  cases op <;> cases h
  · exact op_addB
  · exact op_subB
  · exact op_mulB
  · exact op_modB
  · exact op_powB
  · exact op_fdivB
theorem cmp_ok (hu : X.A.units + 65 < cLine) {op : CmpOp} {o : Op} (h : cmpOf op = some o) : OpR X (compareOp op) (rB X.K cl o) := by
  cases op <;> cases h
  · exact op_eqB (by omega)
  · exact op_neB (by omega)
  · exact op_ltB
  · exact op_leB
  · exact op_gtB
  · exact op_geB
  · exact op_isB
  · exact op_isnotB
  · exact op_inB hu
  · exact op_notinB hu
theorem bl_bl {o : Option Bool} {h : Hh} : (∀ z h', bl! o h = R.ok z h' → ∃ k, z = .bl k) ∧ (∀ c fs h', bl! o h ≠ R.ex c fs h') := by
  cases o with
  | none => exact ⟨fun _ _ e => (by cases e), fun _ _ _ e => (by cases e)⟩
  | some b => exact ⟨fun _ _ e => (by cases e; exact ⟨_, rfl⟩), fun _ _ _ e => (by cases e)⟩
theorem ne_bl {o : Option Bool} {h : Hh} : (∀ z h', neD o h = R.ok z h' → ∃ k, z = .bl k) ∧ (∀ c fs h', neD o h ≠ R.ex c fs h') := by
  cases o with
  | none => exact ⟨fun _ _ e => (by cases e), fun _ _ _ e => (by cases e)⟩
  | some b => exact ⟨fun _ _ e => (by cases e; exact ⟨_, rfl⟩), fun _ _ _ e => (by cases e)⟩
theorem cm_bl {p : Int → Int → Bool} {x y : D} {h : Hh} : (∀ z h', cmpD p x y h = R.ok z h' → ∃ k, z = .bl k) ∧ (∀ c fs h', cmpD p x y h ≠ R.ex c fs h') := by
  unfold cmpD
  split
  · exact ⟨fun _ _ e => (by cases e; exact ⟨_, rfl⟩), fun _ _ _ e => (by cases e)⟩
  · exact ⟨fun _ _ e => (by cases e), fun _ _ _ e => (by cases e)⟩
theorem cmp_bl {op : CmpOp} {o : Op} (h : cmpOf op = some o) : (∀ x y h z h', binop o x y h = R.ok z h' → ∃ k, z = .bl k) ∧ (∀ x y h c fs h', binop o x y h ≠ R.ex c fs h') := by
  have g : ∀ x y h, (∀ z h', binop o x y h = R.ok z h' → ∃ k, z = .bl k) ∧ (∀ c fs h', binop o x y h ≠ R.ex c fs h') := fun x y hh => by
    cases op <;> cases h <;> first | exact bl_bl | exact ne_bl | exact cm_bl
  exact ⟨fun x y h => (g x y h).1, fun x y h => (g x y h).2⟩
theorem name_of {x : Str} (h : okName x = true) : (x == ("__debug__" : Str)) = false ∧ (x == ("__classdict__" : Str)) = false ∧ x ≠ ("__name__" : Str) := by
  unfold okName at h
  simp only [Bool.and_eq_true, Bool.not_eq_true', decide_eq_false_iff_not] at h
  exact ⟨h.1.1, h.1.2, h.2⟩
/-! ### calls of defs -/
section
variable {G : Gam} {T : Tbl} {n f : Nat} {x : Str} {es : List Expr} {ce : IX.E} {p : Pos}
theorem s_call {e : Expr} (o : Ok X G T cl n E) (hg : Gl X x) (hx : G.glob x = some (.fn f)) (hd : (x == ("__debug__" : Str)) = false) (ha : PA X (e :: es) (tA X.K cl (pgT T n) E ce)) (hs : starEach (e :: es) X.env = (false, eval e X.env) :: starEach es X.env) (hpl : (backTo pos (starEach es X.env)).any (·.1) = false) :
    PE X (.Call (.Name x p) (e :: es) [] pos) (tE X.K cl (pgT T n) E (.call f ce)) := by
  obtain ⟨a, fd, ps, hm, hk, hb, F⟩ := o.fn x f hx
  refine (pe_call F o.room hg hm hk hb .nil o.pass ha hd hs hpl).imp fun σ H Q ⟨ρ, τ, h, s, hr, w⟩ => ?_
  refine evs s hr w fun ρ1 H1 vs ds h1 kp hr1 s1 r1 w1 => ?_
  rw [List.append_nil]
  exact ⟨ρ1, h1, ds, hr1, r1, (show WR (callF T n f ds h1) _ _ from w1).imp (fun _ _ q => q.keep kp) fun _ _ _ q => q⟩
theorem s_call0 (o : Ok X G T cl n E) (hg : Gl X x) (hx : G.glob x = some (.fn f)) (hd : (x == ("__debug__" : Str)) = false) :
    PE X (.Call (.Name x p) [] [] pos) (tE X.K cl (pgT T n) E (.call f .nil)) := by
  obtain ⟨a, fd, ps, hm, hk, hb, F⟩ := o.fn x f hx
  refine (pe_call0 F o.room hg hm hk hb .nil o.pass hd).imp fun σ H Q ⟨ρ, τ, h, s, hr, w⟩ => ?_
  exact ⟨ρ, h, [], hr, .nil, (show WR (callF T n f [] h) _ _ from w)⟩
end
/-! ### isinstance -/
def rIsiD (K : PySem.W.Frag) (cl : Nat → Option Addr) (t : Ty) : List V → Hp → VK → Prop := fun vs H Q => ∃ ρ h d x z, vs = [x, .ty (tyName t)] ∧ HRel K cl ρ H h ∧ Rep K ρ H d x ∧ WR (bl! (isAny d h [t]) h) (PostE K cl ρ H Q) z
theorem isi_at {t : Ty} : CallR X (.builtin "isinstance") (rIsiD X.K cl t) := by
  intro pins s σ H xs us Q I r ⟨ρ, h, d, x, z, e, hr, r1, w⟩
  obtain ⟨b, eb, q⟩ := wr_bl hr w
  have e1 : ∃ b1, isTy d h t = some b1 := by
    unfold isAny at eb
    cases q1 : isTy d h t with
    | none => rw [q1] at eb; cases eb
    | some b1 => exact ⟨b1, rfl⟩
  obtain ⟨b1, e1⟩ := e1
  have e2 : b = b1 := by
    unfold isAny isAny at eb
    rw [e1] at eb
    cases eb
    exact Bool.or_false b1
  subst e2
  obtain ⟨T, ty, k⟩ := ty_of hr r1 e1
  exact call_isi pins s σ H xs us Q I r ⟨x, .ty (tyName t), .type T, .type (tyName t), b, e, .ty _, ty, kit_ty (k t b e1).2, q⟩
theorem ty_boot {G : Gam} {sc : Scope} {e : Expr} {t : Ty} (ht : tyOf G sc e = some t) : isOwn t = true ∨ ∃ x p, e = .Name x p ∧ isGl (sc.names.lookup x) = true ∧ isBlt x = true ∧ bootBuiltins x = some (.type (tyName t)) ∧ x ≠ ("__name__" : Str) ∧ (x == ("__debug__" : Str)) = false := by
  cases e with
  | Name x p =>
    simp only [tyOf] at ht
    by_cases hg : isGl (sc.names.lookup x) = true
    · rw [if_pos hg] at ht
      cases hx : G.glob x with
      | some k =>
        rw [hx] at ht
        cases k with
        | cls c => cases ht; exact .inl rfl
        | fn _ => cases ht
        | cst _ => cases ht
      | none =>
        rw [hx] at ht
        refine .inr ⟨x, p, rfl, hg, ?_⟩
        by_cases h1 : x = ("int" : Str)
        · rw [if_pos h1] at ht; cases ht; subst h1; exact ⟨by decide, by decide +kernel, by decide, by decide⟩
        rw [if_neg h1] at ht
        by_cases h2 : x = ("bool" : Str)
        · rw [if_pos h2] at ht; cases ht; subst h2; exact ⟨by decide, by decide +kernel, by decide, by decide⟩
        rw [if_neg h2] at ht
        by_cases h3 : x = ("str" : Str)
        · rw [if_pos h3] at ht; cases ht; subst h3; exact ⟨by decide, by decide +kernel, by decide, by decide⟩
        rw [if_neg h3] at ht
        by_cases h4 : x = ("tuple" : Str)
        · rw [if_pos h4] at ht; cases ht; subst h4; exact ⟨by decide, by decide +kernel, by decide, by decide⟩
        rw [if_neg h4] at ht
        by_cases h5 : x = ("list" : Str)
        · rw [if_pos h5] at ht; cases ht; subst h5; exact ⟨by decide, by decide +kernel, by decide, by decide⟩
        rw [if_neg h5] at ht
        by_cases h6 : x = ("dict" : Str)
        · rw [if_pos h6] at ht; cases ht; subst h6; exact ⟨by decide, by decide +kernel, by decide, by decide⟩
        rw [if_neg h6] at ht; cases ht
    · rw [if_neg hg] at ht; cases ht
  | _ => cases ht
theorem s_isi {G : Gam} {T : Tbl} {n : Nat} {sc : Scope} {e : Expr} {t : Ty} {p : Pos} (o : Ok X G T cl n E) (S : ScOk X sc) (hg : Gl X "isinstance") (hm : X.mg "isinstance" = none) (ht : tyOf G sc e = some t) (ho : isOwn t = false) (ha : PE X a (tE X.K cl P E ca)) (h1 : notStar a = true) (h2 : notStar e = true) :
    PE X (.Call (.Name "isinstance" p) [a, e] [] pos) (tE X.K cl P E (.isi ca [t])) := by
  rcases ty_boot ht with ho2 | ⟨x, px, rfl, g, gx, hv, hn, hd⟩
  · rw [ho] at ho2; cases ho2
  · have hc : PE X (.Name x px) (tC (.ty (tyName t))) := pe_bltn (S.gl x g) (o.non x gx) hv rfl hn hd
    refine (pe_callB (isi_at (cl := cl) (t := t)) hg hm (by decide +kernel) (pa_cons ha (pa_cons hc pa_nil (star_of h2)) (star_of h1)) (by decide) (by decide) (star_of h1) rfl).imp fun σ H Q ⟨ρ, τ, h, s, hr, w⟩ => ?_
    exact ev1 s hr w fun ρ1 H1 v d h1 kp hr1 s1 r1 w1 => ⟨ρ1, h1, d, v, PostX X.K cl ρ1 H1 E, rfl, hr1, r1, w1.imp (fun _ _ q => q.keep kp) fun _ _ _ q => q⟩
end
end IX
end

section
set_option Elab.async false
set_option linter.all false
set_option maxRecDepth 100000
set_option maxHeartbeats 2000000
/-! IXy: methods of dicts. -/
namespace IX
open PySem PySem.Spec PyProof.Rows L2
section
variable {X : Cx} {cl : Nat → Option Addr}
theorem me_get (hu : X.A.units + 1 < cLine) : MtR X "dict.get" (rMe X.K cl .get) := by
  intro pins s σ H x xs v us Q I rx r h
  obtain ⟨ρ, h, d, ds, z, hr, a, t, w⟩ := h
  match d, ds, a, t, w with
  | .ref l, [k], a, t, w =>
    obtain ⟨u, rfl, b⟩ := reps1 t
    obtain ⟨vu, rfl, rk⟩ := vals1 r
    cases a with
    | @ref _ p ea =>
      cases rx
      have w' : WR (match h[l]? with
        | some (.dic kvs) => if (keyD k).isSome then R.ok ((lookD k kvs).getD .non) h else .bad
        | _ => .bad) (PostE X.K cl ρ H Q) z := w
      cases eo : h[l]? with
      | none => rw [eo] at w'; exact (show False from w').elim
      | some o =>
        rw [eo] at w'
        cases o with
        | lst _ => exact (show False from w').elim
        | ins _ _ => exact (show False from w').elim
        | dic kvs =>
          obtain ⟨ks, e3, t1⟩ := obj_dic hr ea eo
          dsimp only at w'
          cases q : keyD k with
          | none => rw [q] at w'; exact (show False from w').elim
          | some j =>
            rw [q] at w'
            have eu := keyD_kV b q
            subst eu
            have lr := look_rel q t1
            refine d_get1 (o := valV ks j) hu I (DGet.k e3) rk fun w1 s1 I1 r1 => ⟨_, H, I1, r1, ?_⟩
            cases q2 : lookD k kvs with
            | none =>
              rw [q2] at w'
              rw [lr.2 q2]
              exact PostE.now hr .non w'
            | some d1 =>
              rw [q2] at w'
              obtain ⟨v1, e4, r4⟩ := lr.1 d1 q2
              rw [e4]
              exact PostE.now hr r4 w'
  | .ref l, [k, k2], a, t, w =>
    cases t with
    | @cons _ _ u _ b t2 =>
    obtain ⟨u2, rfl, b2⟩ := reps1 t2
    cases r with
    | cons rk r2 =>
    obtain ⟨vu2, rfl, rk2⟩ := vals1 r2
    cases a with
    | @ref _ p ea =>
      cases rx
      have w' : WR (match h[l]? with
        | some (.dic kvs) => if (keyD k).isSome then R.ok ((lookD k kvs).getD k2) h else .bad
        | _ => .bad) (PostE X.K cl ρ H Q) z := w
      cases eo : h[l]? with
      | none => rw [eo] at w'; exact (show False from w').elim
      | some o =>
        rw [eo] at w'
        cases o with
        | lst _ => exact (show False from w').elim
        | ins _ _ => exact (show False from w').elim
        | dic kvs =>
          obtain ⟨ks, e3, t1⟩ := obj_dic hr ea eo
          dsimp only at w'
          cases q : keyD k with
          | none => rw [q] at w'; exact (show False from w').elim
          | some j =>
            rw [q] at w'
            have eu := keyD_kV b q
            subst eu
            have lr := look_rel q t1
            refine d_get2 (o := valV ks j) hu I (DGet.k e3) rk rk2 fun w1 s1 I1 r1 => ⟨_, H, I1, r1, ?_⟩
            cases q2 : lookD k kvs with
            | none =>
              rw [q2] at w'
              rw [lr.2 q2]
              exact PostE.now hr b2 w'
            | some d1 =>
              rw [q2] at w'
              obtain ⟨v1, e4, r4⟩ := lr.1 d1 q2
              rw [e4]
              exact PostE.now hr r4 w'
theorem me_clear : MtR X "dict.clear" (rMe X.K cl .clear) := by
  intro pins s σ H x xs v us Q I rx r h
  obtain ⟨ρ, h, d, ds, z, hr, a, t, w⟩ := h
  match d, ds, a, t, w with
  | .ref l, [], a, t, w =>
    cases t
    cases r
    cases a with
    | @ref _ p ea =>
      cases rx
      have w' : WR (match h[l]? with
        | some (.dic kvs) => R.ok .non (h.set l (.dic []))
        | _ => .bad) (PostE X.K cl ρ H Q) z := w
      cases eo : h[l]? with
      | none => rw [eo] at w'; exact (show False from w').elim
      | some o =>
        rw [eo] at w'
        cases o with
        | ins _ _ => exact (show False from w').elim
        | lst _ => exact (show False from w').elim
        | dic kvs =>
          obtain ⟨ks, e3, t1⟩ := obj_dic hr ea eo
          exact d_clear I e3 fun s' I' => ⟨.non, _, I', rfl, put_dic hr ea e3 .nil w'⟩
end
end IX
end

section
set_option Elab.async false
set_option linter.all false
set_option maxRecDepth 100000
set_option maxHeartbeats 2000000
/-! IX11: built-in functions and methods in the text. -/
namespace IX
open PySem PySem.Spec PyProof.Rows L2
section
variable {X : Cx} {cl : Nat → Option Addr} {P : Pg} {E : XK} {a b c : Expr} {ca cb cc : IX.E} {pos : Pos}
theorem bi_blt {x : Str} {b : Bi} (h : biOf x = some b) : isBlt x = true := by
  unfold biOf at h
  by_cases h1 : x = ("len" : Str)
  · subst h1; decide
  rw [if_neg h1] at h
  by_cases h1 : x = ("max" : Str)
  · subst h1; decide
  rw [if_neg h1] at h
  by_cases h1 : x = ("min" : Str)
  · subst h1; decide
  rw [if_neg h1] at h
  by_cases h1 : x = ("int" : Str)
  · subst h1; decide
  rw [if_neg h1] at h
  by_cases h1 : x = ("str" : Str)
  · subst h1; decide
  rw [if_neg h1] at h
  by_cases h1 : x = ("list" : Str)
  · subst h1; decide
  rw [if_neg h1] at h
  by_cases h1 : x = ("tuple" : Str)
  · subst h1; decide
  rw [if_neg h1] at h
  by_cases h1 : x = ("all" : Str)
  · subst h1; decide
  rw [if_neg h1] at h
  by_cases h1 : x = ("sorted" : Str)
  · subst h1; decide
  rw [if_neg h1] at h
  by_cases h1 : x = ("dict" : Str)
  · subst h1; decide
  rw [if_neg h1] at h; cases h
theorem bi_ok (hc : X.calm = true) {x : Str} {b : Bi} (h : biOf x = some b) : (∃ id, bootBuiltins x = some (.builtin id) ∧ CallR X (.builtin id) (rBi X.K cl b)) ∨ ∃ t, bootBuiltins x = some (.type t) ∧ CallR X (.type t) (rBi X.K cl b) := by
  unfold biOf at h
  by_cases h1 : x = ("len" : Str)
  · rw [if_pos h1] at h; cases h; subst h1; exact .inl ⟨"len", by decide +kernel, bi_len⟩
  rw [if_neg h1] at h
  by_cases h1 : x = ("max" : Str)
  · rw [if_pos h1] at h; cases h; subst h1; exact .inl ⟨"max", by decide +kernel, bi_max hc⟩
  rw [if_neg h1] at h
  by_cases h1 : x = ("min" : Str)
  · rw [if_pos h1] at h; cases h; subst h1; exact .inl ⟨"min", by decide +kernel, bi_min hc⟩
  rw [if_neg h1] at h
  by_cases h1 : x = ("int" : Str)
  · rw [if_pos h1] at h; cases h; subst h1; exact .inr ⟨"int", by decide +kernel, bi_int⟩
  rw [if_neg h1] at h
  by_cases h1 : x = ("str" : Str)
  · rw [if_pos h1] at h; cases h; subst h1; exact .inr ⟨"str", by decide +kernel, bi_str⟩
  rw [if_neg h1] at h
  by_cases h1 : x = ("list" : Str)
  · rw [if_pos h1] at h; cases h; subst h1; exact .inr ⟨"list", by decide +kernel, bi_list⟩
  rw [if_neg h1] at h
  by_cases h1 : x = ("tuple" : Str)
  · rw [if_pos h1] at h; cases h; subst h1; exact .inr ⟨"tuple", by decide +kernel, bi_tuple⟩
  rw [if_neg h1] at h
  by_cases h1 : x = ("all" : Str)
  · rw [if_pos h1] at h; cases h; subst h1; exact .inl ⟨"all", by decide +kernel, bi_all hc⟩
  rw [if_neg h1] at h
  by_cases h1 : x = ("sorted" : Str)
  · rw [if_pos h1] at h; cases h; subst h1; exact .inl ⟨"sorted", by decide +kernel, bi_sorted⟩
  rw [if_neg h1] at h
  by_cases h1 : x = ("dict" : Str)
  · rw [if_pos h1] at h; cases h; subst h1; exact .inr ⟨"dict", by decide +kernel, bi_dict⟩
  rw [if_neg h1] at h; cases h
theorem s_bi {x : Str} {k : Bi} {e : Expr} {es : List Expr} {ce : IX.E} {p : Pos} (hc : X.calm = true) (hk : biOf x = some k) (hg : Gl X x) (hm : X.mg x = none) (hn : x ≠ ("__name__" : Str)) (hd : (x == ("__debug__" : Str)) = false) (ha : PA X (e :: es) (tA X.K cl P E ce))
    (hs : starEach (e :: es) X.env = (false, eval e X.env) :: starEach es X.env) (hpl : (backTo pos (starEach es X.env)).any (·.1) = false) : PE X (.Call (.Name x p) (e :: es) [] pos) (tE X.K cl P E (.bi k ce)) := by
  have go : ∀ σ H Q, tE X.K cl P E (.bi k ce) σ H Q → tCB (rBi X.K cl k) (tA X.K cl P E ce) σ H Q := fun σ H Q ⟨ρ, τ, h, s, hr, w⟩ =>
    evs s hr w fun ρ1 H1 vs ds h1 kp hr1 s1 r1 w1 => ⟨ρ1, h1, ds, PostX X.K cl ρ1 H1 E, hr1, r1, w1.imp (fun _ _ q => q.keep kp) fun _ _ _ q => q⟩
  rcases bi_ok (cl := cl) hc hk with ⟨id, hv, hr⟩ | ⟨t, hv, hr⟩
  · exact (pe_callB hr hg hm hv ha hn hd hs hpl).imp go
  · exact (pe_callTy hr hg hm hv ha hn hd hs hpl).imp go
/-! ### methods -/
theorem me_ok (hu : X.A.units + 1 < cLine) {m : Str} {k : Me} (h : meOf m = some k) : ∃ T id, PlainAttrs T ∧ Slot T m id ∧ typeOf (.builtin id) = pure (.type "method_descriptor") ∧ MtR X id (rMe X.K cl k) ∧
    ∀ ρ H h d x, HRel X.K cl ρ H h → Rep X.K ρ H d x → meTy k d h = true → tyV X.K T x H := by
  have st : ∀ (ρ : Rho) (H : Hp) (h : Hh) (d : D) (x : V), Rep X.K ρ H d x → (match d with | .str _ => true | _ => false) = true → tyV X.K "str" x H := fun ρ H h d x r q => by
    cases r with
    | str x z => exact rfl
    | _ => cases q
  unfold meOf at h
  by_cases h1 : m = ("split" : Str)
  · rw [if_pos h1] at h; cases h; subst h1
    exact ⟨"str", "str.split", PySem.F.plainAttrs_str, PySem.F.slot_str_split, PySem.F.type_str_split, me_split, fun ρ H h d x _ r q => st ρ H h d x r q⟩
  rw [if_neg h1] at h
  by_cases h1 : m = ("join" : Str)
  · rw [if_pos h1] at h; cases h; subst h1
    exact ⟨"str", "str.join", PySem.F.plainAttrs_str, PySem.F.slot_str_join, PySem.F.type_str_join, me_join, fun ρ H h d x _ r q => st ρ H h d x r q⟩
  rw [if_neg h1] at h
  by_cases h1 : m = ("upper" : Str)
  · rw [if_pos h1] at h; cases h; subst h1
    exact ⟨"str", "str.upper", PySem.F.plainAttrs_str, PySem.F.slot_str_upper, PySem.F.type_str_upper, me_upper, fun ρ H h d x _ r q => st ρ H h d x r q⟩
  rw [if_neg h1] at h
  by_cases h1 : m = ("append" : Str)
  · rw [if_pos h1] at h; cases h; subst h1
    refine ⟨"list", "list.append", PySem.F.plainAttrs_list, PySem.F.slot_list_append, PySem.F.type_list_append, me_append, fun ρ H h d x hr r q => ?_⟩
    cases r with
    | @ref a p ea =>
      simp only [meTy] at q
      cases eo : h[a]? with
      | none => rw [eo] at q; cases q
      | some o =>
        rw [eo] at q
        cases o with
        | lst ds =>
          obtain ⟨vs, e3, _⟩ := obj_lst hr ea eo
          exact .inl ⟨rfl, vs, SqL.of e3⟩
        | _ => cases q
    | _ => cases q
  rw [if_neg h1] at h
  by_cases h1 : m = ("insert" : Str)
  · rw [if_pos h1] at h; cases h; subst h1
    refine ⟨"list", "list.insert", PySem.F.plainAttrs_list, PySem.F.slot_list_insert, PySem.F.type_list_insert, me_insert, fun ρ H h d x hr r q => ?_⟩
    cases r with
    | @ref a p ea =>
      simp only [meTy] at q
      cases eo : h[a]? with
      | none => rw [eo] at q; cases q
      | some o =>
        rw [eo] at q
        cases o with
        | lst ds =>
          obtain ⟨vs, e3, _⟩ := obj_lst hr ea eo
          exact .inl ⟨rfl, vs, SqL.of e3⟩
        | _ => cases q
    | _ => cases q
  rw [if_neg h1] at h
  have dt : ∀ {k : Me}, (∀ (a : Nat) (h : Hh), meTy k (.ref a) h = (match h[a]? with | some (.dic _) => true | _ => false)) → (∀ (d : D) (h : Hh), (∀ a, d ≠ .ref a) → meTy k d h = false) →
      ∀ (ρ : Rho) (H : Hp) (h : Hh) (d : D) (x : V), HRel X.K cl ρ H h → Rep X.K ρ H d x → meTy k d h = true → tyV X.K "dict" x H := fun {k} k1 k2 ρ H h d x hr r q => by
    cases r with
    | @ref a p ea =>
      rw [k1] at q
      cases eo : h[a]? with
      | none => rw [eo] at q; cases q
      | some o =>
        rw [eo] at q
        cases o with
        | dic ds =>
          obtain ⟨vs, e3, _⟩ := obj_dic hr ea eo
          exact .inr (.inr (.inl ⟨rfl, .inl ⟨_, e3⟩⟩))
        | _ => cases q
    | non => rw [k2 .non h (fun a e => by cases e)] at q; cases q
    | bl b => rw [k2 (.bl b) h (fun a e => by cases e)] at q; cases q
    | int i => rw [k2 (.int i) h (fun a e => by cases e)] at q; cases q
    | str y z => rw [k2 (.str y) h (fun a e => by cases e)] at q; cases q
    | @tup p ds vs _ _ => rw [k2 (.tup ds) h (fun a e => by cases e)] at q; cases q
    | @lck p ds vs _ _ => rw [k2 (.lck ds) h (fun a e => by cases e)] at q; cases q
  by_cases h1 : m = ("get" : Str)
  · rw [if_pos h1] at h; cases h; subst h1
    exact ⟨"dict", "dict.get", PySem.F.plainAttrs_dict, PySem.F.slot_dict_get, PySem.F.type_dict_get, me_get hu, dt (fun _ _ => rfl) (fun d h e => by cases d <;> first | rfl | exact absurd rfl (e _))⟩
  rw [if_neg h1] at h
  by_cases h1 : m = ("clear" : Str)
  · rw [if_pos h1] at h; cases h; subst h1
    exact ⟨"dict", "dict.clear", PySem.F.plainAttrs_dict, PySem.F.slot_dict_clear, PySem.F.type_dict_clear, me_clear, dt (fun _ _ => rfl) (fun d h e => by cases d <;> first | rfl | exact absurd rfl (e _))⟩
  rw [if_neg h1] at h; cases h
theorem base_of {o : Expr} {m : Str} {env : Env} {w : Sem Value} (h : notSup o = true) : attributeBase o m env w = w := by
  cases o <;> try rfl
  rename_i f args kws p
  cases f <;> try rfl
  cases args <;> try rfl
  cases kws <;> try rfl
  cases h
theorem few_of {es : List Expr} {env : Env} {pos : Pos} (h : (backTo pos (starEach es env)).any (·.1) = false) : (backTo pos (starEach es env)).all (fun x => !x.1) = true := by
  have : ∀ l : List (Bool × Sem Value), l.any (·.1) = false → l.all (fun x => !x.1) = true := fun l hl => by
    induction l with
    | nil => rfl
    | cons y r ih =>
      rw [List.any_cons, Bool.or_eq_false_iff] at hl
      rw [List.all_cons, ih hl.2, hl.1]; rfl
  exact this _ h
theorem s_me0 {o : Expr} {co : IX.E} {m : Str} {k : Me} {apos cpos : Pos} (hu : X.A.units + 1 < cLine) (hk : meOf m = some k) (ho : PE X o (tE X.K cl P E co)) (hb : notSup o = true) (hl : (apos.endLine == cpos.line) = true) : PE X (.Call (.Attribute o m apos) [] [] cpos) (tE X.K cl P E (.me k co .nil)) := by
  obtain ⟨T, id, pa, sl, ty, hm, tv⟩ := me_ok (X := X) (cl := cl) hu hk
  refine (pe_bm0 pa sl ty hm ho (base_of hb) hl).imp fun σ H Q ⟨ρ, τ, h, s, hr, w⟩ => ?_
  refine ev1 s hr w fun ρ1 H1 v d h1 kp hr1 s1 r1 w1 => ?_
  by_cases q : meTy k d h1 = true
  · rw [if_pos q] at w1
    exact ⟨tv ρ1 H1 h1 d v hr1 r1 q, ρ1, h1, d, [], _, hr1, r1, .nil, (show WR (meD k d [] h1) _ (PostX X.K cl ρ1 H1 E) from w1).imp (fun _ _ q => q.keep kp) fun _ _ _ q => q⟩
  · rw [if_neg q] at w1; exact (show False from w1).elim
theorem s_me {o e : Expr} {es : List Expr} {co ce : IX.E} {m : Str} {k : Me} {apos cpos : Pos} (hu : X.A.units + 1 < cLine) (hk : meOf m = some k) (ho : PE X o (tE X.K cl P E co)) (ha : PA X (e :: es) (tA X.K cl P E ce)) (hb : notSup o = true) (hl : (apos.endLine == cpos.line) = true)
    (hlen : (e :: es).length < 29) (hs : starEach (e :: es) X.env = (false, eval e X.env) :: starEach es X.env) (hpl0 : (backTo cpos (starEach (e :: es) X.env)).any (·.1) = false) (hpl : (backTo cpos (starEach es X.env)).any (·.1) = false) :
    PE X (.Call (.Attribute o m apos) (e :: es) [] cpos) (tE X.K cl P E (.me k co ce)) := by
  obtain ⟨T, id, pa, sl, ty, hm, tv⟩ := me_ok (X := X) (cl := cl) hu hk
  have hfew : ((backTo cpos (starEach (e :: es) X.env)).all (fun x => !x.1) && (backToKw cpos (keywordEach [] X.env)).all (fun x => x.1.isSome)
      && decide ((e :: es).length + ([] : List Keyword).length + (if ([] : List Keyword).isEmpty then 0 else 1) < 30)) = true := by
    rw [few_of hpl0]
    show (true && decide ((e :: es).length + 0 + 0 < 30)) = true
    rw [decide_eq_true (by omega)]; rfl
  refine (pe_bm pa sl ty hm ho ha (base_of hb) hfew hl hs hpl).imp fun σ H Q ⟨ρ, τ, h, s, hr, w⟩ => ?_
  refine ev1 s hr w fun ρ1 H1 v d h1 kp hr1 s1 r1 w1 => ?_
  by_cases q : meTy k d h1 = true
  · rw [if_pos q] at w1
    refine ⟨tv ρ1 H1 h1 d v hr1 r1 q, evs s1 hr1 w1 fun ρ2 H2 vs ds h2 kp2 hr2 s2 r2 w2 => ?_⟩
    exact ⟨ρ2, h2, d, ds, _, hr2, r1.keep kp2, r2, (show WR (meD k d ds h2) _ (PostX X.K cl ρ2 H2 E) from w2).imp (fun _ _ q => q.keep (kp.trans kp2)) fun _ _ _ q => q⟩
  · rw [if_neg q] at w1; exact (show False from w1).elim
/-! ### targets -/
def tG (K : PySem.W.Frag) (cl : Nat → Option Addr) (g : List Nat) (tp : Bool) : TG := fun v σ H Q => ∃ ρ τ h d, SRel K ρ H τ σ ∧ HRel K cl ρ H h ∧ Rep K ρ H d v ∧ ∃ τ', target g tp d τ h = some τ' ∧
  ∀ σ', SRel K ρ H τ' σ' → (∀ vs : List Nat, (∀ i ∈ g, i ∈ vs) → wipe σ' vs = wipe σ vs) → Q σ' H
theorem wipe_in {σ : L2.St} {i : Nat} : ∀ {vs : List Nat}, i ∈ vs → (wipe σ vs)[i]? = σ[i]?.map fun _ => none
  | v :: vs, h => by
    unfold wipe
    by_cases e : v = i
    · subst e
      by_cases z : v < (wipe σ vs).length
      · rw [List.getElem?_set_self z]
        have z2 : v < σ.length := by rw [wipe_length] at z; exact z
        rw [List.getElem?_eq_getElem z2]; rfl
      · rw [List.getElem?_eq_none (by rw [List.length_set]; omega)]
        rw [wipe_length] at z
        rw [List.getElem?_eq_none (by omega)]; rfl
    · rw [List.getElem?_set_ne e]
      rcases List.mem_cons.mp h with h | h
      · exact absurd h.symm e
      · exact wipe_in h
theorem wipe_set {σ : L2.St} {i : Nat} {v : Option V} {vs : List Nat} (h : i ∈ vs) : wipe (σ.set i v) vs = wipe σ vs := by
  apply List.ext_getElem?
  intro j
  by_cases hj : j ∈ vs
  · rw [wipe_in hj, wipe_in hj]
    by_cases e : i = j
    · subst e
      by_cases z : i < σ.length
      · rw [List.getElem?_set_self z, List.getElem?_eq_getElem z]; rfl
      · rw [List.getElem?_eq_none (by rw [List.length_set]; omega), List.getElem?_eq_none (by omega)]
    · rw [List.getElem?_set_ne e]
  · rw [wipe_out hj, wipe_out hj, List.getElem?_set_ne (fun e : i = j => hj (e ▸ h))]
def setV : List Nat → List V → L2.St → L2.St
  | i :: is, v :: vs, σ => setV is vs (σ.set i (some v))
  | _, _, σ => σ
theorem setV_rel {K : PySem.W.Frag} {ρ : Rho} {H : Hp} : ∀ {g : List Nat} {ds : List D} {vs : List V} {τ τ' : IX.St} {σ : L2.St}, SRel K ρ H τ σ → Reps K ρ H ds vs → setAll g ds τ = some τ' → vs.length = g.length ∧ SRel K ρ H τ' (setV g vs σ) ∧ ∀ ws : List Nat, (∀ i ∈ g, i ∈ ws) → wipe (setV g vs σ) ws = wipe σ ws
  | [], [], _, τ, τ', σ, s, .nil, e => by cases e; exact ⟨rfl, s, fun _ _ => rfl⟩
  | [], _ :: _, _, τ, τ', σ, s, .cons _ _, e => by cases e
  | _ :: _, [], _, τ, τ', σ, s, .nil, e => by cases e
  | i :: g, d :: ds, _, τ, τ', σ, s, .cons a r, e => by
    obtain ⟨h1, h2, h3⟩ := setV_rel (s.set a i) r e
    refine ⟨congrArg Nat.succ h1, h2, fun ws hw => ?_⟩
    exact (h3 ws fun j hj => hw j (List.mem_cons_of_mem _ hj)).trans (wipe_set (hw i List.mem_cons_self))
theorem place_ix : ∀ {N : List Str} {x : Str} {i : Nat}, place x N = some i → N[i]? = some x
  | [], x, i, h => by cases h
  | y :: r, x, i, h => by
    unfold place at h
    by_cases e : y = x
    · rw [if_pos e] at h; cases h; exact congrArg some e
    · rw [if_neg e] at h
      cases q : place x r with
      | none => rw [q] at h; cases h
      | some j => rw [q] at h; cases h; exact (show r[j]? = some x from place_ix q)
theorem compN_ok {N : List Str} {sc : Scope} {e : Expr} {i : Nat} (h : compN N sc e = some i) : ∃ x p, e = .Name x p ∧ isLoc (sc.names.lookup x) = true ∧ N[i]? = some x := by
  cases e with
  | Name x p =>
    simp only [compN] at h
    by_cases l : isLoc (sc.names.lookup x) = true
    · rw [if_pos l] at h; exact ⟨x, p, rfl, l, place_ix h⟩
    · rw [if_neg l] at h; cases h
  | _ => cases h
def gNames (is : List Nat) : TGs := fun vs σ H Q => vs.length = is.length ∧ Q (setV is vs σ) H
theorem pgs_names {sc : Scope} (hN : X.N.Nodup) (S : ScOk X sc) : ∀ {es : List Expr} {is : List Nat}, compNs X.N sc es = some is → PGs X es (gNames is) ∧ (assignEach es X.env).length = is.length ∧ (assignEach es X.env).findIdx? (·.1) = none
  | [], is, h => by
    cases h
    refine ⟨⟨fun pins s σ H vs us Q I r ⟨e, q⟩ => pgs_nil.run pins s σ H vs us Q I r ⟨List.length_eq_zero_iff.mp e, ?_⟩⟩, rfl, rfl⟩
    have : setV [] vs σ = σ := by cases vs <;> rfl
    rw [this] at q; exact q
  | e :: es, is, h => by
    unfold compNs at h
    cases q1 : compN X.N sc e with
    | none => rw [q1] at h; cases h
    | some i =>
      cases q2 : compNs X.N sc es with
      | none => rw [q1, q2] at h; cases h
      | some is' =>
        rw [q1, q2] at h
        cases h
        obtain ⟨x, p, rfl, l, hx⟩ := compN_ok q1
        obtain ⟨g, g1, g2⟩ := pgs_names hN S q2
        have hl := S.loc x l
        refine ⟨⟨fun pins s σ H vs us Q I r ⟨e, q⟩ => (pgs_cons (pg_name hN hx hl.1 hl.2) g rfl).run pins s σ H vs us Q I r ?_⟩, congrArg Nat.succ g1, ?_⟩
        · cases vs with
          | nil => cases e
          | cons v vs => exact ⟨v, vs, rfl, Nat.succ.inj e, q⟩
        · show List.findIdx? _ ((false, assign (.Name x p) X.env) :: assignEach es X.env) = none
          rw [List.findIdx?_cons, g2]; rfl
theorem s_tg {sc : Scope} {tg : Expr} {g : List Nat} {tp : Bool} (hc : X.calm = true) (hN : X.N.Nodup) (S : ScOk X sc) (h : compT X.N sc tg = some (g, tp)) : PG X tg (tG X.K cl g tp) := by
  cases tg with
  | Name x p =>
    simp only [compT] at h
    cases q : compN X.N sc (.Name x p) with
    | none => rw [q] at h; cases h
    | some i =>
      rw [q] at h
      cases h
      obtain ⟨y, p', e, l, hx⟩ := compN_ok q
      cases e
      have hl := S.loc x l
      refine ⟨fun pins s σ H v u Q I r ⟨ρ, τ, h, d, sr, hr, rp, τ', ht, k⟩ => (pg_name hN hx hl.1 hl.2).run pins s σ H v u Q I r ?_⟩
      have e1 : τ' = τ.set i (some d) := by cases ht; rfl
      subst e1
      exact k _ (sr.set rp i) fun vs hv => wipe_set (hv i List.mem_cons_self)
  | Tuple es k p =>
    simp only [compT] at h
    cases q : compNs X.N sc es with
    | none => rw [q] at h; cases h
    | some is =>
      rw [q] at h
      cases h
      obtain ⟨G, g1, g2⟩ := pgs_names hN S q
      refine ⟨fun pins s σ H v u Q I r ⟨ρ, τ, h, d, sr, hr, rp, τ', ht, k⟩ => ?_⟩
      cases rp with
      | @tup p2 ds vs s1 t1 =>
        obtain ⟨h1, h2, h3⟩ := setV_rel sr t1 (show setAll g ds τ = some τ' from ht)
        exact (pg_tup hc G g1 g2).run pins s σ H _ u Q I r ⟨p2, vs, rfl, s1, h1, h1, k _ h2 h3⟩
      | @ref a p2 ea =>
        simp only [target] at ht
        cases eo : h[a]? with
        | none => rw [eo] at ht; cases ht
        | some o =>
          rw [eo] at ht
          cases o with
          | lst ds =>
            obtain ⟨vs, e3, t1⟩ := obj_lst hr ea eo
            obtain ⟨h1, h2, h3⟩ := setV_rel sr t1 (show setAll g ds τ = some τ' from ht)
            exact (pg_lst (k := 0) hc G g1 g2).run pins s σ H _ u Q I r ⟨p2, vs, rfl, SqL.of e3, h1, h1, k _ h2 h3⟩
          | _ => cases ht
      | _ => cases ht
  | _ => cases h
end
end IX
end

section
set_option Elab.async false
set_option linter.all false
set_option maxRecDepth 100000
set_option maxHeartbeats 2000000
/-! IX12: what is walked; comprehensions. -/
namespace IX
open PySem PySem.Spec PyProof.Rows L2
/-- the walk J yields the items of t -/
structure ItRel (K : PySem.W.Frag) (cl : Nat → Option Addr) (ρ0 : Rho) (H0 : Hp) (t : IX.Its) (J : It) : Prop where
  go : ∀ (i : Nat) (ρ : Rho) (H : Hp) (h : Hh), Keep K ρ0 H0 ρ H → HRel K cl ρ H h → t.stands h → i < t.xs.length → J.go i H
  stop : ∀ (i : Nat) (ρ : Rho) (H : Hp) (h : Hh), Keep K ρ0 H0 ρ H → HRel K cl ρ H h → t.stands h → t.xs.length ≤ i → J.stop i H
  yld : ∀ (i : Nat) (ρ : Rho) (H : Hp) (h : Hh) (x : V) (H' : Hp), Keep K ρ0 H0 ρ H → HRel K cl ρ H h → t.stands h → i < t.xs.length → J.yld i H x H' → ∃ d, t.xs[i]? = some d ∧ Keep K ρ H ρ H' ∧ HRel K cl ρ H' h ∧ Rep K ρ H' d x
section
variable {K : PySem.W.Frag} {cl : Nat → Option Addr} {ρ0 : Rho} {H0 : Hp}
theorem Reps.nth {ρ : Rho} {H : Hp} {ds : List D} {vs : List V} {i : Nat} (r : Reps K ρ H ds vs) (h : i < ds.length) : ∃ d v, ds[i]? = some d ∧ vs[i]? = some v ∧ Rep K ρ H d v := by
  obtain ⟨v, e, q⟩ := r.get (List.getElem?_eq_getElem h)
  exact ⟨_, v, List.getElem?_eq_getElem h, e, q⟩
theorem it_tup {p : Addr} {ds : List D} {vs : List V} (s : SqT K H0 p vs) (r : Reps K ρ0 H0 ds vs) : ItRel K cl ρ0 H0 ⟨ds, none⟩ (Itt K p) where
  go i ρ H h k hr st hi := by
    obtain ⟨d, v, e1, e2, q⟩ := (r.keep k).nth hi
    exact ⟨vs, v, k.tup _ _ s, e2⟩
  stop i ρ H h k hr st hi := ⟨vs, k.tup _ _ s, by rw [← r.length]; exact hi⟩
  yld i ρ H h x H' k hr st hi y := by
    obtain ⟨rfl, y⟩ := y
    obtain ⟨d, v, e1, e2, q⟩ := (r.keep k).nth hi
    have e3 := y vs (k.tup _ _ s)
    rw [e2] at e3
    cases e3
    exact ⟨d, e1, Keep.refl, hr, q⟩
theorem it_lck {p : Addr} {ds : List D} {vs : List V} (s : SqF K H0 p vs) (r : Reps K ρ0 H0 ds vs) : ItRel K cl ρ0 H0 ⟨ds, none⟩ (Itl K p) where
  go i ρ H h k hr st hi := by
    obtain ⟨d, v, e1, e2, q⟩ := (r.keep k).nth hi
    exact ⟨vs, v, (k.lck _ _ s).sql, e2⟩
  stop i ρ H h k hr st hi := ⟨vs, (k.lck _ _ s).sql, by rw [← r.length]; exact hi⟩
  yld i ρ H h x H' k hr st hi y := by
    obtain ⟨rfl, y⟩ := y
    obtain ⟨d, v, e1, e2, q⟩ := (r.keep k).nth hi
    have e3 := y vs (k.lck _ _ s).sql
    rw [e2] at e3
    cases e3
    exact ⟨d, e1, Keep.refl, hr, q⟩
theorem it_lst {a : Nat} {p : Addr} {ds : List D} (ea : ρ0[a]? = some p) : ItRel K cl ρ0 H0 ⟨ds, some (a, .lst ds)⟩ (Itl K p) where
  go i ρ H h k hr st hi := by
    obtain ⟨vs, e, r⟩ := obj_lst hr (k.rho _ _ ea) (show h[a]? = some (.lst ds) from st)
    obtain ⟨d, v, e1, e2, q⟩ := r.nth hi
    exact ⟨vs, v, SqL.of e, e2⟩
  stop i ρ H h k hr st hi := by
    obtain ⟨vs, e, r⟩ := obj_lst hr (k.rho _ _ ea) (show h[a]? = some (.lst ds) from st)
    exact ⟨vs, SqL.of e, by rw [← r.length]; exact hi⟩
  yld i ρ H h x H' k hr st hi y := by
    obtain ⟨rfl, y⟩ := y
    obtain ⟨vs, e, r⟩ := obj_lst hr (k.rho _ _ ea) (show h[a]? = some (.lst ds) from st)
    obtain ⟨d, v, e1, e2, q⟩ := r.nth hi
    have e3 := y vs (SqL.of e)
    rw [e2] at e3
    cases e3
    exact ⟨d, e1, Keep.refl, hr, q⟩
theorem it_str {x : Str} : ItRel K cl ρ0 H0 ⟨x.cps.toList.map fun c => .str ⟨#[c]⟩, none⟩ (L2.Its x) where
  go i ρ H h k hr st hi := (show i < x.cps.size by simpa using hi)
  stop i ρ H h k hr st hi := (show x.cps.size ≤ i by simpa using hi)
  yld i ρ H h v H' k hr st hi y := by
    obtain ⟨rfl, c, e, rfl⟩ := y
    refine ⟨.str ⟨#[c]⟩, ?_, Keep.refl, hr, .str _ (by show 1 ≤ line; decide)⟩
    rw [List.getElem?_map, Array.getElem?_toList, e]; rfl
theorem rangeL_len (lo : Int) (n : Nat) : (rangeL lo n).length = n := by
  induction n generalizing lo with
  | zero => rfl
  | succ n ih => exact congrArg Nat.succ (ih _)
theorem rangeL_get (lo : Int) (n i : Nat) (h : i < n) : (rangeL lo n)[i]? = some (.int (lo + i)) := by
  induction n generalizing lo i with
  | zero => omega
  | succ n ih =>
    cases i with
    | zero => show some (D.int lo) = _; simp
    | succ i =>
      show (rangeL (lo + 1) n)[i]? = _
      rw [ih (lo + 1) i (by omega)]
      congr 2
      omega
theorem it_rng {lo : Int} {n : Nat} : ItRel K cl ρ0 H0 ⟨rangeL lo n, none⟩ (Itr lo n) where
  go i ρ H h k hr st hi := by
    have e := rangeL_len lo n
    exact (show i < n by rw [← e]; exact hi)
  stop i ρ H h k hr st hi := by
    have e := rangeL_len lo n
    exact (show n ≤ i by rw [← e]; exact hi)
  yld i ρ H h v H' k hr st hi y := by
    obtain ⟨rfl, rfl⟩ := y
    have e := rangeL_len lo n
    exact ⟨_, rangeL_get lo n i (by rw [← e]; exact hi), Keep.refl, hr, .int _⟩
theorem enum_len (j : Nat) (xs : List D) : (enumFrom j xs).length = xs.length := by
  induction xs generalizing j with
  | nil => rfl
  | cons x r ih => exact congrArg Nat.succ (ih _)
theorem enum_get (j : Nat) (xs : List D) (i : Nat) {d : D} (h : xs[i]? = some d) : (enumFrom j xs)[i]? = some (.tup [.int ((j + i : Nat) : Int), d]) := by
  induction xs generalizing j i with
  | nil => simp at h
  | cons x r ih =>
    cases i with
    | zero => simp at h; subst h; rfl
    | succ i =>
      have := ih (j + 1) i (by simpa using h)
      show (enumFrom (j + 1) r)[i]? = _
      rw [this]
      congr 4
      omega
theorem it_enum {t : IX.Its} {a : Addr} {ds : List D} {k0 : Option (Nat × O)} (b : ItRel K cl ρ0 H0 ⟨ds, k0⟩ (Itl K a)) : ItRel K cl ρ0 H0 ⟨enumFrom 0 ds, k0⟩ (Ite K a) where
  go i ρ H h k hr st hi := b.go i ρ H h k hr st (by rw [← enum_len 0 ds]; exact hi)
  stop i ρ H h k hr st hi := b.stop i ρ H h k hr st (by rw [← enum_len 0 ds]; exact hi)
  yld i ρ H h v H' k hr st hi y := by
    obtain ⟨T, x, rfl, n, rfl, y⟩ := y
    obtain ⟨d, e, _, _, q⟩ := b.yld i ρ H h x H k hr st (by rw [← enum_len 0 ds]; exact hi) ⟨rfl, y⟩
    have kp : Keep K ρ H ρ (upd H T (.tup [.int (i : Nat), x])) := Keep.new n
    refine ⟨.tup [.int (i : Nat), d], ?_, kp, hr.beside n, .tup (SqT.of upd_same) (.cons (.int _) (.cons (q.keep kp) .nil))⟩
    rw [enum_get 0 ds i e, Nat.zero_add]
end
def iE (K : PySem.W.Frag) (cl : Nat → Option Addr) (P : Pg) (E : XK) (c : IX.E) : TI := fun σ H R => ∃ ρ τ h, SRel K ρ H τ σ ∧ HRel K cl ρ H h ∧
  WR (evalIt P c τ h) (fun t h1 => ∀ ρ' H' J, Keep K ρ H ρ' H' → HRel K cl ρ' H' h1 → ItRel K cl ρ' H' t J → R J H') (PostX K cl ρ H E)
section
variable {X : Cx} {cl : Nat → Option Addr} {P : Pg} {E : XK} {a b c tg : Expr} {ca cb cc : IX.E} {pos : Pos}
theorem evalIt_plain {c : IX.E} {τ : IX.St} {h : Hh} (hp : plainIt c = true) : evalIt P c τ h = (evalE P c τ h).bind fun x h1 => match itemsD x h1 with
    | some (xs, k) => .ok ⟨xs, k⟩ h1
    | none => .bad := by cases c <;> first | rfl | cases hp
theorem _root_.L2.PI.imp {X : Cx} {tg e : Expr} {t t' : TI} (h : PI X tg e t) (hi : ∀ σ H Q, t' σ H Q → t σ H Q) : PI X tg e t' := ⟨fun pins s σ H Q I q => h.run pins s σ H Q I (hi σ H Q q)⟩
theorem at_list {pins : List (Addr × Obj)} {σ : L2.St} {H : Hp} {s : Shared} {R : It → Hp → Prop} {a : Addr} {xs : List V} (I : Inv X pins σ H s) (hq : SqL X.K H a xs) (q : R (Itl X.K a) H) : wpAny (model X.prog X.w) X.A (pyIter (.ref a)) (PIE X pins σ tg R) X.xe s := by
  obtain ⟨its, rv, p, hz⟩ := I.list hq
  refine wpAny_pyIter_list p.isList ?_
  refine ⟨s.heap.objs.size, [s.heap.objs.size], _, _, H, rfl, I.kept (t' := s.toks) fun b o e => Heap.get?_push_of_some _ e, turn_list a _, ⟨_, Heap.get?_push_size _ rfl, rfl, rfl⟩, fun b hb => ?_, q⟩
  have e : b = s.heap.objs.size := by simpa using hb
  subst e
  exact I.fpOk (Nat.le_refl _) (I.hok.fresh (Nat.le_refl _))
theorem at_tup {pins : List (Addr × Obj)} {σ : L2.St} {H : Hp} {s : Shared} {R : It → Hp → Prop} {a : Addr} {xs : List V} (I : Inv X pins σ H s) (hq : SqT X.K H a xs) (q : R (Itt X.K a) H) : wpAny (model X.prog X.w) X.A (pyIter (.ref a)) (PIE X pins σ tg R) X.xe s := by
  obtain ⟨its, rv, p, hz⟩ := I.tuple hq
  refine wpAny_pyIter_tuple (show s.heap.IsTuple a its.toArray from p) ?_
  refine ⟨s.heap.objs.size, [s.heap.objs.size], _, _, H, rfl, I.kept (t' := s.toks) fun b o e => Heap.get?_push_of_some _ e, turn_tuple a _, ⟨_, Heap.get?_push_size _ rfl, rfl, rfl⟩, fun b hb => ?_, q⟩
  have e : b = s.heap.objs.size := by simpa using hb
  subst e
  exact I.fpOk (Nat.le_refl _) (I.hok.fresh (Nat.le_refl _))
theorem at_str {pins : List (Addr × Obj)} {σ : L2.St} {H : Hp} {s : Shared} {R : It → Hp → Prop} {x : Str} {v : Value} (I : Inv X pins σ H s) (rv : RelV (.str x) v) (q : R (L2.Its x) H) : wpAny (model X.prog X.w) X.A (pyIter v) (PIE X pins σ tg R) X.xe s := by
  obtain ⟨t, rfl⟩ := rv
  cases ha : x.cps.all (· < 128)
  · exact wpAny_pyIter_wide ha (pi_one (tk := s.toks) I _ (turn_str _ x t "str_iterator" (.inr rfl)) ⟨_, Heap.get?_push_size _ rfl, rfl, rfl⟩ q)
  · exact wpAny_pyIter_ascii ha (pi_one (tk := s.toks) I _ (turn_str _ x t "str_ascii_iterator" (.inl rfl)) ⟨_, Heap.get?_push_size _ rfl, rfl, rfl⟩ q)
theorem s_it (ha : PE X a (tE X.K cl P E ca)) (hp : plainIt ca = true) : PI X tg a (iE X.K cl P E ca) := by
  refine ⟨fun pins s σ H R I ⟨ρ, τ, h, sr, hr, w⟩ => ?_⟩
  rw [evalIt_plain hp] at w
  have t1 : tE X.K cl P E ca σ H fun x H1 => ∃ ρ1 h1 d xs k, HRel X.K cl ρ1 H1 h1 ∧ Rep X.K ρ1 H1 d x ∧ itemsD d h1 = some (xs, k) ∧ ∀ J, ItRel X.K cl ρ1 H1 ⟨xs, k⟩ J → R J H1 :=
    ev1 sr hr w fun ρ1 H1 v d h1 kp hr1 s1 r1 w1 => by
      cases q : itemsD d h1 with
      | none => rw [q] at w1; exact (show False from w1).elim
      | some y =>
        rw [q] at w1
        exact ⟨ρ1, h1, d, y.1, y.2, hr1, r1, q, fun J ir => (show ∀ ρ' H' J, Keep X.K ρ H ρ' H' → HRel X.K cl ρ' H' h1 → ItRel X.K cl ρ' H' ⟨y.1, y.2⟩ J → R J H' from w1) ρ1 H1 J kp hr1 ir⟩
  refine thn (ha.run pins s σ H _ I t1) fun v s1 ⟨x, H1, I1, rx, ρ1, h1, d, xs, k, hr1, r1, q, go⟩ => ?_
  cases r1 with
  | tup s2 t2 => cases q; cases rx; exact at_tup I1 s2 (go _ (it_tup s2 t2))
  | lck s2 t2 => cases q; cases rx; exact at_list I1 s2.sql (go _ (it_lck s2 t2))
  | str x2 z => cases q; exact at_str I1 rx (go _ it_str)
  | @ref a2 p ea =>
    simp only [itemsD] at q
    cases eo : h1[a2]? with
    | none => rw [eo] at q; cases q
    | some o =>
      rw [eo] at q
      cases o with
      | lst ds =>
        cases q
        cases rx
        obtain ⟨vs, e3, _⟩ := obj_lst hr1 ea eo
        exact at_list I1 (SqL.of e3) (go _ (it_lst ea))
      | _ => cases q
  | _ => cases q
theorem small_of {i : Int} (h : small i = true) : -(2 ^ 62) ≤ i ∧ i < 2 ^ 62 := by
  unfold small at h
  rw [Bool.and_eq_true] at h
  exact ⟨of_decide_eq_true h.1, of_decide_eq_true h.2⟩
theorem s_rng1 {p : Pos} (hg : Gl X "range") (hm : X.mg "range" = none) (ha : PE X a (tE X.K cl P E ca)) (h1 : notStar a = true) : PI X tg (.Call (.Name "range" p) [a] [] pos) (iE X.K cl P E (.rng1 ca)) := by
  refine (pi_range1 hg hm (pa_cons ha pa_nil (star_of h1)) (star_of h1)).imp fun σ H R ⟨ρ, τ, h, sr, hr, w⟩ => ?_
  refine ev1 sr hr w fun ρ1 H1 v d h1 kp hr1 s1 r1 w1 => ?_
  cases r1 with
  | int j =>
    by_cases q : small j = true
    · have w2 : WR (if small j = true then IX.R.ok (⟨rangeL 0 j.toNat, none⟩ : IX.Its) h1 else .bad) (fun t h1 => ∀ ρ' H' J, Keep X.K ρ H ρ' H' → HRel X.K cl ρ' H' h1 → ItRel X.K cl ρ' H' t J → R J H') (PostX X.K cl ρ1 H1 E) := w1
      rw [if_pos q] at w2
      exact ⟨j, rfl, (small_of q).1, (small_of q).2, w2 ρ1 H1 _ kp hr1 it_rng⟩
    · have w2 : WR (if small j = true then IX.R.ok (⟨rangeL 0 j.toNat, none⟩ : IX.Its) h1 else .bad) (fun t h1 => ∀ ρ' H' J, Keep X.K ρ H ρ' H' → HRel X.K cl ρ' H' h1 → ItRel X.K cl ρ' H' t J → R J H') (PostX X.K cl ρ1 H1 E) := w1
      rw [if_neg q] at w2
      exact (show False from w2).elim
  | _ => exact (show False from w1).elim
theorem s_rng2 {p : Pos} (hg : Gl X "range") (hm : X.mg "range" = none) (ha : PE X a (tE X.K cl P E ca)) (hb : PE X b (tE X.K cl P E cb)) (h1 : notStar a = true) (h2 : notStar b = true) : PI X tg (.Call (.Name "range" p) [a, b] [] pos) (iE X.K cl P E (.rng2 ca cb)) := by
  refine (pi_range2 hg hm (pa_cons ha (pa_cons hb pa_nil (star_of h2)) (star_of h1)) (by rw [star_of h1, star_of h2]; rfl) (star_of h2)).imp fun σ H R ⟨ρ, τ, h, sr, hr, w⟩ => ?_
  refine ev1 sr hr w fun ρ1 H1 v d h1 kp hr1 s1 r1 w1 => ev1 s1 hr1 w1 fun ρ2 H2 u e h2 kp2 hr2 s2 r2 w2 => ?_
  cases r1 with
  | int i =>
    cases r2 with
    | int j =>
      have w3 : WR (if small i = true ∧ small j = true then IX.R.ok (⟨rangeL i (j - i).toNat, none⟩ : IX.Its) h2 else .bad) (fun t h1 => ∀ ρ' H' J, Keep X.K ρ H ρ' H' → HRel X.K cl ρ' H' h1 → ItRel X.K cl ρ' H' t J → R J H') (PostX X.K cl ρ2 H2 E) := w2
      by_cases q : small i = true ∧ small j = true
      · rw [if_pos q] at w3
        exact ⟨i, j, rfl, ⟨(small_of q.1).1, (small_of q.1).2, (small_of q.2).1, (small_of q.2).2⟩, w3 ρ2 H2 _ (kp.trans kp2) hr2 it_rng⟩
      · rw [if_neg q] at w3
        exact (show False from w3).elim
    | _ => exact (show False from w2).elim
  | _ => cases r2 <;> exact (show False from w2).elim
theorem s_enum {p tpos : Pos} {elts : List Expr} {kk : Nat} (hg : Gl X "enumerate") (hm : X.mg "enumerate" = none) (ha : PE X a (tE X.K cl P E ca)) (h1 : notStar a = true) : PI X (.Tuple elts kk tpos) (.Call (.Name "enumerate" p) [a] [] pos) (iE X.K cl P E (.enum ca)) := by
  refine (pi_enum hg hm (pa_cons ha pa_nil (star_of h1)) (star_of h1)).imp fun σ H R ⟨ρ, τ, h, sr, hr, w⟩ => ?_
  refine ev1 sr hr w fun ρ1 H1 v d h1 kp hr1 s1 r1 w1 => ?_
  cases q : enumD d h1 with
  | none => rw [q] at w1; exact (show False from w1).elim
  | some y =>
    rw [q] at w1
    have go := show ∀ ρ' H' J, Keep X.K ρ H ρ' H' → HRel X.K cl ρ' H' h1 → ItRel X.K cl ρ' H' ⟨enumFrom 0 y.1, y.2⟩ J → R J H' from w1
    cases r1 with
    | lck s2 t2 => cases q; exact ⟨_, _, rfl, s2.sql, go ρ1 H1 _ kp hr1 (it_enum (t := ⟨[], none⟩) (it_lck s2 t2))⟩
    | @ref a2 p ea =>
      simp only [enumD] at q
      cases eo : h1[a2]? with
      | none => rw [eo] at q; cases q
      | some o =>
        rw [eo] at q
        cases o with
        | lst ds =>
          cases q
          obtain ⟨vs, e3, _⟩ := obj_lst hr1 ea eo
          exact ⟨_, _, rfl, SqL.of e3, go ρ1 H1 _ kp hr1 (it_enum (t := ⟨[], none⟩) (it_lst ea))⟩
        | _ => cases q
    | _ => cases q
theorem fold_of {e : Expr} {env : Env} (h : notSet e = true) : ∀ x, foldedSetIterable e env x = pure x := by
  intro x
  cases e <;> first | rfl | cases h
end
end IX
end

section
set_option Elab.async false
set_option linter.all false
set_option maxRecDepth 100000
set_option maxHeartbeats 2000000
/-! IX13: comprehensions. -/
namespace IX
open PySem PySem.Spec PyProof.Rows L2
section
variable {K : PySem.W.Frag} {cl : Nat → Option Addr}
theorem Kp.grow {ρ : Rho} {H : Hp} {p : Addr} : Kp K ρ H (ρ ++ [p]) H := ⟨fun a q e => by rw [List.getElem?_append_left (List.getElem?_eq_some_iff.mp e).1]; exact e, fun _ _ e => e, fun _ _ e => e⟩
theorem wipeD_len (τ : IX.St) : ∀ vs : List Nat, (wipeD τ vs).length = τ.length
  | [] => rfl
  | v :: vs => by unfold wipeD; rw [List.length_set, wipeD_len τ vs]
theorem SRel.wiped {ρ : Rho} {H : Hp} {τ : IX.St} {σ : L2.St} (s : SRel K ρ H τ σ) : ∀ vs : List Nat, SRel K ρ H (wipeD τ vs) (wipe σ vs)
  | [] => s
  | v :: vs => by
    have ih := s.wiped vs
    refine ⟨by rw [wipeD_len, wipe_length]; exact s.len, fun i d e => ?_⟩
    unfold wipeD at e
    unfold wipe
    by_cases hv : v = i
    · subst hv
      by_cases z : v < (wipeD τ vs).length
      · rw [List.getElem?_set_self z] at e; cases e
      · rw [List.getElem?_eq_none (by rw [List.length_set]; omega)] at e; cases e
    · rw [List.getElem?_set_ne hv] at e ⊢
      exact ih.at_ i d e
theorem wipe_wipe (σ : L2.St) (vs : List Nat) : wipe (wipe σ vs) vs = wipe σ vs := by
  apply List.ext_getElem?
  intro j
  by_cases hj : j ∈ vs
  · rw [wipe_in hj, wipe_in hj, Option.map_map]; rfl
  · rw [wipe_out hj]
/-- one turn whose item is kept -/
theorem turn_yes {m : R (List D)} {y : D} {acc : List D} {k : D → Hh → Prop} {x : Nat → List (Str × D) → Hh → Prop} (w : WR ((m.bind fun ys h2 => R.ok (y :: ys) h2).calm.bind fun ys h5 => R.new (.lst (acc ++ ys)) h5) k x) :
    WR (m.calm.bind fun ys h5 => R.new (.lst ((acc ++ [y]) ++ ys)) h5) k x := by
  cases m with
  | bad => exact w
  | ex _ _ _ => exact w
  | ok ys h => exact (show WR (R.new (.lst ((acc ++ [y]) ++ ys)) h) k x by rw [List.append_assoc]; exact w)
theorem turn_no {m : R (List D)} {acc : List D} {k : D → Hh → Prop} {x : Nat → List (Str × D) → Hh → Prop} (w : WR ((m.bind fun ys h2 => R.ok ys h2).calm.bind fun ys h5 => R.new (.lst (acc ++ ys)) h5) k x) :
    WR (m.calm.bind fun ys h5 => R.new (.lst (acc ++ ys)) h5) k x := by
  cases m with
  | bad => exact w
  | ex _ _ _ => exact w
  | ok ys h => exact w
/-- a turn's first half, nothing raised -/
theorem turn_fst {α : Type} {m : R α} {f : α → Hh → R (List D)} {g : List D → Hh → R D} {k : D → Hh → Prop} {x z : Nat → List (Str × D) → Hh → Prop} (w : WR ((m.bind f).calm.bind g) k x) : WR m (fun a h => WR ((f a h).calm.bind g) k x) z := by
  cases m with
  | bad => exact w
  | ex _ _ _ => exact (show False from w).elim
  | ok a h => exact w
theorem turn_if {α : Type} {m : R D} {f g : Hh → R α} {J : α → Hh → R (List D)} {G : List D → Hh → R D} {k : D → Hh → Prop} {x z : Nat → List (Str × D) → Hh → Prop} (w : WR (((m.bind fun v h3 => match truth v h3 with
    | some true => f h3
    | some false => g h3
    | none => .bad).bind J).calm.bind G) k x) : WR (m.bind ofTruth) (fun b h3 => WR (((if b = true then f h3 else g h3).bind J).calm.bind G) k x) z := by
  cases m with
  | bad => exact (show False from w).elim
  | ex _ _ _ => exact (show False from w).elim
  | ok v h =>
    change WR (((match truth v h with
    | some true => f h
    | some false => g h
    | none => R.bad).bind J).calm.bind G) k x at w
    show WR (ofTruth v h) _ z
    unfold ofTruth
    cases q : truth v h with
    | none => rw [q] at w; exact (show False from w).elim
    | some b => rw [q] at w; cases b <;> exact w
end
section
variable {X : Cx} {cl : Nat → Option Addr} {P : Pg} {E : XK} {elt tg iter : Expr} {ifs : List Expr} {ci cx cc : IX.E} {pos : Pos}
/-- a clause's tests -/
def tIfs (K : PySem.W.Frag) (cl : Nat → Option Addr) (P : Pg) (E : XK) (c : IX.E) : TT := if c.isNil = true then tYes else tT K cl P E c
open Classical in
theorem s_lc {scope : Scope} {own : List (Str × Nat)} {g : List Nat} {tp : Bool} (hc : X.calm = true) (hN : X.N.Nodup) (hi : PI X tg iter (iE X.K cl P E ci)) (ok : BlkOk X.N X.env.scope scope own) (hg : own.map (·.2) = g)
    (ht : ∀ (s : Shared) (H : Hp) (C : Addr) (cs : List (Str × Addr)) (fp : List Addr), PG (X.blk s H scope (compEnvC scope cs C X.env) fp) tg (tG X.K cl g tp)) (hif : ∀ (s : Shared) (H : Hp) (C : Addr) (cs : List (Str × Addr)) (fp : List Addr), PTs (X.blk s H scope (compEnvC scope cs C X.env) fp) ifs (tIfs X.K cl P E0 cc))
    (he : ∀ (s : Shared) (H : Hp) (C : Addr) (cs : List (Str × Addr)) (fp : List Addr), PE (X.blk s H scope (compEnvC scope cs C X.env) fp) elt (tE X.K cl P E0 cx)) (hs : ∀ x, foldedSetIterable iter X.env x = pure x) :
    (∀ σ H Q, tE X.K cl P E (.lc cx g tp ci cc) σ H Q → tLc (iE X.K cl P E ci) (tG X.K cl g tp) (tIfs X.K cl P E0 cc) (tE X.K cl P E0 cx) g σ H Q) := by
  intro σ H Q ⟨ρ, τ, h, s, hr, w⟩
  have w0 : WR ((evalIt P ci τ h).bind fun t h1 => if t.xs.length ≤ line then (turns (fun x h2 => match target g tp x (wipeD τ g) h2 with
      | some σ2 => if cc.isNil = true then (evalE P cx σ2 h2).bind fun y h4 => .ok (some y) h4
        else (evalE P cc σ2 h2).bind fun z h3 => match truth z h3 with
          | some true => (evalE P cx σ2 h3).bind fun y h4 => .ok (some y) h4
          | some false => .ok none h3
          | none => .bad
      | none => .bad) t t.xs h1).calm.bind fun ys h5 => R.new (.lst ys) h5 else .bad) (PostE X.K cl ρ H Q) (PostX X.K cl ρ H E) := w
  generalize hF : (fun (x : D) (h2 : Hh) => match target g tp x (wipeD τ g) h2 with
      | some σ2 => if cc.isNil = true then (evalE P cx σ2 h2).bind fun y h4 => R.ok (some y) h4
        else (evalE P cc σ2 h2).bind fun z h3 => match truth z h3 with
          | some true => (evalE P cx σ2 h3).bind fun y h4 => .ok (some y) h4
          | some false => .ok none h3
          | none => .bad
      | none => .bad) = F at w0
  refine ⟨ρ, τ, h, s, hr, w0.bnd.imp (fun t h1 w1 ρ1 H1 J kp hr1 ir Dl nD => ?_) fun _ _ _ q => q⟩
  by_cases hlen : t.xs.length ≤ line
  case neg => rw [if_neg hlen] at w1; exact (show False from w1).elim
  rw [if_pos hlen] at w1
  have W0 : ∀ (x : Nat → List (Str × D) → Hh → Prop) ys h5, WR (R.new (.lst ys) h5) (PostE X.K cl ρ H Q) x → WR (R.new (.lst ([] ++ ys)) h5) (PostE X.K cl ρ H Q) x := fun _ _ _ q => q
  refine ⟨fun i m Hc => m = t.xs.length - i ∧ i ≤ t.xs.length ∧ ∃ ρc hh acc dacc, HRel X.K cl ρc Hc hh ∧ Keep X.K ρ1 H1 ρc Hc ∧ Hc Dl = some (.lst acc) ∧ (∀ a : Nat, ρc[a]? ≠ some Dl) ∧ acc.length ≤ i ∧ Reps X.K ρc Hc dacc acc ∧
    WR ((turns F t (t.xs.drop i) hh).calm.bind fun ys h5 => R.new (.lst (dacc ++ ys)) h5) (PostE X.K cl ρ H Q) (PostX X.K cl ρ H E), ⟨t.xs.length, by simp, Nat.zero_le _, ρ1, h1, [], [], hr1.beside nD, Keep.new nD, upd_same, hr1.notin nD, Nat.le_refl _, .nil, w1⟩, ?_⟩
  rintro i m Hc ⟨rfl, hi2, ρc, hh, acc, dacc, hrc, kc, eD, fD, la, ra, wc⟩
  have sD : Soft Hc Dl := Soft.lst eD
  by_cases hlt : i < t.xs.length
  · refine .inr ?_
    rw [List.drop_eq_getElem_cons hlt] at wc
    have wc1 : WR ((if t.stands hh then (F t.xs[i] hh).bind fun y h1 => (turns F t (t.xs.drop (i + 1)) h1).bind fun ys h2 => match y with
      | some v => R.ok (v :: ys) h2
      | none => .ok ys h2
      else .bad).calm.bind fun ys h5 => R.new (.lst (dacc ++ ys)) h5) (PostE X.K cl ρ H Q) (PostX X.K cl ρ H E) := wc
    by_cases st : t.stands hh
    case neg => rw [if_neg st] at wc1; exact (show False from wc1).elim
    rw [if_pos st] at wc1
    refine ⟨ir.go i ρc Hc hh kc hrc st hlt, fun H' => t.xs.length - (i + 1) = t.xs.length - (i + 1) ∧ i + 1 ≤ t.xs.length ∧ ∃ ρc hh acc dacc, HRel X.K cl ρc H' hh ∧ Keep X.K ρ1 H1 ρc H' ∧ H' Dl = some (.lst acc) ∧ (∀ a : Nat, ρc[a]? ≠ some Dl) ∧ acc.length ≤ i + 1 ∧ Reps X.K ρc H' dacc acc ∧
      WR ((turns F t (t.xs.drop (i + 1)) hh).calm.bind fun ys h5 => R.new (.lst (dacc ++ ys)) h5) (PostE X.K cl ρ H Q) (PostX X.K cl ρ H E), fun H' n => ⟨t.xs.length - (i + 1), by omega, n⟩, fun x H' y => ?_⟩
    obtain ⟨d, ed, ky, hry, ry⟩ := ir.yld i ρc Hc hh x H' kc hrc st hlt y
    have ed2 : t.xs[i] = d := by
      rw [List.getElem?_eq_getElem hlt] at ed
      exact Option.some.inj ed
    rw [ed2] at wc1
    have sr : SRel X.K ρc H' (wipeD τ g) (wipe σ g) := (((s.keep kp).keep kc).keep ky).wiped g
    have oD := ky.other Dl (by rw [eD]; exact fun z => nomatch z) fD
    -- the target
    have tgt : ∃ τ', target g tp d (wipeD τ g) hh = some τ' := by
      cases q : target g tp d (wipeD τ g) hh with
      | some τ' => exact ⟨τ', rfl⟩
      | none =>
        rw [← hF] at wc1
        simp only [q] at wc1
        exact (show False from wc1).elim
    obtain ⟨τ', et⟩ := tgt
    have hFd : F d hh = if cc.isNil = true then (evalE P cx τ' hh).bind fun y h4 => R.ok (some y) h4
        else (evalE P cc τ' hh).bind fun z h3 => match truth z h3 with
          | some true => (evalE P cx τ' h3).bind fun y h4 => .ok (some y) h4
          | some false => .ok none h3
          | none => .bad := by
      rw [← hF]; simp only [et]
    rw [hFd] at wc1
    clear hFd
    refine ⟨ρc, wipeD τ g, hh, d, sr, hry, ry, τ', et, fun σ' sr' wp => ⟨?_, ?_⟩⟩
    · exact (wp g (fun i h => h)).trans (wipe_wipe σ g)
    -- the element, from any later moment
    have tail : ∀ ρ3 H3 h3, Keep X.K ρc H' ρ3 H3 → HRel X.K cl ρ3 H3 h3 → WR ((((evalE P cx τ' h3).bind fun y h4 => R.ok (some y) h4).bind fun y h1 => (turns F t (t.xs.drop (i + 1)) h1).bind fun ys h2 => match y with
      | some v => R.ok (v :: ys) h2
      | none => .ok ys h2).calm.bind fun ys h5 => R.new (.lst (dacc ++ ys)) h5) (PostE X.K cl ρ H Q) (PostX X.K cl ρ H E) → tE X.K cl P E0 cx σ' H3 (fun y H4 => ∃ acc, H4 Dl = some (.lst acc) ∧ acc.length < sizeLine ∧ (fun H' => t.xs.length - (i + 1) = t.xs.length - (i + 1) ∧ i + 1 ≤ t.xs.length ∧ ∃ ρc hh acc dacc, HRel X.K cl ρc H' hh ∧ Keep X.K ρ1 H1 ρc H' ∧ H' Dl = some (.lst acc) ∧ (∀ a : Nat, ρc[a]? ≠ some Dl) ∧ acc.length ≤ i + 1 ∧ Reps X.K ρc H' dacc acc ∧
      WR ((turns F t (t.xs.drop (i + 1)) hh).calm.bind fun ys h5 => R.new (.lst (dacc ++ ys)) h5) (PostE X.K cl ρ H Q) (PostX X.K cl ρ H E)) (upd H4 Dl (.lst (acc ++ [y])))) := by
      intro ρ3 H3 h3 k3 hr3 w3
      rw [bind_assoc] at w3
      refine ⟨ρ3, τ', h3, sr'.keep k3, hr3, (turn_fst w3).imp (fun y h4 w4 ρ4 H4 v k4 hr4 r4 => ?_) fun _ _ _ z => z⟩
      have kk : Keep X.K ρc Hc ρ4 H4 := (ky.trans k3).trans k4
      have o4 := kk.other Dl (by rw [eD]; exact fun z => nomatch z) fD
      have e4 : H4 Dl = some (.lst acc) := o4.1.trans eD
      have s4 : Soft H4 Dl := Soft.lst e4
      refine ⟨acc, e4, by rw [sizeLine_eq]; have hl : line = 16777216 := rfl; omega, rfl, hlt, ρ4, h4, acc ++ [v], dacc ++ [y], hr4.side o4.2 s4, (kc.trans kk).side nD s4, upd_same, o4.2, by rw [List.length_append]; exact Nat.succ_le_succ la, ?_, ?_⟩
      · exact ((ra.keep kk).append (.cons r4 .nil)).kp (Kp.side s4)
      · exact turn_yes w4
    by_cases hn : cc.isNil = true
    · rw [if_pos hn] at wc1
      have e0 : tIfs X.K cl P E0 cc = tYes := if_pos hn
      rw [e0]
      exact tail ρc H' hh Keep.refl hry wc1
    · rw [if_neg hn] at wc1
      have e0 : tIfs X.K cl P E0 cc = tT X.K cl P E0 cc := if_neg hn
      rw [e0]
      refine ⟨ρc, τ', hh, sr', hry, (turn_if wc1).imp (fun b h3 w3 ρ3 H3 k3 hr3 => ?_) fun _ _ _ z => z⟩
      cases b with
      | true => exact tail ρ3 H3 h3 k3 hr3 w3
      | false =>
        have kk : Keep X.K ρc Hc ρ3 H3 := ky.trans k3
        have o4 := kk.other Dl (by rw [eD]; exact fun z => nomatch z) fD
        have w4 : WR (((turns F t (t.xs.drop (i + 1)) h3).bind fun ys h2 => R.ok ys h2).calm.bind fun ys h5 => R.new (.lst (dacc ++ ys)) h5) (PostE X.K cl ρ H Q) (PostX X.K cl ρ H E) := w3
        exact ⟨rfl, hlt, ρ3, h3, acc, dacc, hr3, kc.trans kk, o4.1.trans eD, o4.2, Nat.le_succ_of_le la, ra.keep kk, turn_no w4⟩
  · have ei : t.xs.drop i = [] := List.drop_eq_nil_of_le (by omega)
    rw [ei] at wc
    have wc1 : WR ((if t.stands hh then R.ok [] hh else .bad).calm.bind fun ys h5 => R.new (.lst (dacc ++ ys)) h5) (PostE X.K cl ρ H Q) (PostX X.K cl ρ H E) := wc
    by_cases st : t.stands hh
    case neg => rw [if_neg st] at wc1; exact (show False from wc1).elim
    rw [if_pos st] at wc1
    refine .inl ⟨ir.stop i ρc Hc hh kc hrc st (by omega), ?_⟩
    have w2 : WR (R.new (.lst (dacc ++ [])) hh) (PostE X.K cl ρ H Q) (PostX X.K cl ρ H E) := wc1
    rw [List.append_nil] at w2
    refine (show PostE X.K cl ρ H Q (.ref hh.length) (hh ++ [.lst dacc]) from w2) (ρc ++ [Dl]) Hc (.ref Dl) (kp.trans (kc.take nD)) (hrc.take fD ⟨acc, eD, ra.kp Kp.grow⟩) (.ref ?_)
    rw [← hrc.len, List.getElem?_append_right (Nat.le_refl _), Nat.sub_self]; rfl
end
end IX
end

section
set_option Elab.async false
set_option linter.all false
set_option maxRecDepth 100000
set_option maxHeartbeats 4000000
/-! IX14: every expression's code is right. -/
namespace IX
open PySem PySem.Spec PyProof.Rows L2
theorem plain_tru {e : Expr} (h : plainT e = true) (env : Env) (whole : Sem Value) : isTrue e env whole = (do let v ← whole; standAt e.pos; holding [v] (truthy v)) := by
  cases e with
  | UnaryOp op a p => cases op <;> first | rfl | cases h
  | _ => first | rfl | cases h
theorem plainIx_of {b : Expr} (h : notSl b = true) : PlainIx b := by
  intro o i
  cases b <;> first | rfl | cases h
theorem okIt_of {o : Option IX.E} {c : IX.E} (h : okIt o = some c) : o = some c ∧ plainIt c = true := by
  cases o with
  | none => cases h
  | some y =>
    have h' : (if plainIt y = true then some y else none) = some c := h
    by_cases q : plainIt y = true
    · rw [if_pos q] at h'; cases h'; exact ⟨rfl, q⟩
    · rw [if_neg q] at h'; cases h'
section
variable {X : Cx} {G : Gam} {T : Tbl} {cl : Nat → Option Addr} {n : Nat} {E : XK} {sc : Scope}
abbrev Both (X : Cx) (T : Tbl) (cl : Nat → Option Addr) (n : Nat) (E : XK) (e : Expr) (c : IX.E) : Prop := PE X e (tE X.K cl (pgT T n) E c) ∧ PT X e (tT X.K cl (pgT T n) E c)
theorem both_plain {e : Expr} {c : IX.E} (h : PE X e (tE X.K cl (pgT T n) E c)) (p : plainT e = true) : Both X T cl n E e c := ⟨h, s_tru h fun w => plain_tru p _ w⟩
theorem and_ok {f : Expr → Option IX.E} (hf : ∀ e c, f e = some c → Both X T cl n E e c) {pos : Pos} : ∀ {es : List Expr} {c : IX.E}, compB f IX.E.and es = some c → PE X (.BoolOp .And es pos) (tE X.K cl (pgT T n) E c) ∧ PW X (.BoolOp .And es pos) (tT X.K cl (pgT T n) E c)
  | [], c, h => by cases h
  | [a], c, h => ⟨s_one (hf a c h).1, pw_and1 (hf a c h).2⟩
  | a :: b :: r, c, h => by
    have h' : (match f a, compB f IX.E.and (b :: r) with
    | some x, some y => some (IX.E.and x y)
    | _, _ => none) = some c := h
    cases q1 : f a with
    | none => rw [q1] at h'; cases h'
    | some x =>
      cases q2 : compB f IX.E.and (b :: r) with
      | none => rw [q1, q2] at h'; cases h'
      | some y =>
        rw [q1, q2] at h'
        cases h'
        have i2 := and_ok hf (pos := pos) q2
        exact ⟨s_andV (hf a x q1).1 i2.1, s_andT (hf a x q1).2 i2.2⟩
theorem or_ok {f : Expr → Option IX.E} (hf : ∀ e c, f e = some c → Both X T cl n E e c) {pos : Pos} : ∀ {es : List Expr} {c : IX.E}, compB f IX.E.or es = some c → PE X (.BoolOp .Or es pos) (tE X.K cl (pgT T n) E c) ∧ PW X (.BoolOp .Or es pos) (tT X.K cl (pgT T n) E c)
  | [], c, h => by cases h
  | [a], c, h => ⟨s_one (hf a c h).1, pw_or1 (hf a c h).2⟩
  | a :: b :: r, c, h => by
    have h' : (match f a, compB f IX.E.or (b :: r) with
    | some x, some y => some (IX.E.or x y)
    | _, _ => none) = some c := h
    cases q1 : f a with
    | none => rw [q1] at h'; cases h'
    | some x =>
      cases q2 : compB f IX.E.or (b :: r) with
      | none => rw [q1, q2] at h'; cases h'
      | some y =>
        rw [q1, q2] at h'
        cases h'
        have i2 := or_ok hf (pos := pos) q2
        exact ⟨s_orV (hf a x q1).1 i2.1, s_orT (hf a x q1).2 i2.2⟩
/-- a comprehension's block -/
theorem Ok.blk (o : Ok X G T cl n E) (s : Shared) (H : Hp) (scope : Scope) (cenv : Env) (fp : List Addr) : Ok (X.blk s H scope cenv fp) G T cl n E0 := ⟨o.calm, o.nd, o.room, o.fn, o.cst, o.non, passL⟩
theorem lookup_free {sc : Scope} : ∀ {names : List (Str × NameKind)} {x : Str}, names.lookup x = some .free →
    (names.map fun (n, k) => if (k == NameKind.free && sc.kind == .function && sc.names.lookup n == some .cell) then (n, NameKind.cell) else (n, k)).lookup x = some .free ∨ (names.map fun (n, k) => if (k == NameKind.free && sc.kind == .function && sc.names.lookup n == some .cell) then (n, NameKind.cell) else (n, k)).lookup x = some .cell
  | [], _, h => by simp at h
  | (m, k) :: r, x, h => by
    have ih := @lookup_free sc r x
    show List.lookup x ((if (k == NameKind.free && sc.kind == .function && sc.names.lookup m == some .cell) = true then (m, NameKind.cell) else (m, k)) :: (r.map _)) = some .free ∨ List.lookup x ((if (k == NameKind.free && sc.kind == .function && sc.names.lookup m == some .cell) = true then (m, NameKind.cell) else (m, k)) :: (r.map _)) = some .cell
    cases hx : x == m with
    | true =>
      simp only [List.lookup_cons, hx] at h
      cases h
      by_cases hc : (NameKind.free == NameKind.free && sc.kind == .function && sc.names.lookup m == some .cell) = true
      · rw [if_pos hc]; simp only [List.lookup_cons, hx]; exact .inr trivial
      · rw [if_neg hc]; simp only [List.lookup_cons, hx]; exact .inl trivial
    | false =>
      simp only [List.lookup_cons, hx] at h
      by_cases hc : (k == NameKind.free && sc.kind == .function && sc.names.lookup m == some .cell) = true
      · rw [if_pos hc]; simp only [List.lookup_cons, hx]; exact ih h
      · rw [if_neg hc]; simp only [List.lookup_cons, hx]; exact ih h
theorem ScOk.blk (s : Shared) (H : Hp) (scope : Scope) (C : Addr) (cs : List (Str × Addr)) (fp : List Addr) : ScOk (X.blk s H scope (compEnvC scope cs C X.env) fp) scope where
  loc x h := by
    cases q : scope.names.lookup x with
    | none => rw [q] at h; cases h
    | some k =>
      rw [q] at h
      cases k <;> first | (cases h; done) | skip
      · have e := lookup_relS_keep (sc := X.env.scope) (by decide) q
        exact ⟨.inl e, .inr e⟩
      · have e := lookup_relS_keep (sc := X.env.scope) (by decide) q
        exact ⟨.inr e, .inl (by show (scope.names.lookup x == some .cell) = true; rw [q]; rfl)⟩
  vis x h := by
    cases q : scope.names.lookup x with
    | none => rw [q] at h; cases h
    | some k =>
      rw [q] at h
      cases k <;> first | (cases h; done) | skip
      · exact .inl (lookup_relS_keep (sc := X.env.scope) (by decide) q)
      · exact .inr (.inl (lookup_relS_keep (sc := X.env.scope) (by decide) q))
      · rcases lookup_free (sc := X.env.scope) q with e | e
        · exact .inr (.inr e)
        · exact .inr (.inl e)
  gl x h := by
    cases q : scope.names.lookup x with
    | none => rw [q] at h; cases h
    | some k =>
      rw [q] at h
      cases k <;> first | (cases h; done) | skip
      exact lookup_relS_keep (sc := X.env.scope) (by decide) q
  fr x h := by
    rcases h with h | h
    · exact .inl (lookup_relS_keep (sc := X.env.scope) (by decide) h)
    · exact (lookup_free (sc := X.env.scope) h).symm
theorem ScOk.blkOk (S : ScOk X sc) {scope : Scope} {own : List (Str × Nat)} (h : blkC X.N sc scope own = true) : BlkOk X.N X.env.scope scope own := by
  have b := blkOk_by h
  exact ⟨b.kind, b.uniq, b.ix, fun y hy e => S.fr y.1 (b.free y hy e), b.own⟩
theorem compI_ok {f : Expr → Option IX.E} (o : Ok X G T cl n E) (S : ScOk X sc) (hf : ∀ e c, f e = some c → PE X e (tE X.K cl (pgT T n) E c)) {e tg : Expr} {c : IX.E} (h : compI f G sc e = some c) (ht : (∃ a, c = .enum a) → ∃ elts k p, tg = .Tuple elts k p) :
    PI X tg e (iE X.K cl (pgT T n) E c) ∧ notSet e = true := by
  have dflt : notSet e = true → okIt (f e) = some c → PI X tg e (iE X.K cl (pgT T n) E c) ∧ notSet e = true := fun h1 h2 => ⟨s_it (hf e c (okIt_of h2).1) (okIt_of h2).2, h1⟩
  have rest : (if notSet e = true then okIt (f e) else none) = some c → PI X tg e (iE X.K cl (pgT T n) E c) ∧ notSet e = true := fun h2 => by
    by_cases q : notSet e = true
    · rw [if_pos q] at h2; exact dflt q h2
    · rw [if_neg q] at h2; cases h2
  cases e with
  | Call fx args kws pos =>
    cases fx with
    | Name x p =>
      cases kws with
      | cons _ _ => exact rest h
      | nil =>
        have h1 : (if isGl (sc.names.lookup x) = true ∧ okName x = true then (match (generalizing := false) G.glob x with
          | none => if x = ("range" : Str) then (match (generalizing := false) args with
              | [a] => if notStar a = true then (f a).map .rng1 else none
              | [a, b] => if notStar a = true ∧ notStar b = true then (match (generalizing := false) f a, f b with
                | some a, some b => some (.rng2 a b)
                | _, _ => none) else none
              | _ => none)
            else if x = ("enumerate" : Str) then (match (generalizing := false) args with
              | [a] => if notStar a = true then (f a).map .enum else none
              | _ => none)
            else okIt (f (.Call (.Name x p) args [] pos))
          | _ => okIt (f (.Call (.Name x p) args [] pos)))
          else none) = some c := h
        by_cases hg : isGl (sc.names.lookup x) = true ∧ okName x = true
        case neg => rw [if_neg hg] at h1; cases h1
        rw [if_pos hg] at h1
        cases q : G.glob x with
        | some k => rw [q] at h1; exact dflt rfl h1
        | none =>
          rw [q] at h1
          have h2 : (if x = ("range" : Str) then (match (generalizing := false) args with
              | [a] => if notStar a = true then (f a).map .rng1 else none
              | [a, b] => if notStar a = true ∧ notStar b = true then (match (generalizing := false) f a, f b with
                | some a, some b => some (.rng2 a b)
                | _, _ => none) else none
              | _ => none)
            else if x = ("enumerate" : Str) then (match (generalizing := false) args with
              | [a] => if notStar a = true then (f a).map .enum else none
              | _ => none)
            else okIt (f (.Call (.Name x p) args [] pos))) = some c := h1
          by_cases hx : x = ("range" : Str)
          · rw [if_pos hx] at h2
            subst hx
            match args, h2 with
            | [a], h2 =>
              have h2 : (if notStar a = true then (f a).map IX.E.rng1 else none) = some c := h2
              by_cases na : notStar a = true
              case neg => rw [if_neg na] at h2; cases h2
              rw [if_pos na] at h2
              cases q1 : f a with
              | none => rw [q1] at h2; cases h2
              | some ca => rw [q1] at h2; cases h2; exact ⟨s_rng1 (S.gl _ hg.1) (o.non _ (by decide)) (hf a ca q1) na, rfl⟩
            | [a, b], h2 =>
              have h2 : (if notStar a = true ∧ notStar b = true then (match (generalizing := false) f a, f b with
                | some a, some b => some (IX.E.rng2 a b)
                | _, _ => none) else none) = some c := h2
              by_cases na : notStar a = true ∧ notStar b = true
              case neg => rw [if_neg na] at h2; cases h2
              rw [if_pos na] at h2
              cases q1 : f a with
              | none => rw [q1] at h2; cases h2
              | some ca =>
                cases q2 : f b with
                | none => rw [q1, q2] at h2; cases h2
                | some cb => rw [q1, q2] at h2; cases h2; exact ⟨s_rng2 (S.gl _ hg.1) (o.non _ (by decide)) (hf a ca q1) (hf b cb q2) na.1 na.2, rfl⟩
            | [], h2 => cases h2
            | _ :: _ :: _ :: _, h2 => cases h2
          · rw [if_neg hx] at h2
            by_cases hx : x = ("enumerate" : Str)
            · rw [if_pos hx] at h2
              subst hx
              match args, h2 with
              | [a], h2 =>
                have h2 : (if notStar a = true then (f a).map IX.E.enum else none) = some c := h2
                by_cases na : notStar a = true
                case neg => rw [if_neg na] at h2; cases h2
                rw [if_pos na] at h2
                cases q1 : f a with
                | none => rw [q1] at h2; cases h2
                | some ca =>
                  rw [q1] at h2; cases h2
                  obtain ⟨elts, k, p, rfl⟩ := ht ⟨ca, rfl⟩
                  exact ⟨s_enum (S.gl _ hg.1) (o.non _ (by decide)) (hf a ca q1) na, rfl⟩
              | [], h2 => cases h2
              | _ :: _ :: _, h2 => cases h2
            · rw [if_neg hx] at h2; exact dflt rfl h2
    | _ => exact rest h
  | _ => exact rest h
end
end IX
end

section
set_option Elab.async false
set_option linter.all false
set_option maxRecDepth 100000
set_option maxHeartbeats 2000000
/-! IXr: x[::-1] of tuples and lists. -/
namespace IX
open PySem PySem.Spec PyProof.Rows L2
section
variable {prog : Program} {w : World} {A : Around} {E : Value → Shared → Prop} {s : Shared}
theorem applied_rev {sl : Addr} {vl vu vs : Value} {n : Nat} {Q : Int × Int × Nat → Shared → Prop} (hs : s.heap.IsSliceOf sl vl vu vs) (pl : IsPart vl none) (pu : IsPart vu none) (ps : IsPart vs (some (-1)))
    (h : Q ((n : Int) - 1, -1, n) s) : wpAny (model prog w) A (Builtin.Slice.sliceApplied (.ref sl) (pure (n : Int))) Q E s := by
  obtain ⟨os, hos, hcs, hds⟩ := id hs
  unfold Builtin.Slice.sliceApplied Builtin.Slice.sliceFields
  refine wpAny_bind (wpAny_bind (wpAny_field hos hds (x := vl) rfl (wpAny_bind (wpAny_field hos hds (x := vu) rfl (wpAny_bind (wpAny_field hos hds (x := vs) rfl (wpAny_pure ?_)))))))
  refine wpAny_bind (HT.slicePart_ ps ?_)
  show wpAny _ _ (if ((-1 : Int) == 0) = true then _ else _) _ _ s
  rw [if_neg (by decide)]
  refine wpAny_bind (HT.slicePart_ pl (wpAny_bind (HT.slicePart_ pu (wpAny_bind (wpAny_pure ?_)))))
  have e1 : Builtin.Slice.sliceAdjust none none (-1) (n : Int) = ((n : Int) - 1, -1) := rfl
  have e2 : Builtin.Slice.slicePlaces ((n : Int) - 1) (-1) (-1) = n := by
    unfold Builtin.Slice.slicePlaces
    rw [if_neg (by decide)]
    by_cases z : (n : Int) - 1 > -1
    · rw [if_pos z, show (- -1 : Int) = 1 by decide, Int.ediv_one]; omega
    · rw [if_neg z]; omega
  show wpAny _ _ (match Builtin.Slice.sliceAdjust none none (-1) (n : Int) with | (lo, hi) => pure (lo, (-1 : Int), Builtin.Slice.slicePlaces lo hi (-1))) _ _ s
  rw [e1]
  show wpAny _ _ (pure ((n : Int) - 1, (-1 : Int), Builtin.Slice.slicePlaces ((n : Int) - 1) (-1) (-1))) _ _ s
  rw [e2]
  exact wpAny_pure h
theorem fm_congr {α β : Type} {f g : α → Option β} : ∀ {l : List α}, (∀ x ∈ l, f x = g x) → l.filterMap f = l.filterMap g
  | [], _ => rfl
  | x :: r, h => by
    rw [List.filterMap_cons, List.filterMap_cons, h x List.mem_cons_self, fm_congr fun y hy => h y (List.mem_cons_of_mem _ hy)]
theorem places_rev (xs : Array Value) : ((List.range xs.size).filterMap fun (m : Nat) => xs[(((xs.size : Int) - 1) + (m : Int) * -1).toNat]?) = xs.toList.reverse := by
  have e : ((List.range xs.size).filterMap fun (m : Nat) => xs[(((xs.size : Int) - 1) + (m : Int) * -1).toNat]?) = ((List.range xs.size).map fun k => xs.size - 1 - k).filterMap (xs[·]?) := by
    rw [List.filterMap_map]
    apply fm_congr
    intro m hm
    have := List.mem_range.mp hm
    have e : (((xs.size : Int) - 1) + (m : Int) * -1).toNat = xs.size - 1 - m := by omega
    rw [e]; rfl
  rw [e, PySem.W.krv_range, List.filterMap_reverse, PySem.W.krv_all]
theorem getItem_tuple_rev {t sl : Addr} {items : Array Value} {vl vu vs : Value} {Q : Value → Shared → Prop} (ht : IsTup s.heap t items) (hs : s.heap.IsSliceOf sl vl vu vs) (pl : IsPart vl none) (pu : IsPart vu none) (ps : IsPart vs (some (-1)))
    (h : Q (.ref s.heap.objs.size) { s with heap := s.heap.push { cls := .type "tuple", data := .seq items.toList.reverse.toArray } })
    (hsz : items.size ≤ sizeLine) : wpAny (model prog w) A (getItem (.ref t) (.ref sl)) Q E s := by
  have htake : sizeOk (.seq items.toList.reverse.toArray) := by
    show items.toList.reverse.toArray.size ≤ sizeLine
    rw [List.size_toArray, List.length_reverse, Array.length_toList]
    exact hsz
  obtain ⟨os, hos, hcs, hds⟩ := id hs
  have hTs : s.TypeIs (.ref sl) "slice" := ⟨os, hos, hcs⟩
  unfold getItem
  try with_reducible refine wpAny_holding ?_
  first | refine wpAny_bind (wpAny_pure ?_) | skip
  refine wpAny_bind (wpAny_sequenceKey ht.typeIs (by decide) ?_)
  refine wpAny_bind (wpAny_callSpecial?_slot (name := Str.ofString "__getitem__") ht.typeIs PyProof.Rows.slot_tuple_getitem
    (wpAny_call_entry PyProof.Rows.slot_tuple_getitem ht.typeIs entry_tuple_getitem ?_ (args_tuple_getitem _ _)))
  show wpAny _ _ (Builtin.Tuple.tupleItemsOf (.ref t) >>= _) _ _ s
  refine wpAny_bind (tupleItemsOf_ ht ?_)
  refine wpAny_bind (wpAny_typeOf hTs ?_)
  rw [if_pos (by decide)]
  refine wpAny_bind (applied_rev hs pl pu ps ?_)
  have hno : ¬ ((((items.size : Int) - 1) == 0 && (-1 : Int) == 1 && items.size == items.size) = true) := by
    rw [show ((-1 : Int) == 1) = false from rfl, Bool.and_false, Bool.false_and]
    exact Bool.false_ne_true
  show wpAny _ _ (if (((items.size : Int) - 1) == 0 && (-1 : Int) == 1 && items.size == items.size) = true then _ else _) _ _ s
  rw [if_neg hno, places_rev]
  first
    | exact wpAny_bind (m := Builtin.Tuple.tupleExact _) (wpAny_newObj_type (wpAny_pure ⟨_, rfl, wpAny_pure h⟩) htake)
    | exact wpAny_bind (m := Builtin.Tuple.tupleExact _) (wpAny_newObj_type (wpAny_bind (wpAny_pure (wpAny_pure ⟨_, rfl, wpAny_pure h⟩))) htake)
    | exact wpAny_bind (wpAny_bind (m := Builtin.Tuple.tupleExact _) (wpAny_newObj_type (wpAny_pure (wpAny_pure ⟨_, rfl, wpAny_pure h⟩)) htake))
    | exact wpAny_bind (wpAny_bind (m := Builtin.Tuple.tupleExact _) (wpAny_newObj_type (wpAny_pure ⟨_, rfl, wpAny_pure h⟩) htake))
end
section
variable {X : Cx} {cl : Nat → Option Addr} {P : Pg} {E : XK} {e : Expr} {ca : IX.E}
theorem s_rev {k : Nat} {p1 p2 p3 pos : Pos} (he : PE X e (tE X.K cl P E ca)) : PE X (.Subscript e (.Slice none none (some (.UnaryOp .USub (.Constant (.int 1) k p1) p2)) p3) pos) (tE X.K cl P E (.rev ca)) := by
  refine ⟨fun pins s σ H Q I ⟨ρ, τ, h, sr, hr, w⟩ => ?_⟩
  have t1 : tE X.K cl P E ca σ H fun x H1 => ∃ a, x = .ref a ∧ ((∃ xs, SqL X.K H1 a xs ∧ ∀ p, H1 p = none → Q (.ref p) (upd H1 p (.lst xs.reverse))) ∨ ∃ xs, SqT X.K H1 a xs ∧ ∀ p, H1 p = none → Q (.ref p) (upd H1 p (.tup xs.reverse))) :=
    ev1 sr hr w fun ρ1 H1 v d h1 kp hr1 s1 r1 w1 => by
      have byList : ∀ xs, listD d h1 = some xs → WR (R.new (.lst xs.reverse) h1) (PostE X.K cl ρ H Q) (PostX X.K cl ρ1 H1 E) → ∃ a, v = .ref a ∧ ((∃ xs, SqL X.K H1 a xs ∧ ∀ p, H1 p = none → Q (.ref p) (upd H1 p (.lst xs.reverse))) ∨ ∃ xs, SqT X.K H1 a xs ∧ ∀ p, H1 p = none → Q (.ref p) (upd H1 p (.tup xs.reverse))) := fun xs ex w2 => by
        obtain ⟨a, vs, rfl, s2, t2⟩ := listD_rel hr1 r1 ex
        exact ⟨a, rfl, .inl ⟨vs, s2, fun p n => new_lst (x := PostX X.K cl ρ1 H1 E) hr1 t2.reverse (w2.imp (fun _ _ q => q.keep kp) fun _ _ _ q => q) p n⟩⟩
      cases r1 with
      | @tup p ds vs s2 t2 => exact ⟨p, rfl, .inr ⟨vs, s2, fun p n => new_tup hr1 t2.reverse ((show PostE X.K cl ρ H Q (.tup ds.reverse) h1 from w1).keep kp) p n⟩⟩
      | @lck p ds vs s2 t2 => exact byList ds rfl w1
      | @ref a p ea =>
        have w2 : WR (match listD (.ref a) h1 with
          | some xs => R.new (.lst xs.reverse) h1
          | none => .bad) (PostE X.K cl ρ H Q) (PostX X.K cl ρ1 H1 E) := w1
        cases q : listD (.ref a) h1 with
        | none => rw [q] at w2; exact (show False from w2).elim
        | some xs => rw [q] at w2; exact byList xs q w2
      | _ => exact (show False from w1).elim
  refine Subscript_ (thn (he.run pins s σ H _ I t1) fun v s1 ⟨x, H1, I1, r1, a, ex, q1⟩ => ?_)
  subst ex
  cases r1
  have hst : PO X (some (.UnaryOp .USub (.Constant (.int 1) k p1) p2)) (tPart (tUn (rU fun i => .int (-i)) (tC (.int 1)))) := po_some (pe_un un_neg pe_int)
  refine wpAny_Slice (thn (po_none.run pins s1 σ H1 (fun o H2 => o = none ∧ H2 = H1) I1 ⟨rfl, rfl⟩) fun vl s2 ⟨l, H2, I2, pl, el, e2⟩ => ?_)
  subst el e2
  refine thn (po_none.run pins s2 σ H2 (fun o H3 => o = none ∧ H3 = H2) I2 ⟨rfl, rfl⟩) fun vu s3 ⟨u, H3, I3, pu, eu, e3⟩ => ?_
  subst eu e3
  refine thn (hst.run pins s3 σ H3 (fun o H4 => o = some (-1) ∧ H4 = H3) I3 ⟨1, rfl, -1, rfl, rfl, rfl⟩) fun vs s4 ⟨o, H4, I4, ps, eo, e4⟩ => ?_
  subst eo e4
  have I5 : Inv X pins σ H4 { s4 with heap := s4.heap.push { cls := .type "slice", data := .fields #[vl, vu, vs] } } := I4.kept (t' := s4.toks) fun b ob q => Heap.get?_push_of_some _ q
  show wpAny (model X.prog X.w) X.A (subscriptTail e (.Slice none none (some (.UnaryOp .USub (.Constant (.int 1) k p1) p2)) p3) (.ref a) (.ref s4.heap.objs.size)) (EP X pins σ Q) X.xe { s4 with heap := s4.heap.push { cls := .type "slice", data := .fields #[vl, vu, vs] } }
  rcases q1 with ⟨xs, hx, q⟩ | ⟨xs, hx, q⟩
  · obtain ⟨its, r, ht, hz⟩ := I5.list hx
    have hlen := r.length
    refine tail_any (ops := [.ref a, .ref s4.heap.objs.size]) ht.isList.typeIs (PySem.slot_list_getitem.lookup) ?_ (by with_unfolding_all rfl)
    refine wpAny_getItem_list_slice ht.isList (Heap.IsSliceOf.new _ vl vu vs) pl pu ps (by decide) ?_ (by rw [List.size_toArray]; omega)
    rw [PySem.W.krv_pick]
    refine ⟨.ref _, _, I5.laid (t' := s4.toks) (o := .lst xs.reverse) (fun b ob q => Heap.get?_push_of_some _ q) (Nat.le_refl _) ?_, rfl, q _ (I5.hok.fresh (Nat.le_refl _))⟩
    exact ⟨by rw [List.length_reverse]; exact hz, _, 0, r.reverse, Heap.get?_push_size _ rfl⟩
  · obtain ⟨its, r, ht, hz⟩ := I5.tuple hx
    have hlen := r.length
    refine tail_any (ops := [.ref a, .ref s4.heap.objs.size]) ht.typeIs PyProof.Rows.slot_tuple_getitem.lookup ?_ (by with_unfolding_all rfl)
    refine getItem_tuple_rev ht (Heap.IsSliceOf.new _ vl vu vs) pl pu ps ?_ (by rw [List.size_toArray]; omega)
    refine ⟨.ref _, _, I5.laid (t' := s4.toks) (o := .tup xs.reverse) (fun b ob q => Heap.get?_push_of_some _ q) (Nat.le_refl _) ?_, rfl, q _ (I5.hok.fresh (Nat.le_refl _))⟩
    exact ⟨by rw [List.length_reverse]; exact hz, _, r.reverse, IsTup.new _ _⟩
end
end IX
end

section
set_option Elab.async false
set_option linter.all false
set_option maxRecDepth 100000
set_option maxHeartbeats 3200000
/-! IXu: sets of keys of any kind that can be walked; sorted(set(..)), of texts. -/
namespace IX
open PySem PySem.Spec PyProof.Rows L2
/-- a new set's object -/
abbrev newSet (w : World) : Obj := { cls := .type "set", dict := none, data := .set #[] 0 (.fresh 0 0 (!w.params.followText "set-order")) }
section
variable {P : Program} {w : World} {K : Type} [DecidableEq K]
/-- no two entries' keys are alike -/
def Apart (knd : PySem.KeyKind P w K) (l : List (Int × Value)) : Prop := l.Pairwise fun e f => ∀ k, knd.is k e.2 = true → knd.is k f.2 = false
/-- the set at a: its members, how many; it can be walked -/
def SetG (knd : PySem.KeyKind P w K) (h : Heap) (a : Addr) (S : K → Bool) (n : Nat) : Prop :=
  ∃ o es ep t, h.get? a = some o ∧ o.ExactSet ∧ o.data = .set es ep t ∧ ElemsOf knd es.toList ∧ Apart knd es.toList ∧ (∀ k, S k = true ↔ ∃ e ∈ es.toList, knd.is k e.2 = true) ∧
    es.size < scanBound ∧ t.fits es.size = true ∧ es.size = n ∧ Ris t.place.toList ∧ (w.params.followText "set-order" = true ∨ t.led = true)
variable {knd : PySem.KeyKind P w K} {A : Around} {E : Value → Shared → Prop} {s : Shared} {a : Addr} {S : K → Bool} {n : Nat}
theorem apart_perm {l l' : List (Int × Value)} (p : l.Perm l') : Apart knd l ↔ Apart knd l' := p.pairwise_iff fun {e f} h k hf => by
  cases q : knd.is k e.2 with
  | false => rfl
  | true => exact absurd (h k q) (by rw [hf]; decide)
theorem SetG.at {h h' : Heap} (R : SetG knd h a S n) (k : ∀ o, h.get? a = some o → h'.get? a = some o) : SetG knd h' a S n := by
  obtain ⟨o, es, ep, t, ho, r⟩ := R
  exact ⟨o, es, ep, t, k o ho, r⟩
theorem SetG.congr {h : Heap} {S' : K → Bool} (R : SetG knd h a S n) (e : ∀ k, S' k = S k) : SetG knd h a S' n := by
  have q : S' = S := funext e
  rw [q]; exact R
/-- the entry is laid; the table may be laid anew -/
theorem setG_tail {g : Bool → Sem Unit} (hg : ∀ (b : Bool) (s₁ : Shared) (Q' : Unit → Shared → Prop), Q' () s₁ → wpAny (model P w) A (g b) Q' E s₁)
    {o : Obj} {es : Array (Int × Value)} {ep : Nat} {t : SetTable} (ho : s.heap.get? a = some o) (hex : o.ExactSet) (hd : o.data = .set es ep t)
    {es1 : Array (Int × Value)} {t2 : SetTable} {S' : K → Bool} (g1 : ElemsOf knd es1.toList) (nd1 : Apart knd es1.toList) (m1 : ∀ k, S' k = true ↔ ∃ e ∈ es1.toList, knd.is k e.2 = true)
    (hb1 : es1.size < scanBound) (hf2 : t2.fits es1.size = true) (hr : Ris t2.place.toList) (hl : w.params.followText "set-order" = true ∨ t2.led = true) {wasDummy : Bool} {R : Option Bool → Shared → Prop}
    (hR : ∀ h', Heap.SameBut a s.heap h' → SetG knd h' a S' es1.size → R (some true) { s with heap := h' }) :
    wpAny (model P w) A (do
        storeSet a es1 t2
        if (!wasDummy && t2.tooFull) = true then do
            g (relayAll t2 es1 (SetTable.grown es1.size)).2.2
            storeSet a (relayAll t2 es1 (SetTable.grown es1.size)).1 (relayAll t2 es1 (SetTable.grown es1.size)).2.1
            pure (some true)
          else pure (some true)) R E s := by
  refine wpAny_bind (wpAny_storeSet_of ho hd ?_ (fits_of_scanBound hb1))
  have ho1 := store_at (es' := es1) (t' := t2) ho hd
  have sb1 := Heap.SameBut.update s.heap a (Obj.putSet es1 t2)
  split
  · have pm := relayAll_perm t2 es1 (SetTable.grown es1.size)
    have f3 := relayAll_fits t2 es1 (SetTable.grown es1.size)
    have r3 := relayAll_ris t2 es1 (SetTable.grown es1.size)
    have l3 := relayAll_led t2 es1 (SetTable.grown es1.size)
    generalize relayAll t2 es1 (SetTable.grown es1.size) = Z at pm f3 r3 l3 ⊢
    obtain ⟨es2, t3, gave⟩ := Z
    dsimp only at pm f3 r3 l3 ⊢
    have z2 : es2.size = es1.size := by rw [← Array.length_toList, pm.length_eq, Array.length_toList]
    have b2 : es2.size < scanBound := by rw [z2]; exact hb1
    refine wpAny_bind (hg _ _ _ ?_)
    refine wpAny_bind (wpAny_storeSet_of ho1 rfl ?_ (fits_of_scanBound b2))
    have ho2 := store_at (es' := es2) (t' := t3) ho1 rfl
    refine wpAny_pure (hR _ (sb1.trans (Heap.SameBut.update _ a _)) ?_)
    refine ⟨_, es2, _, t3, ho2, hex, rfl, fun e he => g1 e (pm.mem_iff.mp he), (apart_perm pm).mpr nd1, fun k => (m1 k).trans ?_, b2, f3, z2, r3, hl.imp id fun z => by rw [l3]; exact z⟩
    constructor
    · rintro ⟨e, he, q⟩; exact ⟨e, pm.mem_iff.mpr he, q⟩
    · rintro ⟨e, he, q⟩; exact ⟨e, pm.mem_iff.mp he, q⟩
  · exact wpAny_pure (hR _ sb1 ⟨_, es1, _, t2, ho1, hex, rfl, g1, nd1, m1, hb1, hf2, rfl, hr, hl⟩)
theorem setG_add {k : K} {x : Value} {Q : Bool → Shared → Prop} (hkey : knd.is k x = true) (hsc : x.scannable = true) (R : SetG knd s.heap a S n) (room : n + 1 < scanBound)
    (hQ : ∀ h', Heap.SameBut a s.heap h' → SetG knd h' a (fun j => S j || decide (j = k)) (if S k = true then n else n + 1) → Q (!S k) { s with heap := h' }) :
    wpAny (model P w) A (setAddHashed a x (knd.hash k)) Q E s := by
  obtain ⟨o, es, ep, t, ho, hex, hd, hel, nd, hm, hb, hf, hn, hr, hl⟩ := R
  unfold setAddHashed setAddHashedIn
  refine wpAny_holding (wpAny_bind (wpAny_setState_of ho hd hf ?_))
  dsimp only
  rw [byScan_of hsc hb hel]
  simp only [↓reduceIte]
  unfold setAddByScan
  refine wpAny_bind ?_
  refine wpAny_bind (wpAny_rule ?_)
  refine wpAny_bind (wpAny_setScan_of hkey ho hd hf hel ?_)
  cases hfi : List.findIdx? (fun e => knd.is k e.2) es.toList with
  | some j =>
    dsimp only
    obtain ⟨hj, pj, _⟩ := List.findIdx?_eq_some_iff_getElem.mp hfi
    have hSk : S k = true := (hm k).2 ⟨es.toList[j], List.getElem_mem hj, pj⟩
    refine wpAny_pure (wpAny_pure ?_)
    have q := hQ s.heap (Heap.SameBut.refl a s.heap) ⟨o, es, ep, t, ho, hex, hd, hel, nd, fun i => by
      rw [Bool.or_eq_true, decide_eq_true_eq, ← hm i]
      exact ⟨fun z => z.elim id (fun e => e ▸ hSk), .inl⟩, hb, hf, by rw [if_pos hSk]; exact hn, hr, hl⟩
    rw [hSk] at q
    exact q
  | none =>
    dsimp only
    have hno : ∀ e ∈ es.toList, knd.is k e.2 = false := fun e he => by
      have c := List.findIdx?_eq_none_iff.mp hfi e he
      simpa using c
    have hSk : S k = false := by
      cases q : S k with
      | false => rfl
      | true =>
        obtain ⟨e, he, z⟩ := (hm k).1 q
        rw [hno e he] at z; cases z
    have hgw : ∀ (b : Bool) {s₁ : Shared} {Q' : Unit → Shared → Prop}, Q' () s₁ → wpAny (model P w) A (match b with | true => rule "set.scan.the-table-gave-way" | false => pure ()) Q' E s₁ :=
      fun b s₁ Q' q => by cases b <;> first | exact wpAny_pure q | exact wpAny_rule q
    have pm := layNew_perm t es (knd.hash k) x
    have f1 := layNew_fits t es (knd.hash k) x
    have r1 := layNew_ris t es (knd.hash k) x hr
    have l1 := layNew_led t es (knd.hash k) x
    generalize layNew t es (knd.hash k) x = Z at pm f1 r1 l1 ⊢
    obtain ⟨es1, t1, wasDummy, gave⟩ := Z
    dsimp only at pm f1 r1 l1 ⊢
    rw [Array.toList_push] at pm
    have pc : es1.toList.Perm ((knd.hash k, x) :: es.toList) := pm.trans (List.perm_append_singleton _ _)
    have g1 : ElemsOf knd es1.toList := fun e he => by
      rcases List.mem_cons.mp (pc.mem_iff.mp he) with z | z
      · rw [z]; exact ⟨⟨k, hkey, rfl⟩, hsc⟩
      · exact hel e z
    have nd1 : Apart knd es1.toList := (apart_perm pc).mpr (List.pairwise_cons.mpr ⟨fun f hf k' hk' => by
      have e : k' = k := knd.inj _ _ _ hk' hkey
      rw [e]; exact hno f hf, nd⟩)
    have m1 : ∀ i, (S i || decide (i = k)) = true ↔ ∃ e ∈ es1.toList, knd.is i e.2 = true := fun i => by
      rw [Bool.or_eq_true, decide_eq_true_eq, hm i]
      constructor
      · rintro (⟨e, he, q⟩ | rfl)
        · exact ⟨e, pc.mem_iff.mpr (List.mem_cons_of_mem _ he), q⟩
        · exact ⟨_, pc.mem_iff.mpr List.mem_cons_self, hkey⟩
      · rintro ⟨e, he, q⟩
        rcases List.mem_cons.mp (pc.mem_iff.mp he) with rfl | z
        · exact .inr (knd.inj _ _ _ q hkey)
        · exact .inl ⟨e, z, q⟩
    have z1 : es1.size = n + 1 := by rw [← Array.length_toList, pc.length_eq, List.length_cons, Array.length_toList, hn]
    have b1 : es1.size < scanBound := by rw [z1]; exact room
    have hled : w.params.followText "set-order" = true ∨ t1.led = true := hl.imp id fun z => by rw [l1]; exact z
    have fin : ∀ h', Heap.SameBut a s.heap h' → SetG knd h' a (fun j => S j || decide (j = k)) es1.size → Q true { s with heap := h' } := fun h' sb r => by
      have q := hQ h' sb
      rw [hSk] at q
      rw [z1] at r
      exact q r
    refine wpAny_bind (hgw _ ?_)
    split
    · refine wpAny_bind ?_
      rw [hashByValue_scannable 8 hsc]
      refine wpAny_pure ?_
      refine setG_tail ?_ ho hex hd g1 nd1 m1 b1 ?_ ?_ ?_ ?_
      · intro b s₁ Q' q; cases b <;> first | exact wpAny_pure q | exact wpAny_rule q
      · first | (split <;> first | exact f1 | exact SetTable.fits_plain_off f1) | exact f1
      · first | (split <;> exact r1) | exact r1
      · first | (split <;> exact hled) | exact hled
      · intro h' sb r; dsimp only; exact wpAny_pure (fin h' sb r)
    · refine wpAny_bind (wpAny_pure ?_)
      simp only [↓reduceIte]
      refine setG_tail ?_ ho hex hd g1 nd1 m1 b1 f1 r1 hled ?_
      · intro b s₁ Q' q; cases b <;> first | exact wpAny_pure q | exact wpAny_rule q
      · intro h' sb r; dsimp only; exact wpAny_pure (fin h' sb r)
end
end IX
end

section
set_option Elab.async false
set_option linter.all false
set_option maxRecDepth 100000
set_option maxHeartbeats 3200000
/-! IXw: set(xs) of a list or a tuple of keys. -/
namespace IX
open PySem PySem.Spec PyProof.Rows L2
section
variable {P : Program} {w : World} {A : Around} {E : Value → Shared → Prop} {s : Shared}
theorem call_set_gen {x : Value} {Q : Value → Shared → Prop} {Post : Shared → Prop}
    (hI : wpAny (model P w) A.in1.in1 (Builtin.«set.__init__» ⟨[.ref s.heap.objs.size, x], []⟩) (fun fin s' => match fin with
      | .done f => wants (fun r s₂ => r = .none ∧ Post s₂) E (.ok f) s'
      | .again c' => c'.quiet = true ∧ codeAny (model P w) A.in1 c' (wants (fun r s₂ => r = .none ∧ Post s₂) E) s') (fun e s' => wants (fun r s₂ => r = .none ∧ Post s₂) E (.error e) s') { s with heap := s.heap.push (newSet w) })
    (h : ∀ s₂, Post s₂ → Q (.ref s.heap.objs.size) s₂) :
    wpAny (model P w) A (call (.type "set") [x]) Q E s := by
  obtain ⟨c, tl, hmro⟩ := F.called_set.mro
  have hmade := F.called_set.made
  have hsub := F.called_set.sub
  refine wpAny_call (codeAny_of_tree ?_)
  show wpAny _ _ (callAny (.type "set") _) _ _ _
  refine wpAny_pure ⟨Code.quiet_builtin _ (by decide +kernel), codeAny_builtin F.entry_type_call ?_⟩
  rw [Around.under_plain (weight_type_call_type "set" [x] []) rfl]
  have h1 := F.called_set.notType
  have h2 := F.called_set.canCreate
  have hct := F.typeCall_set_1 x
  repeat (any_goals (first | assumption | wp_step))
  refine codeAny_mono (code_set_led1 x (E := E) (Q₁ := fun obj s₁ => obj = .ref s.heap.objs.size ∧ s₁ = { s with heap := s.heap.push (newSet w) }) ⟨rfl, rfl⟩) fun r s₁ hr => ?_
  cases r with
  | error e => exact hr
  | ok fl =>
    cases fl with
    | ret obj =>
      obtain ⟨rfl, rfl⟩ := hr
      have g0 : (s.heap.push (newSet w)).get? s.heap.objs.size = some (newSet w) := Heap.get?_push_size _ rfl
      have hT : Shared.TypeIs { s with heap := s.heap.push (newSet w) } (.ref s.heap.objs.size) "set" := ⟨_, g0, rfl⟩
      have hli := F.called_set.init.lookup
      have hbi := F.called_set.init.bind (.ref s.heap.objs.size)
      repeat (any_goals (first | assumption | wp_step))
      refine codeAny_mono (codeAny_call_builtin (R := wants (fun r s₂ => r = .none ∧ Post s₂) E) F.called_set.init.plain F.entry_set_init (check_set_init_1 hT ?_)) fun r₂ s₂ hr₂ => ?_
      · exact hI
      · cases r₂ with
        | error e => exact hr₂
        | ok fl₂ =>
          cases fl₂ with
          | ret r =>
            obtain ⟨rfl, q⟩ := hr₂
            repeat (any_goals (first | assumption | wp_step))
            exact h _ q
          | _ => exact hr₂.elim
    | _ => exact hr.elim

variable {K : Type} [DecidableEq K] {knd : PySem.KeyKind P w K}
theorem setG_new {h : Heap} {a : Addr} {ks : List K} (ho : h.get? a = some (newSet w)) : SetG knd h a (fun j => decide (j ∈ ks.take 0)) 0 :=
  ⟨_, #[], 0, _, ho, ⟨rfl, rfl, rfl⟩, rfl, (fun e he => by simp at he), List.Pairwise.nil, (fun k => by simp), (by decide), (by rfl), rfl, List.Pairwise.nil, by
    show _ ∨ (!w.params.followText "set-order") = true
    cases w.params.followText "set-order"
    · exact .inr rfl
    · exact .inl rfl⟩
theorem set_updateG {I : Addr} {fp wr : List Addr} {G : Array GenState → Array GenState → Prop} {n : Nat} {Pv : Nat → Value → Prop} {St : Nat → Shared → Prop} {R : Result → Shared → Prop}
    (W : WalksS P w A.in1 I fp wr G n Pv St) (S : Addr) (hSf : S ∉ fp) (ks : List K) (hn : n = ks.length) (hb : ks.length + 1 < scanBound) (hval : ∀ i v, Pv i v → ∃ k, ks[i]? = some k ∧ knd.is k v = true ∧ v.scannable = true) :
    ∀ (k i : Nat) (s : Shared), n - i = k → i ≤ n → St i s → (∃ c, c ≤ i ∧ SetG knd s.heap S (fun j => decide (j ∈ ks.take i)) c) →
      (∀ s' c, Moved (S :: wr) G s s' → c ≤ n → SetG knd s'.heap S (fun j => decide (j ∈ ks)) c → R (.ok (.ret .none)) s') →
      codeAny (model P w) A (.builtin "set.update.loop" ⟨[.ref S, .ref I], []⟩) R s := by
  have hSw : S ∉ wr := fun h => hSf (W.sub _ h)
  have hsub : ∀ b ∈ wr, b ∈ S :: wr := fun b hb => List.mem_cons_of_mem _ hb
  intro k
  induction k with
  | zero =>
    intro i s hk' hi hst ⟨c, hc, hS⟩ hR
    have hin : i = n := by omega
    subst hin
    refine codeAny_builtin F.entry_set_update_loop ?_
    rw [Around.under_plainId F.plain_set_update_loop _]
    show wpAny _ A.in1 (pyNext (.ref I) >>= _) _ _ s
    refine wpAny_bind (W.done s _ _ hst fun s' hm => ?_)
    show wpAny _ A.in1 (ret Value.none) _ _ s'
    have e : ks.take i = ks := List.take_of_length_le (by omega)
    rw [e] at hS
    exact wpAny_pure (hR s' c (hm.mono hsub) hc (hS.at fun o e => hm.heap S o hSw e))
  | succ k ih =>
    intro i s hk' hi hst ⟨c, hc, hS⟩ hR
    have hlt : i < n := by omega
    refine codeAny_builtin F.entry_set_update_loop ?_
    rw [Around.under_plainId F.plain_set_update_loop _]
    show wpAny _ A.in1 (pyNext (.ref I) >>= _) _ _ s
    refine wpAny_bind (W.item i s _ _ hlt hst fun v s' hP hst' hm => ?_)
    obtain ⟨z, hz, hi1, hi2⟩ := hval i v hP
    have hS' : SetG knd s'.heap S (fun j => decide (j ∈ ks.take i)) c := hS.at fun o e => hm.heap S o hSw e
    show wpAny _ A.in1 (holding [v] (setAdd S v) >>= _) _ _ s'
    refine wpAny_bind (wpAny_holding ?_)
    unfold setAdd
    refine wpAny_holding ?_
    refine wpAny_bind (knd.pyHash (k := z) hi1 ?_)
    refine setG_add (s := { s' with toks := s'.toks + 1 }) hi1 hi2 hS' (by omega) fun h' hsb hS2 => ?_
    have hS3 : SetG knd h' S (fun j => decide (j ∈ ks.take (i + 1))) (if decide (z ∈ ks.take i) = true then c else c + 1) := hS2.congr fun j => by
      rw [List.take_add_one, hz]
      simp [List.mem_append]
    have hc3 : (if decide (z ∈ ks.take i) = true then c else c + 1) ≤ i + 1 := by
      split <;> omega
    refine wpAny_pure ⟨plainId_quiet F.plain_set_update_loop _, ih (i + 1) _ (by omega) hlt (W.frame _ s' _ _ hst' (Nat.le_succ _) fun b hb o e => ?_) ⟨_, hc3, hS3⟩ fun s'' c2 hm'' hc'' hS'' => ?_⟩
    · rw [hsb.2 b (fun h : b = S => hSf (by rw [← h]; exact hb))]; exact e
    · refine hR s'' c2 (Moved.trans W.gtrans ((hm.mono hsub).then_heap (Nat.le_succ _) fun b o hb e => ?_) hm'') hc'' hS''
      rw [hsb.2 b (fun h : b = S => hb (by rw [h]; exact List.mem_cons_self))]; exact e

/-- set(xs), xs a list of keys -/
theorem call_set_lstG {l : Addr} {items : Array Value} (ks : List K) {Q : Value → Shared → Prop} (hh : A.handled = none) (hl : s.heap.IsList l items) (hz : items.size = ks.length) (hit : ∀ (i : Nat) (v : Value), items[i]? = some v → ∃ k, ks[i]? = some k ∧ knd.is k v = true ∧ v.scannable = true) (hb : ks.length + 1 < scanBound)
    (h : ∀ (h' : Heap) (tk c : Nat), SetG knd h' s.heap.objs.size (fun j => decide (j ∈ ks)) c → c ≤ ks.length → (∀ b o, s.heap.get? b = some o → h'.get? b = some o) → Q (.ref s.heap.objs.size) { s with heap := h', toks := tk }) :
    wpAny (model P w) A (call (.type "set") [.ref l]) Q E s := by
  refine call_set_gen (Post := fun s₂ => ∃ h' tk c, s₂ = { s with heap := h', toks := tk } ∧ SetG knd h' s.heap.objs.size (fun j => decide (j ∈ ks)) c ∧ c ≤ ks.length ∧ ∀ b o, s.heap.get? b = some o → h'.get? b = some o) ?_ fun s₂ ⟨h', tk, c, e, R, hc, hk⟩ => by rw [e]; exact h h' tk c R hc hk
  have g0 : (s.heap.push (newSet w)).get? s.heap.objs.size = some (newSet w) := Heap.get?_push_size _ rfl
  have lS : l < s.heap.objs.size := by
    obtain ⟨ol, hol, _⟩ := hl
    exact Heap.lt_size hol
  obtain ⟨ol, hol, hcl, nl, hdl⟩ := hl
  obtain ⟨ocls, odict, odata, oslots⟩ := ol
  simp only at hcl hdl
  subst hcl; subst hdl
  have hol' : (s.heap.push (newSet w)).get? l = some { cls := .type "list", dict := odict, data := .seq items nl, slots := oslots } := Heap.get?_push_of_some _ hol
  have hsls := F.sub_list_set
  have hslf := F.sub_list_frozenset
  have hne : (Value.type "list" == Value.type "dict") = false := by decide
  have hl1 : (s.heap.push (newSet w)).IsList l items := ⟨_, hol', rfl, nl, rfl⟩
  unfold Builtin.«set.__init__» noKeywords Builtin.Frozenset.updateFrom
  generalize hPI : pyIter = PI
  wp_walk
  subst hPI
  refine wpAny_pyIter_list hl1 ?_
  refine wpAny_bind (wpAny_runValue ?_)
  have hh3 : A.in1.in1.in1.handled = none := by simp [hh]
  have neI : l ≠ (s.heap.push (newSet w)).objs.size := by rw [Heap.size_push]; exact Nat.ne_of_lt (Nat.lt_succ_of_lt lS)
  have notf : s.heap.objs.size ∉ [(s.heap.push (newSet w)).objs.size, l] := by
    rw [Heap.size_push]
    simp only [List.mem_cons, List.not_mem_nil, or_false, not_or]
    exact ⟨Nat.ne_of_lt (Nat.lt_succ_self _), Nat.ne_of_gt lS⟩
  refine set_updateG ((Walks.list hh3 _ l neI items).toS) s.heap.objs.size notf ks hz hb hit (items.size - 0) 0 _ (by omega) (Nat.zero_le _)
    ⟨⟨_, Heap.get?_push_size _ rfl, rfl, rfl⟩, (hl1.push _)⟩ ?z0 ?zR
  case z0 => exact ⟨0, Nat.le_refl 0, setG_new (Heap.get?_push_of_some _ g0)⟩
  case zR =>
    intro s' c' hm hc' hS'
    obtain ⟨h', g2, d', tk', os'⟩ := s'
    have eg : g2 = s.gens := hm.gens
    have ed : d' = s.drawn := hm.drawn
    have eo : os' = s.os := hm.os
    subst eg; subst ed; subst eo
    show wpAny _ _ _ _ _ _
    refine wpAny_pure ?_
    show wpAny _ _ (ret Value.none) _ _ _
    rw [hz] at hc'
    refine wpAny_pure ⟨rfl, h', tk', c', rfl, hS', hc', fun b o e => ?_⟩
    have b0 : b < s.heap.objs.size := Heap.lt_size e
    refine hm.heap b o ?_ (Heap.get?_push_of_some _ (Heap.get?_push_of_some _ e))
    simp only [List.mem_cons, List.not_mem_nil, or_false, not_or]
    refine ⟨Nat.ne_of_lt b0, ?_⟩
    rw [Heap.size_push]; exact Nat.ne_of_lt (Nat.lt_succ_of_lt b0)

/-- set(xs), xs a tuple of keys -/
theorem call_set_tupG {l : Addr} {items : Array Value} (ks : List K) {Q : Value → Shared → Prop} (hh : A.handled = none) (hl : s.heap.IsTuple l items) (hz : items.size = ks.length) (hit : ∀ (i : Nat) (v : Value), items[i]? = some v → ∃ k, ks[i]? = some k ∧ knd.is k v = true ∧ v.scannable = true) (hb : ks.length + 1 < scanBound)
    (h : ∀ (h' : Heap) (tk c : Nat), SetG knd h' s.heap.objs.size (fun j => decide (j ∈ ks)) c → c ≤ ks.length → (∀ b o, s.heap.get? b = some o → h'.get? b = some o) → Q (.ref s.heap.objs.size) { s with heap := h', toks := tk }) :
    wpAny (model P w) A (call (.type "set") [.ref l]) Q E s := by
  refine call_set_gen (Post := fun s₂ => ∃ h' tk c, s₂ = { s with heap := h', toks := tk } ∧ SetG knd h' s.heap.objs.size (fun j => decide (j ∈ ks)) c ∧ c ≤ ks.length ∧ ∀ b o, s.heap.get? b = some o → h'.get? b = some o) ?_ fun s₂ ⟨h', tk, c, e, R, hc, hk⟩ => by rw [e]; exact h h' tk c R hc hk
  have g0 : (s.heap.push (newSet w)).get? s.heap.objs.size = some (newSet w) := Heap.get?_push_size _ rfl
  have lS : l < s.heap.objs.size := by
    obtain ⟨ol, hol, _⟩ := hl
    exact Heap.lt_size hol
  obtain ⟨ol, hol, hcl, nl, hdl⟩ := hl
  obtain ⟨ocls, odict, odata, oslots⟩ := ol
  simp only at hcl hdl
  subst hcl; subst hdl
  have hol' : (s.heap.push (newSet w)).get? l = some { cls := .type "tuple", dict := odict, data := .seq items nl, slots := oslots } := Heap.get?_push_of_some _ hol
  have hsls := F.sub_tuple_set
  have hslf := F.sub_tuple_frozenset
  have hne : (Value.type "tuple" == Value.type "dict") = false := by decide
  have hl1 : (s.heap.push (newSet w)).IsTuple l items := ⟨_, hol', rfl, nl, rfl⟩
  unfold Builtin.«set.__init__» noKeywords Builtin.Frozenset.updateFrom
  generalize hPI : pyIter = PI
  wp_walk
  subst hPI
  refine wpAny_pyIter_tuple hl1 ?_
  refine wpAny_bind (wpAny_runValue ?_)
  have hh3 : A.in1.in1.in1.handled = none := by simp [hh]
  have neI : l ≠ (s.heap.push (newSet w)).objs.size := by rw [Heap.size_push]; exact Nat.ne_of_lt (Nat.lt_succ_of_lt lS)
  have notf : s.heap.objs.size ∉ [(s.heap.push (newSet w)).objs.size, l] := by
    rw [Heap.size_push]
    simp only [List.mem_cons, List.not_mem_nil, or_false, not_or]
    exact ⟨Nat.ne_of_lt (Nat.lt_succ_self _), Nat.ne_of_gt lS⟩
  refine set_updateG ((Walks.tuple hh3 _ l neI items).toS) s.heap.objs.size notf ks hz hb hit (items.size - 0) 0 _ (by omega) (Nat.zero_le _)
    ⟨⟨_, Heap.get?_push_size _ rfl, rfl, rfl⟩, (hl1.push _)⟩ ?z0 ?zR
  case z0 => exact ⟨0, Nat.le_refl 0, setG_new (Heap.get?_push_of_some _ g0)⟩
  case zR =>
    intro s' c' hm hc' hS'
    obtain ⟨h', g2, d', tk', os'⟩ := s'
    have eg : g2 = s.gens := hm.gens
    have ed : d' = s.drawn := hm.drawn
    have eo : os' = s.os := hm.os
    subst eg; subst ed; subst eo
    show wpAny _ _ _ _ _ _
    refine wpAny_pure ?_
    show wpAny _ _ (ret Value.none) _ _ _
    rw [hz] at hc'
    refine wpAny_pure ⟨rfl, h', tk', c', rfl, hS', hc', fun b o e => ?_⟩
    have b0 : b < s.heap.objs.size := Heap.lt_size e
    refine hm.heap b o ?_ (Heap.get?_push_of_some _ (Heap.get?_push_of_some _ e))
    simp only [List.mem_cons, List.not_mem_nil, or_false, not_or]
    refine ⟨Nat.ne_of_lt b0, ?_⟩
    rw [Heap.size_push]; exact Nat.ne_of_lt (Nat.lt_succ_of_lt b0)
end
end IX
end

section
set_option Elab.async false
set_option linter.all false
set_option maxRecDepth 100000
set_option maxHeartbeats 3200000
/-! IXx: sorted(s), s a set of texts. -/
namespace IX
open PySem PySem.Spec PyProof.Rows L2
section
variable {P : Program} {w : World} {A : Around} {E : Value → Shared → Prop} {s : Shared} {a : Addr}
def rawS : Value → Str
  | .str x _ => x
  | _ => Str.empty
theorem strs_raw : ∀ {vs : List Value}, (∀ v ∈ vs, ∃ x t, v = .str x t) → StrsAre vs (vs.map rawS)
  | [], _ => .nil
  | v :: vs, h => by
    obtain ⟨x, t, rfl⟩ := h v List.mem_cons_self
    exact .cons x t (strs_raw fun u hu => h u (List.mem_cons_of_mem _ hu))
theorem sorted_setS {S : Str → Bool} {n : Nat} {Q : Value → Shared → Prop} (R : SetG (PySem.strKind P w) s.heap a S n) (hh : A.handled = none)
    (hQ : ∀ s' p (out : Array Value) (c : Nat) (ys : List Str), (∀ b o, s.heap.get? b = some o → s'.heap.get? b = some o) → s'.gens = s.gens → s'.os = s.os → s.heap.objs.size ≤ p →
      s'.heap.get? p = some (seqObj "list" out c) → StrsAre out.toList ys → sortedS ys = true → ys.Nodup → (∀ k, k ∈ ys ↔ S k = true) → ys.length = n → Q (.ref p) s') :
    wpAny (model P w) A (call (.builtin "sorted") [.ref a]) Q E s := by
  obtain ⟨o, es, ep, t, ho, hex, hd, hel, nd, hm, hb, hf, hn, hr, hl⟩ := R
  refine Calls.call_function_entry kind_sorted plain_sorted entry_sorted (args_sorted1 _) ?_
  unfold Builtin.«sorted»
  refine wpAny_bind (m := checkCount "sorted" 1 1 _) (wpAny_pure ?_)
  refine wpAny_bind (collect_set (A := A.in1) hh ⟨o, ho, hex.1, hd⟩ hf hb hr hl fun s1 vs k1 hz g1 o1 pm => ?_)
  have hvl : vs.length = n := by rw [pm.length_eq, List.length_map, Array.length_toList]; exact hn
  have hbn : n < scanBound := by rw [← hn]; exact hb
  have hvz : vs.length ≤ sizeLine := by rw [hvl, sizeLine_eq]; unfold scanBound at hbn; omega
  have key : ∀ e ∈ es.toList, ∃ x t, e.2 = .str x t := fun e he => by
    obtain ⟨⟨k, hk, _⟩, _⟩ := hel e he
    obtain ⟨t, e2⟩ := Value.isStrOf_shape (show Value.isStrOf k e.2 = true from hk)
    exact ⟨k, t, e2⟩
  have hS : StrsAre vs (vs.map rawS) := strs_raw fun v hv => by
    obtain ⟨e, he, q⟩ := List.mem_map.mp (pm.mem_iff.mp hv)
    rw [← q]; exact key e he
  have pk : (vs.map rawS).Perm (es.toList.map fun e => rawS e.2) := by
    have q := pm.map rawS
    rw [List.map_map] at q
    exact q
  have is_raw : ∀ e ∈ es.toList, ∀ k : Str, (PySem.strKind P w).is k e.2 = true ↔ rawS e.2 = k := fun e he k => by
    obtain ⟨x, t, e2⟩ := key e he
    rw [e2]
    show (x == k) = true ↔ x = k
    exact beq_iff_eq
  have ndk : (es.toList.map fun e => rawS e.2).Nodup := by
    rw [List.Nodup, List.pairwise_map]
    refine List.Pairwise.imp_of_mem (fun {e f} he hf h q => ?_) nd
    have h1 := h (rawS e.2) ((is_raw e he _).mpr rfl)
    rw [(is_raw f hf _).mpr q.symm] at h1
    cases h1
  refine wpAny_bind (wpAny_newList ?_ hvz)
  have hoL : (s1.heap.push (seqObj "list" vs.toArray 0)).get? s1.heap.objs.size = some (seqObj "list" vs.toArray 0) := Heap.get?_push_size _ rfl
  refine wpAny_bind (wpAny_holding (wpAny_call_entry slot_list_sort ⟨_, hoL, rfl⟩ entry_list_sort
    (list_sort_treeKSt PyProof.Rows.strKind_oneLt hoL hS.keysOf (fun v₁ v₂ rest e => keyKind_strs (by rw [← e]; exact hS)) hvz fun st' a1 a2 a3 => ⟨_, rfl, ?_⟩) (args_list_sort _)))
  obtain ⟨ss, b1, b2, b3⟩ := sorted_out_str hS a1 a2
  obtain ⟨c, hc⟩ := sortedHeap_at (vs := vs) (out := (arrOf st').map (·.2)) hoL
  have pn : ss.Perm (es.toList.map fun e => rawS e.2) := b2.trans pk
  refine wpAny_pure ⟨_, rfl, hQ _ s1.heap.objs.size _ c ss (fun b u e => ?_) g1 o1 hz hc b1 b3 (pn.nodup_iff.mpr ndk) (fun k => ?_) ?_⟩
  · have q := k1 b u e
    have hlt := Heap.lt_size q
    show (sortedHeap (s1.heap.push (seqObj "list" vs.toArray 0)) s1.heap.objs.size vs _).get? b = some u
    rw [sortedHeap_old (Nat.ne_of_lt hlt) (by rw [size_push']; exact Nat.lt_succ_of_lt hlt)]
    exact Heap.get?_push_of_some _ q
  · rw [pn.mem_iff, List.mem_map, hm k]
    constructor
    · rintro ⟨e, he, q⟩; exact ⟨e, he, (is_raw e he k).mpr q⟩
    · rintro ⟨e, he, q⟩; exact ⟨e, he, (is_raw e he k).mp q⟩
  · rw [pn.length_eq, List.length_map, Array.length_toList]; exact hn
end
end IX
end

section
set_option Elab.async false
set_option linter.all false
set_option maxRecDepth 100000
set_option maxHeartbeats 3200000
/-! IXt: sorted(set(..)), of ints, of texts. -/
namespace IX
open PySem PySem.Spec PyProof.Rows L2
theorem SetG.toR {P : Program} {w : World} {h : Heap} {a : Addr} {S : Int → Bool} {n : Nat} (R : SetG (PySem.intKind P w) h a S n) : SetR w h a S n := by
  obtain ⟨o, es, ep, t, ho, hex, hd, hel, nd, hm, hb, hf, hn, hr, hl⟩ := R
  have g : ∀ e ∈ es.toList, GoodE e := fun e he => by
    obtain ⟨⟨k, hk, e1⟩, _⟩ := hel e he
    obtain ⟨t, e2⟩ := Value.isInt_shape (show Value.isInt k e.2 = true from hk)
    exact ⟨k, t, e2, e1⟩
  refine ⟨o, es, ep, t, ho, hex, hd, g, ?_, fun k => (hm k).trans (good_mem g k).symm, hb, hf, hn, hr, hl⟩
  rw [List.Nodup, List.pairwise_map]
  refine List.Pairwise.imp_of_mem (fun {e f} he hf h q => ?_) nd
  have h1 := h (keyOf e) ((good_is (P := P) (w := w) (g e he) _).mpr rfl)
  rw [(good_is (P := P) (w := w) (g f hf) _).mpr q.symm] at h1
  cases h1
/-- sorted(set(a)) -/
def tSortSet (K : PySem.W.Frag) (ta : TE) : TE := fun σ H Q => ta σ H fun x H1 => ∃ l : Addr, x = V.ref l ∧ ((∃ ns : List Int, (SqL K H1 l (ns.map V.int) ∨ SqT K H1 l (ns.map V.int)) ∧ ns.length < 64 ∧
  ∀ (ms : List Int) (p : Addr), ms.Pairwise (· < ·) → (∀ k : Int, k ∈ ms ↔ k ∈ ns) → H1 p = none → Q (.ref p) (upd H1 p (.lst (ms.map V.int)))) ∨
  ∃ xs : List Str, (SqL K H1 l (xs.map V.str) ∨ SqT K H1 l (xs.map V.str)) ∧ xs.length < 4000 ∧
    ∀ (ys : List Str) (p : Addr), sortedS ys = true → ys.Nodup → (∀ k : Str, k ∈ ys ↔ k ∈ xs) → H1 p = none → Q (.ref p) (upd H1 p (.lst (ys.map V.str))))
theorem boot_sorted : bootBuiltins "sorted" = some (.builtin "sorted") := by decide +kernel
section
variable {X : Cx} {pins : List (Addr × Obj)} {σ : L2.St} {H : Hp} {Q : VK} {a : Addr} {c : Nat} {s : Shared}
theorem sorted_finI {ns : List Int} (hc : X.calm = true) (I : Inv X pins σ H s) (R : SetR X.w s.heap a (fun j => decide (j ∈ ns)) c) (h64 : c < 64)
    (q : ∀ (ms : List Int) (p : Addr), ms.Pairwise (· < ·) → (∀ k : Int, k ∈ ms ↔ k ∈ ns) → H p = none → Q (.ref p) (upd H p (.lst (ms.map V.int)))) :
    wpAny (model X.prog X.w) X.A (call (.builtin "sorted") [Value.ref a]) (EP X pins σ Q) X.xe s := by
  refine L2.sorted_set R (I.ok.hd hc) h64 fun s' p out c ns' k g o hp hg hi hs hm hl => ?_
  have hlen : (ns'.map V.int).length ≤ sizeLine := by rw [List.length_map, hl, sizeLine_eq]; omega
  have hn : H p = none := I.hok.fresh hp
  have J : Inv X pins σ (upd H p (.lst (ns'.map V.int))) { s with heap := s'.heap, gens := s'.gens, drawn := s'.drawn, toks := s'.toks } :=
    I.call (ch := []) (Un.laid k hp hn) (I.hok.laid k hp ⟨hlen, out.toList, c, vals_of_ints hi, hg⟩) (by rw [g]; exact I.bare) (fun _ z => nomatch z)
  have e : s' = { s with heap := s'.heap, gens := s'.gens, drawn := s'.drawn, toks := s'.toks } := by
    cases s'
    cases s
    cases o
    rfl
  rw [e]
  exact ⟨.ref p, _, J, rfl, q ns' p hs (fun k => by rw [hm]; exact decide_eq_true_iff) hn⟩
theorem sorted_finS {xs : List Str} (hc : X.calm = true) (I : Inv X pins σ H s) (R : SetG (PySem.strKind X.prog X.w) s.heap a (fun j => decide (j ∈ xs)) c) (hz : c < 4000)
    (q : ∀ (ys : List Str) (p : Addr), sortedS ys = true → ys.Nodup → (∀ k : Str, k ∈ ys ↔ k ∈ xs) → H p = none → Q (.ref p) (upd H p (.lst (ys.map V.str)))) :
    wpAny (model X.prog X.w) X.A (call (.builtin "sorted") [Value.ref a]) (EP X pins σ Q) X.xe s := by
  refine sorted_setS R (I.ok.hd hc) fun s' p out c ys k g o hp hg hi hs hnd hm hl => ?_
  have hlen : (ys.map V.str).length ≤ sizeLine := by rw [List.length_map, hl, sizeLine_eq]; omega
  have hn : H p = none := I.hok.fresh hp
  have J : Inv X pins σ (upd H p (.lst (ys.map V.str))) { s with heap := s'.heap, gens := s'.gens, drawn := s'.drawn, toks := s'.toks } :=
    I.call (ch := []) (Un.laid k hp hn) (I.hok.laid k hp ⟨hlen, out.toList, c, vals_of_strs hi, hg⟩) (by rw [g]; exact I.bare) (fun _ z => nomatch z)
  have e : s' = { s with heap := s'.heap, gens := s'.gens, drawn := s'.drawn, toks := s'.toks } := by
    cases s'
    cases s
    cases o
    rfl
  rw [e]
  exact ⟨.ref p, _, J, rfl, q ys p hs hnd (fun k => by rw [hm]; exact decide_eq_true_iff) hn⟩
end
theorem int_items {P : Program} {w : World} {ns : List Int} {its : List Value} (r : Vals (ns.map V.int) its) : its.toArray.size = ns.length ∧ ∀ (i : Nat) (v : Value), its.toArray[i]? = some v → ∃ k, ns[i]? = some k ∧ (PySem.intKind P w).is k v = true ∧ v.scannable = true := by
  have lz : its.length = ns.length := by rw [← r.length, List.length_map]
  refine ⟨by rw [List.size_toArray]; exact lz, fun i v hv => ?_⟩
  have hv' : its[i]? = some v := by simpa using hv
  have hi : i < ns.length := by rw [← lz]; exact (List.getElem?_eq_some_iff.mp hv').1
  obtain ⟨u, hu, t, e⟩ := r.get (i := i) (x := .int ns[i]) (by rw [List.getElem?_map, List.getElem?_eq_getElem hi]; rfl)
  rw [hv'] at hu
  cases hu
  exact ⟨ns[i], List.getElem?_eq_getElem hi, by rw [e]; exact intKind_is P w _ t, by rw [e]; rfl⟩
theorem str_items {P : Program} {w : World} {xs : List Str} {its : List Value} (r : Vals (xs.map V.str) its) : its.toArray.size = xs.length ∧ ∀ (i : Nat) (v : Value), its.toArray[i]? = some v → ∃ k, xs[i]? = some k ∧ (PySem.strKind P w).is k v = true ∧ v.scannable = true := by
  have lz : its.length = xs.length := by rw [← r.length, List.length_map]
  refine ⟨by rw [List.size_toArray]; exact lz, fun i v hv => ?_⟩
  have hv' : its[i]? = some v := by simpa using hv
  have hi : i < xs.length := by rw [← lz]; exact (List.getElem?_eq_some_iff.mp hv').1
  obtain ⟨u, hu, t, e⟩ := r.get (i := i) (x := .str xs[i]) (by rw [List.getElem?_map, List.getElem?_eq_getElem hi]; rfl)
  rw [hv'] at hu
  cases hu
  exact ⟨xs[i], List.getElem?_eq_getElem hi, by rw [e]; show (xs[i] == xs[i]) = true; exact beq_self_eq_true _, by rw [e]; rfl⟩
theorem pe_sortset {X : Cx} {a : Expr} {ta : TE} {p p2 q pos : Pos} (hc : X.calm = true) (hg : Gl X "sorted") (hm : X.mg "sorted" = none) (hg2 : Gl X "set") (hm2 : X.mg "set" = none) (ha : PE X a ta)
    (na : starEach [a] X.env = (false, eval a X.env) :: starEach [] X.env) : PE X (.Call (.Name "sorted" p) [.Call (.Name "set" p2) [a] [] q] [] pos) (tSortSet X.K ta) := by
  refine ⟨fun pins s σ H Q I h => ?_⟩
  refine Call_ (ld_blt I hg hm boot_sorted ?_)
  refine PyProof.Rows.callWith_builtin1 (PyProof.Rows.args_cons ?_ rfl) rfl rfl
  refine Call_ (ld_blt I hg2 hm2 PyProof.Rows.boot_set ?_)
  refine PyProof.Rows.callWith_type1 (PyProof.Rows.args_cons (thn (ha.run pins s σ H _ I h) fun v s1 ⟨x, H1, I1, r1, q1⟩ => PyProof.Rows.args_nil ?_) na) na rfl
  obtain ⟨l, rfl, q1⟩ := q1
  cases r1
  rcases q1 with ⟨ns, hq, h64, q1⟩ | ⟨xs, hq, hz, q1⟩
  · have fin : ∀ (h' : Heap) (tk c : Nat), SetG (PySem.intKind X.prog X.w) h' s1.heap.objs.size (fun j => decide (j ∈ ns)) c → c ≤ ns.length → (∀ b o, s1.heap.get? b = some o → h'.get? b = some o) →
        wpAny (model X.prog X.w) X.A (spliced (backTo pos (starEach [] X.env))) (fun vs s₂ => wpAny (model X.prog X.w) X.A (call (.builtin "sorted") (Value.ref s1.heap.objs.size :: vs)) (EP X pins σ Q) X.xe s₂) X.xe { s1 with heap := h', toks := tk } := fun h' tk c R hcn hk => by
      refine PyProof.Rows.args_nil ?_
      have I2 : Inv X pins σ H1 { s1 with heap := h', toks := tk } := I1.kept fun b o e => hk b o e
      exact sorted_finI hc I2 R.toR (by omega) q1
    rcases hq with hq | hq
    · obtain ⟨its, r, pl, hz⟩ := I1.list hq
      obtain ⟨z, vv⟩ := int_items (P := X.prog) (w := X.w) r
      exact call_set_lstG ns (I1.ok.hd hc) pl.isList z vv (by unfold scanBound; omega) fin
    · obtain ⟨its, r, pl, hz⟩ := I1.tuple hq
      obtain ⟨z, vv⟩ := int_items (P := X.prog) (w := X.w) r
      exact call_set_tupG ns (I1.ok.hd hc) pl z vv (by unfold scanBound; omega) fin
  · have fin : ∀ (h' : Heap) (tk c : Nat), SetG (PySem.strKind X.prog X.w) h' s1.heap.objs.size (fun j => decide (j ∈ xs)) c → c ≤ xs.length → (∀ b o, s1.heap.get? b = some o → h'.get? b = some o) →
        wpAny (model X.prog X.w) X.A (spliced (backTo pos (starEach [] X.env))) (fun vs s₂ => wpAny (model X.prog X.w) X.A (call (.builtin "sorted") (Value.ref s1.heap.objs.size :: vs)) (EP X pins σ Q) X.xe s₂) X.xe { s1 with heap := h', toks := tk } := fun h' tk c R hcn hk => by
      refine PyProof.Rows.args_nil ?_
      have I2 : Inv X pins σ H1 { s1 with heap := h', toks := tk } := I1.kept fun b o e => hk b o e
      exact sorted_finS hc I2 R (by omega) q1
    rcases hq with hq | hq
    · obtain ⟨its, r, pl, hz⟩ := I1.list hq
      obtain ⟨z, vv⟩ := str_items (P := X.prog) (w := X.w) r
      exact call_set_lstG xs (I1.ok.hd hc) pl.isList z vv (by unfold scanBound; omega) fin
    · obtain ⟨its, r, pl, hz⟩ := I1.tuple hq
      obtain ⟨z, vv⟩ := str_items (P := X.prog) (w := X.w) r
      exact call_set_tupG xs (I1.ok.hd hc) pl z vv (by unfold scanBound; omega) fin
end IX
end

section
set_option Elab.async false
set_option linter.all false
set_option maxRecDepth 100000
set_option maxHeartbeats 2000000
/-! IXt2: sorted(set(..)): its code is right. -/
namespace IX
open PySem PySem.Spec PyProof.Rows L2
theorem ssOf_ok {g : Str → Bool} {x : Str} {args : List Expr} {a : Expr} (h : ssOf g x args = some a) : x = ("sorted" : Str) ∧ ∃ p q, args = [.Call (.Name "set" p) [a] [] q] ∧ g "set" = true ∧ notStar a = true := by
  unfold ssOf at h
  by_cases hx : x = ("sorted" : Str)
  case neg => rw [if_neg hx] at h; cases h
  rw [if_pos hx] at h
  split at h
  · rename_i y p b q
    by_cases hy : y = ("set" : Str) ∧ g y = true ∧ notStar b = true
    case neg => rw [if_neg hy] at h; cases h
    rw [if_pos hy] at h
    cases h
    obtain ⟨rfl, h2, h3⟩ := hy
    exact ⟨hx, p, q, rfl, h2, h3⟩
  · cases h
theorem insI_mem {x k : Int} : ∀ {l : List Int}, k ∈ insI x l ↔ k = x ∨ k ∈ l
  | [] => by simp [insI]
  | y :: r => by
    unfold insI
    split
    · rw [List.mem_cons, insI_mem (l := r), List.mem_cons]
      constructor
      · rintro (h | h | h) <;> simp [h]
      · rintro (h | h | h) <;> simp [h]
    · split
      · rename_i e
        rw [e, List.mem_cons]
        constructor
        · intro h; exact .inr h
        · rintro (h | h)
          · exact .inl h
          · exact h
      · rw [List.mem_cons]
theorem sortI_mem {k : Int} : ∀ {l : List Int}, k ∈ sortI l ↔ k ∈ l
  | [] => by simp [sortI]
  | y :: r => by show k ∈ insI y (sortI r) ↔ _; rw [insI_mem, sortI_mem (l := r), List.mem_cons]
theorem insI_pair {x : Int} : ∀ {l : List Int}, l.Pairwise (· < ·) → (insI x l).Pairwise (· < ·)
  | [], _ => List.pairwise_singleton _ _
  | y :: r, h => by
    obtain ⟨h1, h2⟩ := List.pairwise_cons.mp h
    unfold insI
    split
    · rename_i c
      refine List.pairwise_cons.mpr ⟨fun z hz => ?_, insI_pair h2⟩
      rcases insI_mem.mp hz with rfl | hz
      · exact c
      · exact h1 z hz
    · split
      · exact h
      · rename_i c1 c2
        refine List.pairwise_cons.mpr ⟨fun z hz => ?_, h⟩
        rcases List.mem_cons.mp hz with rfl | hz
        · omega
        · have := h1 z hz; omega
theorem sortI_pair : ∀ l : List Int, (sortI l).Pairwise (· < ·)
  | [] => List.Pairwise.nil
  | x :: r => insI_pair (sortI_pair r)
theorem rising_eq : ∀ {xs ys : List Int}, xs.Pairwise (· < ·) → ys.Pairwise (· < ·) → (∀ k, k ∈ xs ↔ k ∈ ys) → xs = ys
  | [], [], _, _, _ => rfl
  | [], y :: ys, _, _, h => by have := (h y).mpr List.mem_cons_self; cases this
  | x :: xs, [], _, _, h => by have := (h x).mp List.mem_cons_self; cases this
  | x :: xs, y :: ys, h1, h2, h => by
    obtain ⟨a1, a2⟩ := List.pairwise_cons.mp h1
    obtain ⟨b1, b2⟩ := List.pairwise_cons.mp h2
    have exy : x = y := by
      have m1 := (h x).mp List.mem_cons_self
      have m2 := (h y).mpr List.mem_cons_self
      rcases List.mem_cons.mp m1 with e | m1
      · exact e
      · rcases List.mem_cons.mp m2 with e | m2
        · exact e.symm
        · have := b1 x m1; have := a1 y m2; omega
    subst exy
    rw [rising_eq a2 b2 fun k => ?_]
    constructor
    · intro hk
      rcases List.mem_cons.mp ((h k).mp (List.mem_cons_of_mem _ hk)) with e | q
      · have := a1 k hk; omega
      · exact q
    · intro hk
      rcases List.mem_cons.mp ((h k).mpr (List.mem_cons_of_mem _ hk)) with e | q
      · have := b1 k hk; omega
      · exact q
theorem ltS_irr {x : Str} : ltS x x = false := by
  cases q : ltS x x with
  | false => rfl
  | true => exact absurd (ltS_iff.mp q) (List.lt_irrefl _)
theorem ltS_trans {x y z : Str} (a : ltS x y = true) (b : ltS y z = true) : ltS x z = true := ltS_iff.mpr (List.lt_trans (ltS_iff.mp a) (ltS_iff.mp b))
theorem ltS_asym {x y : Str} (a : ltS x y = true) (b : ltS y x = true) : False := by
  have := ltS_trans a b
  rw [ltS_irr] at this; cases this
theorem insU_mem {x k : Str} : ∀ {l : List Str}, k ∈ insU x l ↔ k = x ∨ k ∈ l
  | [] => by simp [insU]
  | y :: r => by
    unfold insU
    split
    · rw [List.mem_cons, insU_mem (l := r), List.mem_cons]
      constructor
      · rintro (h | h | h) <;> simp [h]
      · rintro (h | h | h) <;> simp [h]
    · split
      · rename_i e
        rw [e, List.mem_cons]
        constructor
        · intro h; exact .inr h
        · rintro (h | h)
          · exact .inl h
          · exact h
      · rw [List.mem_cons]
theorem sortU_mem {k : Str} : ∀ {l : List Str}, k ∈ sortU l ↔ k ∈ l
  | [] => by simp [sortU]
  | y :: r => by show k ∈ insU y (sortU r) ↔ _; rw [insU_mem, sortU_mem (l := r), List.mem_cons]
theorem insU_pair {x : Str} : ∀ {l : List Str}, l.Pairwise (fun a b => ltS a b = true) → (insU x l).Pairwise (fun a b => ltS a b = true)
  | [], _ => List.pairwise_singleton _ _
  | y :: r, h => by
    obtain ⟨h1, h2⟩ := List.pairwise_cons.mp h
    unfold insU
    split
    · rename_i c
      refine List.pairwise_cons.mpr ⟨fun z hz => ?_, insU_pair h2⟩
      rcases insU_mem.mp hz with rfl | hz
      · exact c
      · exact h1 z hz
    · split
      · exact h
      · rename_i c1 c2
        have xy : ltS x y = true := by
          cases q : ltS x y with
          | true => rfl
          | false => exact absurd (leS_anti (x := x) (y := y) (by simpa [leS] using c1) q) c2
        refine List.pairwise_cons.mpr ⟨fun z hz => ?_, h⟩
        rcases List.mem_cons.mp hz with rfl | hz
        · exact xy
        · exact ltS_trans xy (h1 z hz)
theorem sortU_pair : ∀ l : List Str, (sortU l).Pairwise (fun a b => ltS a b = true)
  | [] => List.Pairwise.nil
  | x :: r => insU_pair (sortU_pair r)
theorem risingU_eq : ∀ {xs ys : List Str}, xs.Pairwise (fun a b => ltS a b = true) → ys.Pairwise (fun a b => ltS a b = true) → (∀ k, k ∈ xs ↔ k ∈ ys) → xs = ys
  | [], [], _, _, _ => rfl
  | [], y :: ys, _, _, h => by have := (h y).mpr List.mem_cons_self; cases this
  | x :: xs, [], _, _, h => by have := (h x).mp List.mem_cons_self; cases this
  | x :: xs, y :: ys, h1, h2, h => by
    obtain ⟨a1, a2⟩ := List.pairwise_cons.mp h1
    obtain ⟨b1, b2⟩ := List.pairwise_cons.mp h2
    have exy : x = y := by
      have m1 := (h x).mp List.mem_cons_self
      have m2 := (h y).mpr List.mem_cons_self
      rcases List.mem_cons.mp m1 with e | m1
      · exact e
      · rcases List.mem_cons.mp m2 with e | m2
        · exact e.symm
        · exact (ltS_asym (b1 x m1) (a1 y m2)).elim
    subst exy
    rw [risingU_eq a2 b2 fun k => ?_]
    constructor
    · intro hk
      rcases List.mem_cons.mp ((h k).mp (List.mem_cons_of_mem _ hk)) with e | q
      · have := a1 k hk; rw [e, ltS_irr] at this; cases this
      · exact q
    · intro hk
      rcases List.mem_cons.mp ((h k).mpr (List.mem_cons_of_mem _ hk)) with e | q
      · have := b1 k hk; rw [e, ltS_irr] at this; cases this
      · exact q
theorem sortedU {ys : List Str} (h : sortedS ys = true) (nd : ys.Nodup) : ys.Pairwise (fun a b => ltS a b = true) := by
  have hp : ys.Pairwise leS := by
    cases ys with
    | nil => exact List.Pairwise.nil
    | cons x r => exact rising_pair x r h
  refine (hp.and nd).imp fun {a b} ⟨h1, h2⟩ => ?_
  cases q : ltS a b with
  | true => rfl
  | false => exact absurd (leS_anti h1 q) h2
theorem intsD_rel {K : PySem.W.Frag} {ρ : Rho} {H : Hp} : ∀ {ds : List D} {vs : List V} {ys : List Int}, Reps K ρ H ds vs → intsD ds = some ys → vs = ys.map V.int
  | [], _, ys, t, q => by cases q; cases t; rfl
  | .int x :: ds, _, ys, .cons a t, q => by
    have q' : (intsD ds).map (fun c => x :: c) = some ys := q
    cases e : intsD ds with
    | none => rw [e] at q'; cases q'
    | some zs =>
      rw [e] at q'
      cases q'
      cases a
      rw [intsD_rel t e]; rfl
  | .non :: _, _, _, _, q => by cases q
  | .bl _ :: _, _, _, _, q => by cases q
  | .str _ :: _, _, _, _, q => by cases q
  | .tup _ :: _, _, _, _, q => by cases q
  | .lck _ :: _, _, _, _, q => by cases q
  | .ref _ :: _, _, _, _, q => by cases q
theorem reps_sorted {K : PySem.W.Frag} {ρ : Rho} {H : Hp} : ∀ ns : List Int, Reps K ρ H (ns.map D.int) (ns.map V.int)
  | [] => .nil
  | i :: r => .cons (.int i) (reps_sorted r)
section
variable {X : Cx} {cl : Nat → Option Addr} {P : Pg} {E : XK}
theorem bi_one {b : Bi} {ca : IX.E} {τ : IX.St} {h : Hh} : evalE P (.bi b (.cons ca .nil)) τ h = (evalE P ca τ h).bind fun d h1 => biD b [d] h1 := by
  show ((evalE P ca τ h).bind fun d h1 => (R.ok [] h1).bind fun ds h2 => .ok (d :: ds) h2).bind _ = _
  cases evalE P ca τ h <;> rfl
theorem s_sortset {a : Expr} {ca : IX.E} {p p2 q pos : Pos} (hc : X.calm = true) (hg : Gl X "sorted") (hm : X.mg "sorted" = none) (hg2 : Gl X "set") (hm2 : X.mg "set" = none) (ha : PE X a (tE X.K cl P E ca))
    (na : starEach [a] X.env = (false, eval a X.env) :: starEach [] X.env) : PE X (.Call (.Name "sorted" p) [.Call (.Name "set" p2) [a] [] q] [] pos) (tE X.K cl P E (.bi .sortset (.cons ca .nil))) := by
  refine (pe_sortset hc hg hm hg2 hm2 ha na).imp fun σ H Q ⟨ρ, τ, h, s, hr, w⟩ => ?_
  rw [bi_one] at w
  refine ev1 s hr w fun ρ1 H1 v d h1 kp hr1 s1 r1 w1 => ?_
  have fin : ∀ (ds : List D) (l : Addr) (vs : List V), v = .ref l → (SqL X.K H1 l vs ∨ SqT X.K H1 l vs) → Reps X.K ρ1 H1 ds vs → WR (ssD ds h1) (PostE X.K cl ρ H Q) (PostX X.K cl ρ1 H1 E) →
      ∃ l : Addr, v = V.ref l ∧ ((∃ ns : List Int, (SqL X.K H1 l (ns.map V.int) ∨ SqT X.K H1 l (ns.map V.int)) ∧ ns.length < 64 ∧
        ∀ (ms : List Int) (p : Addr), ms.Pairwise (· < ·) → (∀ k : Int, k ∈ ms ↔ k ∈ ns) → H1 p = none → Q (.ref p) (upd H1 p (.lst (ms.map V.int)))) ∨
        ∃ xs : List Str, (SqL X.K H1 l (xs.map V.str) ∨ SqT X.K H1 l (xs.map V.str)) ∧ xs.length < 4000 ∧
          ∀ (ys : List Str) (p : Addr), sortedS ys = true → ys.Nodup → (∀ k : Str, k ∈ ys ↔ k ∈ xs) → H1 p = none → Q (.ref p) (upd H1 p (.lst (ys.map V.str)))) := fun ds l vs ev sq t w2 => by
    refine ⟨l, ev, ?_⟩
    unfold ssD at w2
    cases q : intsD ds with
    | some ys =>
      rw [q] at w2
      have e := intsD_rel t q
      subst e
      dsimp only at w2
      by_cases c : ys.length < 64
      case neg => rw [if_neg c] at w2; exact (show False from w2).elim
      rw [if_pos c] at w2
      refine .inl ⟨ys, sq, c, fun ms p hs hm hn => ?_⟩
      have em : ms = sortI ys := rising_eq hs (sortI_pair ys) fun k => (hm k).trans sortI_mem.symm
      subst em
      exact new_lst (Q := Q) hr1 (reps_sorted _) (w2.imp (fun _ _ q => q.keep kp) fun _ _ _ q => q) p hn
    | none =>
      rw [q] at w2
      dsimp only at w2
      cases q2 : strsD ds with
      | none => rw [q2] at w2; exact (show False from w2).elim
      | some ys =>
        rw [q2] at w2
        have e := strsD_rel t q2
        have el := strsD_len t q2
        subst e
        dsimp only at w2
        by_cases c : ys.length < 4000
        case neg => rw [if_neg c] at w2; exact (show False from w2).elim
        rw [if_pos c] at w2
        refine .inr ⟨ys, sq, c, fun ms p hs nd hm hn => ?_⟩
        have em : ms = sortU ys := risingU_eq (sortedU hs nd) (sortU_pair ys) fun k => (hm k).trans sortU_mem.symm
        subst em
        exact new_lst (Q := Q) hr1 (reps_strs _ fun y hy => el y (sortU_mem.mp hy)) (w2.imp (fun _ _ q => q.keep kp) fun _ _ _ q => q) p hn
  cases r1 with
  | @tup p ds vs sq t => exact fin ds p vs rfl (.inr sq) t w1
  | @ref a p ea =>
    have w2 : WR (match h1[a]? with
      | some (.lst xs) => ssD xs h1
      | _ => .bad) (PostE X.K cl ρ H Q) (PostX X.K cl ρ1 H1 E) := w1
    cases eo : h1[a]? with
    | none => rw [eo] at w2; exact (show False from w2).elim
    | some o =>
      rw [eo] at w2
      cases o with
      | lst ds =>
        obtain ⟨vs, e3, t1⟩ := obj_lst hr1 ea eo
        exact fin ds p vs rfl (.inl (SqL.of e3)) t1 w2
      | dic _ => exact (show False from w2).elim
      | ins _ _ => exact (show False from w2).elim
  | _ => exact (show False from w1).elim
end
end IX
end

section
set_option Elab.async false
set_option linter.all false
set_option maxRecDepth 100000
set_option maxHeartbeats 2000000
/-! IXd: a dict's display. -/
namespace IX
open PySem PySem.Spec PyProof.Rows L2
def flatP : List (V × V) → List V
  | [] => []
  | (a, b) :: r => a :: b :: flatP r
theorem pairs_rel {K : PySem.W.Frag} {ρ : Rho} {H : Hp} : ∀ {kvs : List (D × D)} {ds : List D} {vs : List V} {ps : List (V × V)}, Reps K ρ H ds vs → pairs ds = some kvs → (∀ p ∈ kvs, (keyD p.1).isSome = true) → flatP ps = vs → ∃ ks : List (Key × V), RepK K ρ H kvs ks ∧ ps = ks.map fun kv => (kV kv.1, kv.2)
  | kvs, [], _, ps, .nil, q, _, e => by
    cases q
    cases ps with
    | nil => exact ⟨[], .nil, rfl⟩
    | cons p r => cases e
  | kvs, [_], _, ps, _, q, _, e => by cases q
  | kvs, k :: d :: ds, _, ps, .cons a (.cons b t), q, hk, e => by
    have q' : (pairs ds).map (fun q => (k, d) :: q) = some kvs := q
    cases q2 : pairs ds with
    | none => rw [q2] at q'; cases q'
    | some kvs2 =>
      rw [q2] at q'
      cases q'
      cases ps with
      | nil => cases e
      | cons p r =>
        obtain ⟨p1, p2⟩ := p
        injection e with e1 e
        injection e with e2 e
        subst e1 e2
        obtain ⟨ks, rk, rfl⟩ := pairs_rel t q2 (fun p hp => hk p (List.mem_cons_of_mem _ hp)) e
        have z := hk (k, d) List.mem_cons_self
        cases q3 : keyD k with
        | none => rw [show keyD (k, d).1 = keyD k from rfl, q3] at z; cases z
        | some j =>
          have e5 := keyD_kV a q3
          subst e5
          exact ⟨(j, p2) :: ks, .cons q3 a b rk, rfl⟩
theorem merge_rel {K : PySem.W.Frag} {ρ : Rho} {H : Hp} : ∀ {kvs acc : List (D × D)} {ks acc2 : List (Key × V)}, RepK K ρ H kvs ks → RepK K ρ H acc acc2 → RepK K ρ H (mergeD acc kvs) (mergeK acc2 ks)
  | _, _, _, _, .nil, s => s
  | _, _, _, _, .cons e a b r, s => by
    have z := merge_rel r (put_rel e a b s)
    exact z
section
variable {X : Cx} {cl : Nat → Option Addr} {P : Pg} {E : XK} {pos : Pos}
theorem disp_ok {f : Expr → Option IX.E} (hf : ∀ e c, f e = some c → PE X e (tE X.K cl P E c)) : ∀ {ks : List (Option Expr)} {vs : List Expr} {ce : IX.E}, compD f ks vs = some ce → ∃ trs, PPs X pos ks vs trs ∧ ks.all (·.isSome) = true ∧ ks.length = vs.length ∧
    ∀ σ H Q, tA X.K cl P E ce σ H (fun ws H2 => ∀ ps, flatP ps = ws → Q ps H2) → tPairs trs σ H Q
  | [], [], ce, h => by
    cases h
    refine ⟨[], pps_nil, rfl, rfl, fun σ H Q ⟨ρ, τ, h, s, hr, w⟩ => ?_⟩
    exact (show PostA X.K cl ρ H _ [] h from w) ρ H [] Keep.refl hr .nil [] rfl
  | [], _ :: _, ce, h => by cases h
  | none :: _, _, ce, h => by cases h
  | some _ :: _, [], ce, h => by cases h
  | some k :: ks, v :: vs, ce, h => by
    have h1 : (match (generalizing := false) f k, f v, compD f ks vs with
      | some a, some b, some c => some (IX.E.cons a (.cons b c))
      | _, _, _ => none) = some ce := h
    cases q1 : f k with
    | none => rw [q1] at h1; cases h1
    | some a =>
      cases q2 : f v with
      | none => rw [q1, q2] at h1; cases h1
      | some b =>
        cases q3 : compD f ks vs with
        | none => rw [q1, q2, q3] at h1; cases h1
        | some c =>
          rw [q1, q2, q3] at h1
          cases h1
          obtain ⟨trs, hp, hall, hl, ih⟩ := disp_ok hf q3
          refine ⟨_ :: trs, pps_cons (hf k a q1) (hf v b q2) hp, by rw [List.all_cons, hall]; rfl, congrArg Nat.succ hl, fun σ H Q ⟨ρ, τ, h, s, hr, w⟩ => ?_⟩
          have w0 : WR ((evalE P a τ h).bind fun x h1 => (evalEs P (.cons b c) τ h1).bind fun xs h2 => R.ok (x :: xs) h2) (PostA X.K cl ρ H (fun ws H2 => ∀ ps, flatP ps = ws → Q ps H2)) (PostX X.K cl ρ H E) := w
          refine ev1 s hr w0 fun ρ1 H1 v d h1 kp hr1 s1 r1 w1 => ?_
          have w1' : WR (((evalE P b τ h1).bind fun y h2 => (evalEs P c τ h2).bind fun ys h3 => R.ok (y :: ys) h3).bind fun xs h2 => R.ok (d :: xs) h2) (PostA X.K cl ρ H (fun ws H2 => ∀ ps, flatP ps = ws → Q ps H2)) (PostX X.K cl ρ1 H1 E) := w1
          rw [bind_assoc] at w1'
          refine ev1 s1 hr1 w1' fun ρ2 H2 u e h2 kp2 hr2 s2 r2 w2 => ?_
          rw [bind_assoc] at w2
          refine ih σ H2 (fun ps H3 => Q ((v, u) :: ps) H3) (evs s2 hr2 w2 fun ρ3 H3 vs ds h3 kp3 hr3 s3 r3 w3 => ?_)
          intro ps ep
          exact (show PostA X.K cl ρ H _ (d :: e :: ds) h3 from w3) ρ3 H3 (v :: u :: vs) (kp.trans (kp2.trans kp3)) hr3 (.cons ((r1.keep kp2).keep kp3) (.cons (r2.keep kp3) r3)) ((v, u) :: ps) (by rw [flatP, ep])
theorem s_disp {f : Expr → Option IX.E} (hf : ∀ e c, f e = some c → PE X e (tE X.K cl P E c)) {ks : List (Option Expr)} {vs : List Expr} {ce : IX.E} (h : compD f ks vs = some ce) (hne : ks ≠ []) (h15 : ks.length ≤ 15) : PE X (.Dict ks vs pos) (tE X.K cl P E (.dic ce)) := by
  obtain ⟨trs, hp, hall, hl, go⟩ := disp_ok (pos := pos) hf h
  refine (pe_disp hp hall hl hne h15).imp fun σ H Q ⟨ρ, τ, h, s, hr, w⟩ p n => ?_
  have kn : Keep X.K ρ H ρ (upd H p (.dK [])) := Keep.new n
  have hr0 : HRel X.K cl ρ (upd H p (.dK [])) h := hr.beside n
  have w0 : WR ((evalEs P ce τ h).bind fun xs h1 => match pairs xs with
    | some kvs => if kvs.length ≤ 15 ∧ kvs.all (fun p => (keyD p.1).isSome) = true then R.new (.dic (mergeD [] kvs)) h1 else .bad
    | none => .bad) (PostE X.K cl ρ H Q) (PostX X.K cl ρ (upd H p (.dK [])) E) := (show WR ((evalEs P ce τ h).bind _) (PostE X.K cl ρ H Q) (PostX X.K cl ρ H E) from w).imp (fun _ _ q => q) fun _ _ _ q => q.keep kn
  refine go σ _ _ (evs (s.keep kn) hr0 w0 fun ρ1 H1 vs ds h1 kp hr1 s1 r1 w1 ps ep => ?_)
  cases q : pairs ds with
  | none => rw [q] at w1; exact (show False from w1).elim
  | some kvs =>
    rw [q] at w1
    dsimp only at w1
    by_cases c : kvs.length ≤ 15 ∧ kvs.all (fun p => (keyD p.1).isSome) = true
    case neg => rw [if_neg c] at w1; exact (show False from w1).elim
    rw [if_pos c] at w1
    obtain ⟨ks2, rk, rfl⟩ := pairs_rel r1 q (fun p hp => (List.all_eq_true.mp c.2) p hp) ep
    have nn := hr.notin n
    have oth := kp.other p (by rw [upd_same]; exact fun z => nomatch z) nn
    have e4 : H1 p = some (.dK []) := oth.1.trans upd_same
    have s4 : Soft H1 p := Soft.dK e4
    refine ⟨e4, ks2, rfl, by rw [← rk.length]; exact c.1, ?_⟩
    refine (show PostE X.K cl ρ H Q (.ref h1.length) (h1 ++ [.dic (mergeD [] kvs)]) from w1) (ρ1 ++ [p]) (upd H1 p (.dK (mergeK [] ks2))) (.ref p) (((kn.trans kp).side n s4).take n) ((hr1.side oth.2 s4).take oth.2 ⟨mergeK [] ks2, upd_same, ((merge_rel rk .nil).kp (Kp.side s4)).kp Kp.grow⟩) (.ref ?_)
    rw [← hr1.len, List.getElem?_append_right (Nat.le_refl _), Nat.sub_self]; rfl
end
end IX
end

section
set_option Elab.async false
set_option linter.all false
set_option maxRecDepth 100000
set_option maxHeartbeats 4000000
/-! IX15: every expression's code is right, whole. -/
namespace IX
open PySem PySem.Spec PyProof.Rows L2
theorem tg_tuple {N : List Str} {sc : Scope} {tg : Expr} {g : List Nat} (h : compT N sc tg = some (g, true)) : ∃ elts k p, tg = .Tuple elts k p := by
  cases tg with
  | Tuple es k p => exact ⟨es, k, p, rfl⟩
  | Name x p =>
    simp only [compT] at h
    cases q : compN N sc (.Name x p) with
    | none => rw [q] at h; cases h
    | some i => rw [q] at h; cases h
  | _ => cases h
theorem zip_snd {α β : Type} : ∀ {xs : List α} {ys : List β}, xs.length = ys.length → (xs.zip ys).map (·.2) = ys
  | [], [], _ => rfl
  | _ :: xs, _ :: ys, h => congrArg (_ :: ·) (zip_snd (Nat.succ.inj h))
section
variable {X : Cx} {G : Gam} {T : Tbl} {cl : Nat → Option Addr} {n : Nat} {E : XK} {sc : Scope}
theorem call_ok {f : Expr → Option IX.E} (o : Ok X G T cl n E) (S : ScOk X sc) (hf : ∀ e c, f e = some c → PE X e (tE X.K cl (pgT T n) E c)) {x : Str} {p pos : Pos} {args : List Expr} {c : IX.E}
    (h : (if isGl (sc.names.lookup x) = true ∧ okName x = true then (match G.glob x with
        | some (.fn i) => (compL f args).map (.call i)
        | some _ => none
        | none => if x = ("isinstance" : Str) then (match (generalizing := false) args with
            | [a, t] => if notStar a = true ∧ notStar t = true then (match (generalizing := false) f a, tyOf G sc t with
              | some x, some t => if isOwn t = false then some (.isi x [t]) else none
              | _, _ => none) else none
            | _ => none)
          else match (generalizing := false) ssOf (fun y => isGl (sc.names.lookup y) && (G.glob y).isNone) x args with
            | some a => (f a).map fun z => .bi .sortset (.cons z .nil)
            | none => match (generalizing := false) biOf x, args with
              | some b, e :: es => (compL f (e :: es)).map (.bi b)
              | _, _ => none) else none) = some c) : PE X (.Call (.Name x p) args [] pos) (tE X.K cl (pgT T n) E c) := by
  by_cases hg : isGl (sc.names.lookup x) = true ∧ okName x = true
  case neg => rw [if_neg hg] at h; cases h
  rw [if_pos hg] at h
  obtain ⟨n1, n2, n3⟩ := name_of hg.2
  have gl := S.gl x hg.1
  cases q : G.glob x with
  | some k =>
    rw [q] at h
    cases k with
    | fn i =>
      cases q2 : compL f args with
      | none => rw [q2] at h; cases h
      | some ce =>
        rw [q2] at h
        cases h
        cases args with
        | nil => cases q2; exact s_call0 o gl q n1
        | cons e es =>
          have q3 := q2
          unfold compL at q3
          by_cases ns : notStar e = true
          case neg => rw [if_neg ns] at q3; cases q3
          rw [if_pos ns] at q3
          cases q4 : f e with
          | none => rw [q4] at q3; cases q3
          | some ce0 =>
            cases q5 : compL f es with
            | none => rw [q4, q5] at q3; cases q3
            | some ce1 => exact s_call o gl q n1 (s_args hf q2) (star_of ns) (plain_of q5)
    | _ => cases h
  | none =>
    rw [q] at h
    have h1 : (if x = ("isinstance" : Str) then (match (generalizing := false) args with
            | [a, t] => if notStar a = true ∧ notStar t = true then (match (generalizing := false) f a, tyOf G sc t with
              | some x, some t => if isOwn t = false then some (IX.E.isi x [t]) else none
              | _, _ => none) else none
            | _ => none)
          else match (generalizing := false) ssOf (fun y => isGl (sc.names.lookup y) && (G.glob y).isNone) x args with
            | some a => (f a).map fun z => IX.E.bi .sortset (IX.E.cons z .nil)
            | none => match (generalizing := false) biOf x, args with
              | some b, e :: es => (compL f (e :: es)).map (IX.E.bi b)
              | _, _ => none) = some c := h
    by_cases hx : x = ("isinstance" : Str)
    · rw [if_pos hx] at h1
      subst hx
      match args, h1 with
      | [a, t], h1 =>
        have h2 : (if notStar a = true ∧ notStar t = true then (match (generalizing := false) f a, tyOf G sc t with
              | some x, some t => if isOwn t = false then some (IX.E.isi x [t]) else none
              | _, _ => none) else none) = some c := h1
        by_cases ns : notStar a = true ∧ notStar t = true
        case neg => rw [if_neg ns] at h2; cases h2
        rw [if_pos ns] at h2
        cases q1 : f a with
        | none => rw [q1] at h2; cases h2
        | some ca =>
          cases q2 : tyOf G sc t with
          | none => rw [q1, q2] at h2; cases h2
          | some ty =>
            rw [q1, q2] at h2
            have h3 : (if isOwn ty = false then some (IX.E.isi ca [ty]) else none) = some c := h2
            by_cases ow : isOwn ty = false
            case neg => rw [if_neg ow] at h3; cases h3
            rw [if_pos ow] at h3
            cases h3
            exact s_isi o S gl (o.non _ (by decide)) q2 ow (hf a ca q1) ns.1 ns.2
      | [], h1 => cases h1
      | [_], h1 => cases h1
      | _ :: _ :: _ :: _, h1 => cases h1
    · rw [if_neg hx] at h1
      cases q0 : ssOf (fun y => isGl (sc.names.lookup y) && (G.glob y).isNone) x args with
      | some a =>
        rw [q0] at h1
        have h2 : (f a).map (fun z => IX.E.bi .sortset (IX.E.cons z .nil)) = some c := h1
        obtain ⟨rfl, p2, q2, rfl, hg2, ns⟩ := ssOf_ok q0
        rw [Bool.and_eq_true, Option.isNone_iff_eq_none] at hg2
        cases q1 : f a with
        | none => rw [q1] at h2; cases h2
        | some ca =>
          rw [q1] at h2
          cases h2
          exact s_sortset o.calm gl (o.non _ (by decide)) (S.gl _ hg2.1) (o.non _ (by decide)) (hf a ca q1) (star_of ns)
      | none =>
      rw [q0] at h1
      cases q1 : biOf x with
      | none => rw [q1] at h1; cases h1
      | some b =>
        rw [q1] at h1
        cases args with
        | nil => cases h1
        | cons e es =>
          have h2 : (compL f (e :: es)).map (IX.E.bi b) = some c := h1
          cases q2 : compL f (e :: es) with
          | none => rw [q2] at h2; cases h2
          | some ce =>
            rw [q2] at h2
            cases h2
            have q3 := q2
            unfold compL at q3
            by_cases ns : notStar e = true
            case neg => rw [if_neg ns] at q3; cases q3
            rw [if_pos ns] at q3
            cases q4 : f e with
            | none => rw [q4] at q3; cases q3
            | some ce0 =>
              cases q5 : compL f es with
              | none => rw [q4, q5] at q3; cases q3
              | some ce1 => exact s_bi o.calm q1 gl (o.non x (bi_blt q1)) n3 n1 (s_args hf q2) (star_of ns) (plain_of q5)
theorem meth_ok (hu : X.A.units + 1 < cLine) {f : Expr → Option IX.E} (hf : ∀ e c, f e = some c → PE X e (tE X.K cl (pgT T n) E c)) {o : Expr} {m : Str} {apos cpos : Pos} {args : List Expr} {c : IX.E}
    (h : (if (apos.endLine == cpos.line) = true ∧ notSup o = true ∧ args.length < 29 then (match G.meth m with
        | some _ => none
        | none => match (generalizing := false) meOf m, f o, compL f args with
          | some k, some x, some y => some (IX.E.me k x y)
          | _, _, _ => none) else none) = some c) : PE X (.Call (.Attribute o m apos) args [] cpos) (tE X.K cl (pgT T n) E c) := by
  by_cases hg : (apos.endLine == cpos.line) = true ∧ notSup o = true ∧ args.length < 29
  case neg => rw [if_neg hg] at h; cases h
  rw [if_pos hg] at h
  cases q0 : G.meth m with
  | some _ => rw [q0] at h; cases h
  | none =>
    rw [q0] at h
    have h1 : (match (generalizing := false) meOf m, f o, compL f args with
          | some k, some x, some y => some (IX.E.me k x y)
          | _, _, _ => none) = some c := h
    cases q1 : meOf m with
    | none => rw [q1] at h1; cases h1
    | some k =>
      cases q2 : f o with
      | none => rw [q1, q2] at h1; cases h1
      | some co =>
        cases q3 : compL f args with
        | none => rw [q1, q2, q3] at h1; cases h1
        | some ce =>
          rw [q1, q2, q3] at h1
          cases h1
          cases args with
          | nil => cases q3; exact s_me0 hu q1 (hf o co q2) hg.2.1 hg.1
          | cons e es =>
            have q4 := q3
            unfold compL at q4
            by_cases ns : notStar e = true
            case neg => rw [if_neg ns] at q4; cases q4
            rw [if_pos ns] at q4
            cases q5 : f e with
            | none => rw [q5] at q4; cases q4
            | some ce0 =>
              cases q6 : compL f es with
              | none => rw [q5, q6] at q4; cases q4
              | some ce1 => exact s_me hu q1 (hf o co q2) (s_args hf q3) hg.2.1 hg.1 hg.2.2 (star_of ns) (plain_of q3) (plain_of q6)
theorem compE_ok : ∀ (k : Nat) {X : Cx} {E : XK} {sc : Scope} {e : Expr} {c : IX.E}, Ok X G T cl n E → ScOk X sc → compE G X.N k sc e = some c → Both X T cl n E e c
  | 0, X, E, sc, e, c, o, S, h => by cases h
  | k + 1, X, E, sc, e, c, o, S, h => by
    have ih : ∀ e c, compE G X.N k sc e = some c → Both X T cl n E e c := fun e c q => compE_ok k o S q
    have ihE : ∀ e c, compE G X.N k sc e = some c → PE X e (tE X.K cl (pgT T n) E c) := fun e c q => (ih e c q).1
    have hu := o.hu
    generalize hf : compE G X.N k sc = f at ih ihE
    cases e with
    | Name x p =>
      refine both_plain ?_ rfl
      have h1 : (if okName x = true then (if isVis (sc.names.lookup x) = true then (place x X.N).map IX.E.loc
        else if isGl (sc.names.lookup x) = true then (match G.glob x with
          | some (.cst d) => some (.cst d)
          | _ => none) else none) else none) = some c := h
      by_cases hn : okName x = true
      case neg => rw [if_neg hn] at h1; cases h1
      rw [if_pos hn] at h1
      obtain ⟨n1, n2, n3⟩ := name_of hn
      by_cases hv : isVis (sc.names.lookup x) = true
      · rw [if_pos hv] at h1
        cases q : place x X.N with
        | none => rw [q] at h1; cases h1
        | some i => rw [q] at h1; cases h1; exact s_loc (place_ix q) (S.vis x hv) n1 n2
      · rw [if_neg hv] at h1
        by_cases hg : isGl (sc.names.lookup x) = true
        case neg => rw [if_neg hg] at h1; cases h1
        rw [if_pos hg] at h1
        cases q : G.glob x with
        | none => rw [q] at h1; cases h1
        | some g =>
          rw [q] at h1
          cases g with
          | cst d =>
            cases h1
            obtain ⟨u, v, m, r, rep⟩ := o.cst x d q
            exact s_cst (pe_glob (S.gl x hg) m r n1) rep
          | _ => cases h1
    | Constant cc j p =>
      refine both_plain ?_ rfl
      cases cc with
      | int i => cases h; exact s_cst pe_int fun _ _ => .int i
      | bool b => cases h; exact s_cst pe_bl fun _ _ => .bl b
      | none => cases h; exact s_cst pe_non fun _ _ => .non
      | str x =>
        have h1 : (if x.length ≤ line then some (IX.E.cst (.str x)) else none) = some c := h
        by_cases z : x.length ≤ line
        · rw [if_pos z] at h1; cases h1; exact s_cst pe_str fun _ _ => .str x z
        · rw [if_neg z] at h1; cases h1
      | _ => cases h
    | BinOp a op b p =>
      refine both_plain ?_ rfl
      have h1 : (match (generalizing := false) opOf op, compE G X.N k sc a, compE G X.N k sc b with
        | some o, some x, some y => some (IX.E.bop o x y)
        | _, _, _ => none) = some c := h
      rw [hf] at h1
      cases q1 : opOf op with
      | none => rw [q1] at h1; cases h1
      | some o' =>
        cases q2 : f a with
        | none => rw [q1, q2] at h1; cases h1
        | some x =>
          cases q3 : f b with
          | none => rw [q1, q2, q3] at h1; cases h1
          | some y => rw [q1, q2, q3] at h1; cases h1; exact s_bop (op_ok q1) (ihE a x q2) (ihE b y q3)
    | UnaryOp op a p =>
      have h1 : (match (generalizing := false) op, compE G X.N k sc a with
        | .Not, some x => some (IX.E.not x)
        | .USub, some x => some (.neg x)
        | _, _ => none) = some c := h
      rw [hf] at h1
      cases q : f a with
      | none => rw [q] at h1; cases op <;> cases h1
      | some x =>
        rw [q] at h1
        cases op <;> first | (cases h1; done) | skip
        · cases h1; exact ⟨s_notV (ih a x q).1, s_not (ih a x q).2⟩
        · cases h1; exact both_plain (s_neg (ih a x q).1) rfl
    | BoolOp op es p =>
      cases op with
      | And =>
        have h1 : compB (compE G X.N k sc) IX.E.and es = some c := h
        rw [hf] at h1
        have a := and_ok ih (pos := p) h1
        exact ⟨a.1, a.2.pt⟩
      | Or =>
        have h1 : compB (compE G X.N k sc) IX.E.or es = some c := h
        rw [hf] at h1
        have a := or_ok ih (pos := p) h1
        exact ⟨a.1, a.2.pt⟩
    | IfExp cd a b p =>
      have h1 : (match (generalizing := false) compE G X.N k sc cd, compE G X.N k sc a, compE G X.N k sc b with
        | some z, some x, some y => some (IX.E.ite z x y)
        | _, _, _ => none) = some c := h
      rw [hf] at h1
      cases q1 : f cd with
      | none => rw [q1] at h1; cases h1
      | some z =>
        cases q2 : f a with
        | none => rw [q1, q2] at h1; cases h1
        | some x =>
          cases q3 : f b with
          | none => rw [q1, q2, q3] at h1; cases h1
          | some y => rw [q1, q2, q3] at h1; cases h1; exact ⟨s_ifV (ih cd z q1).2 (ihE a x q2) (ihE b y q3), s_ifT (ih cd z q1).2 (ih a x q2).2 (ih b y q3).2⟩
    | Compare a ops bs p =>
      match ops, bs, h with
      | [op], [b], h =>
        have h1 : (if behindInMarks op b = false then (match (generalizing := false) cmpOf op, compE G X.N k sc a, compE G X.N k sc b with
          | some o, some x, some y => some (IX.E.bop o x y)
          | _, _, _ => none) else none) = some c := h
        rw [hf] at h1
        by_cases hm : behindInMarks op b = false
        case neg => rw [if_neg hm] at h1; cases h1
        rw [if_pos hm] at h1
        cases q1 : cmpOf op with
        | none => rw [q1] at h1; cases h1
        | some o' =>
          cases q2 : f a with
          | none => rw [q1, q2] at h1; cases h1
          | some x =>
            cases q3 : f b with
            | none => rw [q1, q2, q3] at h1; cases h1
            | some y => rw [q1, q2, q3] at h1; cases h1; exact ⟨s_cmp (cmp_ok hu q1) (ihE a x q2) (ihE b y q3) hm, s_cmpT (cmp_ok hu q1) (cmp_bl q1).1 (cmp_bl q1).2 (ihE a x q2) (ihE b y q3) hm⟩
      | [op, op'], [b, d], h =>
        have h1 : (if lastMarks [op, op'] [b, d] = false then (match (generalizing := false) cmpOf op, cmpOf op', compE G X.N k sc a, compE G X.N k sc b, compE G X.N k sc d with
          | some o, some p, some x, some y, some z => some (IX.E.cmp2 o p x y z)
          | _, _, _, _, _ => none) else none) = some c := h
        rw [hf] at h1
        by_cases hm : lastMarks [op, op'] [b, d] = false
        case neg => rw [if_neg hm] at h1; cases h1
        rw [if_pos hm] at h1
        cases q1 : cmpOf op with
        | none => rw [q1] at h1; cases h1
        | some o1 =>
          cases q1' : cmpOf op' with
          | none => rw [q1, q1'] at h1; cases h1
          | some o2 =>
            cases q2 : f a with
            | none => rw [q1, q1', q2] at h1; cases h1
            | some x =>
              cases q3 : f b with
              | none => rw [q1, q1', q2, q3] at h1; cases h1
              | some y =>
                cases q4 : f d with
                | none => rw [q1, q1', q2, q3, q4] at h1; cases h1
                | some z =>
                  rw [q1, q1', q2, q3, q4] at h1; cases h1
                  exact ⟨s_chain (cmp_ok hu q1) (cmp_ok hu q1') (ihE a x q2) (ihE b y q3) (ihE d z q4) hm, s_chainT (cmp_ok hu q1) (cmp_ok hu q1') (cmp_bl q1').1 (ihE a x q2) (ihE b y q3) (ihE d z q4) hm⟩
      | [], bs, h => cases bs <;> cases h
      | [_], [], h => cases h
      | [_], _ :: _ :: _, h => cases h
      | [_, _], [], h => cases h
      | [_, _], [_], h => cases h
      | [_, _], _ :: _ :: _ :: _, h => cases h
      | _ :: _ :: _ :: _, bs, h => cases h
    | Tuple es x1 p =>
      refine both_plain ?_ rfl
      have h1 : (compL (compE G X.N k sc) es).map IX.E.tup = some c := h
      rw [hf] at h1
      cases q : compL f es with
      | none => rw [q] at h1; cases h1
      | some ce => rw [q] at h1; cases h1; exact s_tup (s_args ihE q)
    | List es p =>
      refine both_plain ?_ rfl
      have h1 : (compL (compE G X.N k sc) es).map IX.E.lst = some c := h
      rw [hf] at h1
      cases q : compL f es with
      | none => rw [q] at h1; cases h1
      | some ce => rw [q] at h1; cases h1; exact s_lst (s_args ihE q)
    | Dict ks vs p =>
      refine both_plain ?_ rfl
      cases ks with
      | cons kk ks =>
        have h1 : (if (kk :: ks).length ≤ 15 then (compD (compE G X.N k sc) (kk :: ks) vs).map IX.E.dic else none) = some c := h
        rw [hf] at h1
        by_cases z : (kk :: ks).length ≤ 15
        case neg => rw [if_neg z] at h1; cases h1
        rw [if_pos z] at h1
        cases q : compD f (kk :: ks) vs with
        | none => rw [q] at h1; cases h1
        | some ce => rw [q] at h1; cases h1; exact s_disp ihE q (fun z => nomatch z) z
      | nil =>
        cases vs with
        | cons _ _ => cases h
        | nil => cases h; exact s_dic0
    | Subscript a b p =>
      refine both_plain ?_ rfl
      have key : notSl b = true → (match (generalizing := false) compE G X.N k sc a, compE G X.N k sc b with
        | some x, some y => some (IX.E.idx x y)
        | _, _ => none) = some c → PE X (.Subscript a b p) (tE X.K cl (pgT T n) E c) := fun hs h1 => by
        rw [hf] at h1
        cases q1 : f a with
        | none => rw [q1] at h1; cases h1
        | some x =>
          cases q2 : f b with
          | none => rw [q1, q2] at h1; cases h1
          | some y => rw [q1, q2] at h1; cases h1; exact s_idx (by omega) (ihE a x q1) (ihE b y q2) (plainIx_of hs)
      cases b with
      | Slice lo hi st p2 =>
        cases st with
        | some st =>
          have h1 : (if isM1 st = true ∧ lo.isNone = true ∧ hi.isNone = true then (compE G X.N k sc a).map IX.E.rev else none) = some c := h
          by_cases hm : isM1 st = true ∧ lo.isNone = true ∧ hi.isNone = true
          case neg => rw [if_neg hm] at h1; cases h1
          rw [if_pos hm, hf] at h1
          cases q : f a with
          | none => rw [q] at h1; cases h1
          | some x =>
            rw [q] at h1
            cases h1
            obtain ⟨h2, h3, h4⟩ := hm
            cases lo with
            | some _ => cases h3
            | none =>
              cases hi with
              | some _ => cases h4
              | none =>
                unfold isM1 at h2
                split at h2
                · have e := of_decide_eq_true h2
                  subst e
                  exact s_rev (ihE a x q)
                · cases h2
        | none =>
          have h1 : (match (generalizing := false) compE G X.N k sc a, optE (compE G X.N k sc) lo, optE (compE G X.N k sc) hi with
            | some x, some l, some u => some (IX.E.slc x l u)
            | _, _, _ => none) = some c := h
          rw [hf] at h1
          cases q1 : f a with
          | none => rw [q1] at h1; cases h1
          | some x =>
            cases q2 : optE f lo with
            | none => rw [q1, q2] at h1; cases h1
            | some l =>
              cases q3 : optE f hi with
              | none => rw [q1, q2, q3] at h1; cases h1
              | some u => rw [q1, q2, q3] at h1; cases h1; exact s_slc (ihE a x q1) (s_opt ihE q2) (s_opt ihE q3)
      | _ => exact key rfl h
    | Call fx args kws cpos =>
      refine both_plain ?_ rfl
      cases kws with
      | cons _ _ => cases fx <;> cases h
      | nil =>
        cases fx with
        | Name x p => exact call_ok o S (f := compE G X.N k sc) (by rw [hf]; exact ihE) h
        | Attribute ob m apos => exact meth_ok (by omega) (G := G) (f := compE G X.N k sc) (by rw [hf]; exact ihE) h
        | _ => cases h
    | ListComp elt gens scope p =>
      refine both_plain ?_ rfl
      match gens, h with
      | [⟨tg, it, ifs, 0⟩], h =>
        have h1 : (match (generalizing := false) compI (compE G X.N k sc) G sc it, compT X.N scope tg, compE G X.N k scope elt with
          | some i, some (g, tp), some x => if blkC X.N sc scope ((ownOf tg).zip g) = true ∧ enOk i tp = true ∧ (ownOf tg).length = g.length then (match (generalizing := false) ifs with
              | [] => some (IX.E.lc x g tp i .nil)
              | [c] => match (generalizing := false) compE G X.N k scope c with
                | some .nil => none
                | some c => some (.lc x g tp i c)
                | none => none
              | _ => none) else none
          | _, _, _ => none) = some c := h
        rw [hf] at h1
        cases q1 : compI f G sc it with
        | none => rw [q1] at h1; cases h1
        | some ci =>
          cases q2 : compT X.N scope tg with
          | none => rw [q1, q2] at h1; cases h1
          | some gt =>
            obtain ⟨g, tp⟩ := gt
            cases q3 : compE G X.N k scope elt with
            | none => rw [q1, q2, q3] at h1; cases h1
            | some cx =>
              rw [q1, q2, q3] at h1
              have h2 : (if blkC X.N sc scope ((ownOf tg).zip g) = true ∧ enOk ci tp = true ∧ (ownOf tg).length = g.length then (match (generalizing := false) ifs with
                | [] => some (IX.E.lc cx g tp ci .nil)
                | [c] => match (generalizing := false) compE G X.N k scope c with
                  | some .nil => none
                  | some c => some (.lc cx g tp ci c)
                  | none => none
                | _ => none) else none) = some c := h1
              by_cases hb : blkC X.N sc scope ((ownOf tg).zip g) = true ∧ enOk ci tp = true ∧ (ownOf tg).length = g.length
              case neg => rw [if_neg hb] at h2; cases h2
              rw [if_pos hb] at h2
              have ip := compI_ok o S ihE (tg := tg) q1 (fun ⟨a, e⟩ => by
                subst e
                have e2 : tp = true := hb.2.1
                subst e2
                exact tg_tuple q2)
              have bk := S.blkOk hb.1
              have zs := zip_snd hb.2.2
              have ht : ∀ (s : Shared) (H : Hp) (C : Addr) (cs : List (Str × Addr)) (fp : List Addr), PG (X.blk s H scope (compEnvC scope cs C X.env) fp) tg (tG X.K cl g tp) := fun s H C cs fp => s_tg (X := X.blk s H scope (compEnvC scope cs C X.env) fp) o.calm o.nd (ScOk.blk s H scope C cs fp) q2
              have he : ∀ (s : Shared) (H : Hp) (C : Addr) (cs : List (Str × Addr)) (fp : List Addr), PE (X.blk s H scope (compEnvC scope cs C X.env) fp) elt (tE X.K cl (pgT T n) E0 cx) := fun s H C cs fp => (compE_ok k (X := X.blk s H scope (compEnvC scope cs C X.env) fp) (o.blk s H scope _ fp) (ScOk.blk s H scope C cs fp) q3).1
              have fin : ∀ cc, (∀ (s : Shared) (H : Hp) (C : Addr) (cs : List (Str × Addr)) (fp : List Addr), PTs (X.blk s H scope (compEnvC scope cs C X.env) fp) ifs (tIfs X.K cl (pgT T n) E0 cc)) → PE X (.ListComp elt [⟨tg, it, ifs, 0⟩] scope p) (tE X.K cl (pgT T n) E (.lc cx g tp ci cc)) := fun cc hif => by
                have r := pe_lc (pos := p) o.calm o.nd ip.1 bk ht hif he (fold_of ip.2)
                rw [zs] at r
                exact r.imp (s_lc o.calm o.nd ip.1 bk zs ht hif he (fold_of ip.2))
              match ifs, h2, fin with
              | [], h2, fin => cases h2; exact fin .nil fun s H C cs fp => pts_nil
              | [cd], h2, fin =>
                have h3 : (match (generalizing := false) compE G X.N k scope cd with
                  | some .nil => none
                  | some c => some (IX.E.lc cx g tp ci c)
                  | none => none) = some c := h2
                cases q4 : compE G X.N k scope cd with
                | none => rw [q4] at h3; cases h3
                | some cc =>
                  have nn : cc.isNil = false := by
                    cases cc <;> first | rfl | (rw [q4] at h3; cases h3)
                  have e5 : some (IX.E.lc cx g tp ci cc) = some c := by
                    rw [q4] at h3
                    cases cc <;> first | exact h3 | cases nn
                  cases e5
                  refine fin cc fun s H C cs fp => ?_
                  have e6 : tIfs X.K cl (pgT T n) E0 cc = tT X.K cl (pgT T n) E0 cc := by unfold tIfs; rw [nn]; rfl
                  rw [e6]
                  exact pts_one (compE_ok k (X := X.blk s H scope (compEnvC scope cs C X.env) fp) (o.blk s H scope _ fp) (ScOk.blk s H scope C cs fp) q4).2
              | _ :: _ :: _, h2, fin => cases h2
      | [], h => cases h
      | [⟨_, _, _, Int.ofNat (_ + 1)⟩], h => cases h
      | [⟨_, _, _, Int.negSucc _⟩], h => cases h
      | _ :: _ :: _, h => simp [compE] at h
    | _ => cases h
end
end IX
end

section
set_option Elab.async false
set_option linter.all false
set_option maxRecDepth 100000
set_option maxHeartbeats 4000000
/-! IX16: statements: from the text to the code; readings. -/
namespace IX
open PySem PySem.Spec PyProof.Rows L2

def compSs (f : Stmt → Option S) : List Stmt → Option S
  | [] => some .skip
  | s :: r => match f s, compSs f r with
    | some a, some b => some (.seq a b)
    | _, _ => none
def notTup : Expr → Bool
  | .Tuple _ _ _ => false
  | _ => true
def isStrC : Expr → Bool
  | .Constant (.str _) _ _ => true
  | _ => false
/-- a, b = x, y whose stores are exchanged -/
def swapC (sc : Scope) (x y : Str) (px py : Pos) (vs : List Expr) : Bool :=
  (sc.names.lookup x == some .local) && (sc.names.lookup y == some .local) && decide (x ≠ y) && (py.line == px.line) && !(vs.all (foldedForSure 8)) && !(vs.all (constantsAlone 8))
def compPar (f : Expr → Option IX.E) (N : List Str) (sc : Scope) : List Expr → List Expr → Option S
  | [.Name x px, .Name y py], [a, b] => if swapC sc x y px py [a, b] = true ∧ notStar a = true ∧ notStar b = true then (match place x N, place y N, f a, f b with
    | some i, some j, some ca, some cb => some (.unp [i, j] (.tup (.cons ca (.cons cb .nil))))
    | _, _, _, _ => none) else none
  | _, _ => none
def compS (G : Gam) (N : List Str) : Nat → Scope → Stmt → Option S
  | 0, _, _ => none
  | k + 1, sc, s => match s with
    | .Pass _ => some .skip
    | .Expr e _ => if isStrC e = true then some .skip else if notComp e = true then (compE G N k sc e).map .exp else none
    | .Return none _ => some (.ret (.cst .non))
    | .Return (some e) _ => (compE G N k sc e).map .ret
    | .Assign [tg] e _ => match tg with
      | .Name x p => match compN N sc (.Name x p), compE G N k sc e with
        | some i, some c => some (.set i c)
        | _, _ => none
      | .Tuple es _ _ => if notTup e = true then (match compNs N sc es, compE G N k sc e with
          | some is, some c => some (.unp is c)
          | _, _ => none)
        else match e with
          | .Tuple vs _ _ => compPar (compE G N k sc) N sc es vs
          | _ => none
      | .Subscript a i _ => if notSl i = true then (match compE G N k sc a, compE G N k sc i, compE G N k sc e with
        | some x, some y, some z => some (.seti x y z)
        | _, _, _ => none) else none
      | _ => none
    | .If c a b _ => match compE G N k sc c, compSs (compS G N k sc) a, compSs (compS G N k sc) b with
      | some x, some y, some z => some (.ite x y z)
      | _, _, _ => none
    | .While c b els _ => match els, compE G N k sc c, compSs (compS G N k sc) b with
      | [], some x, some y => some (.whl x y)
      | _, _, _ => none
    | .For tg it b els _ => match els, compI (compE G N k sc) G sc it, compT N sc tg, compSs (compS G N k sc) b with
      | [], some i, some (g, tp), some y => if enOk i tp = true then some (.loop g tp i y) else none
      | _, _, _, _ => none
    | .Break _ => some .brk
    | .Continue _ => some .cnt
    | _ => none
/-- what is wanted behind a statement -/
def PostF (K : PySem.W.Frag) (cl : Nat → Option Addr) (ρ : Rho) (H : Hp) (D : Ends) (fl : Fl) (h' : Hh) : Prop := ∀ (ρ' : Rho) (H' : Hp), Keep K ρ H ρ' H' → HRel K cl ρ' H' h' → match fl with
  | .nx τ => ∀ σ', SRel K ρ' H' τ σ' → D.nx σ' H'
  | .bk τ => ∀ σ', SRel K ρ' H' τ σ' → D.bk σ' H'
  | .ct τ => ∀ σ', SRel K ρ' H' τ σ' → D.ct σ' H'
  | .rt d => ∀ v, Rep K ρ' H' d v → D.rt v H'
theorem PostF.keep {K : PySem.W.Frag} {cl : Nat → Option Addr} {ρ ρ1 : Rho} {H H1 : Hp} {D : Ends} {fl : Fl} {h' : Hh} (p : PostF K cl ρ H D fl h') (k : Keep K ρ H ρ1 H1) : PostF K cl ρ1 H1 D fl h' := fun ρ' H' k' r => p ρ' H' (k.trans k') r
def tS (K : PySem.W.Frag) (cl : Nat → Option Addr) (P : Pg) (E : XK) (c : IX.S) : TS := fun D σ H => ∃ ρ τ h, SRel K ρ H τ σ ∧ HRel K cl ρ H h ∧ WR (exec P c τ h) (PostF K cl ρ H D) (PostX K cl ρ H E)
theorem _root_.L2.PS.imp {X : Cx} {s : Stmt} {t t' : TS} (h : PS X s t) (hi : ∀ D σ H, t' D σ H → t D σ H) : PS X s t' := ⟨fun pins s σ H D I q => h.run pins s σ H D I (hi D σ H q)⟩
theorem _root_.L2.PSs.imp {X : Cx} {s : List Stmt} {t t' : TS} (h : PSs X s t) (hi : ∀ D σ H, t' D σ H → t D σ H) : PSs X s t' := ⟨fun pins s σ H D I q => h.run pins s σ H D I (hi D σ H q)⟩
/-- what is known at a def's body -/
structure StOk (X : Cx) (sc : Scope) : Prop where
  ok : ScOk X sc
  eq : X.env.scope = sc
  own : PassesOwn (model X.prog X.w) X.A X.env X.xe
theorem any2 {P : Expr → Bool} {a b : Expr} (h : ∀ e, notStar e = true → P e = false) (na : notStar a = true) (nb : notStar b = true) : ¬ ([a, b].any P = true) := by
  rw [List.any_cons, List.any_cons, h a na, h b nb]; exact fun z => nomatch z
theorem swap_ok {env : Env} {x y : Str} {px py pt pt2 : Pos} {kt k2 : Nat} {a b : Expr} (na : notStar a = true) (nb : notStar b = true) (kx : env.kindOf x = some .local) (ky : env.kindOf y = some .local) (bk : env.blockKind = .function) (ne : x ≠ y) (lp : py.line = px.line) (f1 : [a,b].all (foldedForSure 8) = false) (f2 : [a,b].all (constantsAlone 8) = false) :
  swappedStores [.Tuple [.Name x px, .Name y py] kt pt] (.Tuple [a, b] k2 pt2) env = pure (some [x, y]) := by
  unfold swappedStores
  dsimp only
  rw [bk, if_neg (fun z => nomatch z), if_neg (any2 (fun e h => by cases e <;> first | rfl | cases h) na nb)]
  rw [f1, f2]
  simp only [List.filterMap, kx, ky, lp, Expr.pos, List.head?, Option.map, Option.getD]
  have c : (some NameKind.local == some NameKind.local && px.line == px.line) = true := by simp
  have cl : ([x, y] : List Str).eraseDups.length = 2 := by
    have : (y == x) = false := by simpa using fun z => ne z.symm
    simp [List.eraseDups_cons, this]
  simp only [c, if_true]
  rw [cl]
  rfl
section
variable {X : Cx} {cl : Nat → Option Addr} {P : Pg} {E : XK} {a b c e : Expr} {ca cb cc : IX.E} {pos : Pos}
theorem wr_test {α : Type} {m : R D} {f g : Hh → R α} {k : α → Hh → Prop} {x : Nat → List (Str × D) → Hh → Prop} (w : WR (m.bind fun v h1 => match truth v h1 with
    | some true => f h1
    | some false => g h1
    | none => .bad) k x) : WR ((m.bind ofTruth).bind fun b h1 => if b = true then f h1 else g h1) k x := by
  cases m with
  | bad => exact w
  | ex _ _ _ => exact w
  | ok v h =>
    change WR (match truth v h with
    | some true => f h
    | some false => g h
    | none => R.bad) k x at w
    show WR ((ofTruth v h).bind fun b h1 => if b = true then f h1 else g h1) k x
    unfold ofTruth
    cases q : truth v h with
    | none => rw [q] at w; exact w
    | some b => rw [q] at w; cases b <;> exact w
theorem s_skip {s : Stmt} (h : PS X s tNext) : PS X s (tS X.K cl P E .skip) := h.imp fun D σ H ⟨ρ, τ, h, sr, hr, w⟩ => (show PostF X.K cl ρ H D (.nx τ) h from w) ρ H Keep.refl hr σ sr
theorem s_nil : PSs X [] (tS X.K cl P E .skip) := pss_nil.imp fun D σ H ⟨ρ, τ, h, sr, hr, w⟩ => (show PostF X.K cl ρ H D (.nx τ) h from w) ρ H Keep.refl hr σ sr
theorem s_exp (he : PE X e (tE X.K cl P E ca)) (hn : notComp e = true) : PS X (.Expr e pos) (tS X.K cl P E (.exp ca)) := by
  have hs : swapsWith e none pos.line X.env = pure false := by cases e <;> first | rfl | cases hn
  refine (ps_expr he hs).imp fun D σ H ⟨ρ, τ, h, sr, hr, w⟩ => ?_
  exact ev1 sr hr w fun ρ1 H1 v d h1 kp hr1 s1 r1 w1 => (show PostF X.K cl ρ H D (.nx τ) h1 from w1) ρ1 H1 kp hr1 σ s1
theorem s_ret (he : PE X e (tE X.K cl P E ca)) : PS X (.Return (some e) pos) (tS X.K cl P E (.ret ca)) := by
  refine (ps_ret he).imp fun D σ H ⟨ρ, τ, h, sr, hr, w⟩ => ?_
  exact ev1 sr hr w fun ρ1 H1 v d h1 kp hr1 s1 r1 w1 => (show PostF X.K cl ρ H D (.rt d) h1 from w1) ρ1 H1 kp hr1 v r1
theorem s_ret0 : PS X (.Return none pos) (tS X.K cl P E (.ret (.cst .non))) := by
  refine ps_retN.imp fun D σ H ⟨ρ, τ, h, sr, hr, w⟩ => ?_
  exact (show PostF X.K cl ρ H D (.rt .non) h from w) ρ H Keep.refl hr .non .non
theorem s_brk : PS X (.Break pos) (tS X.K cl P E .brk) := by
  refine ps_break.imp fun D σ H ⟨ρ, τ, h, sr, hr, w⟩ => ?_
  exact (show PostF X.K cl ρ H D (.bk τ) h from w) ρ H Keep.refl hr σ sr
theorem s_cnt : PS X (.Continue pos) (tS X.K cl P E .cnt) := by
  refine ps_continue.imp fun D σ H ⟨ρ, τ, h, sr, hr, w⟩ => ?_
  exact (show PostF X.K cl ρ H D (.ct τ) h from w) ρ H Keep.refl hr σ sr
theorem s_seq {s : Stmt} {r : List Stmt} {x y : IX.S} (h1 : PS X s (tS X.K cl P E x)) (h2 : PSs X r (tS X.K cl P E y)) : PSs X (s :: r) (tS X.K cl P E (.seq x y)) := by
  refine (pss_cons h1 h2).imp fun D σ H ⟨ρ, τ, h, sr, hr, w⟩ => ⟨ρ, τ, h, sr, hr, ?_⟩
  have w1 : WR ((exec P x τ h).bind fun fl h1 => match fl with
    | .nx σ1 => exec P y σ1 h1
    | fl => .ok fl h1) (PostF X.K cl ρ H D) (PostX X.K cl ρ H E) := w
  refine w1.bnd.imp (fun fl h1 w2 ρ1 H1 kp hr1 => ?_) fun _ _ _ q => q
  cases fl with
  | nx τ1 => exact fun σ1 s1 => ⟨ρ1, τ1, h1, s1, hr1, (show WR (exec P y τ1 h1) _ _ from w2).imp (fun _ _ q => q.keep kp) fun _ _ _ q => q.keep kp⟩
  | bk τ1 => exact (show PostF X.K cl ρ H D (.bk τ1) h1 from w2) ρ1 H1 kp hr1
  | ct τ1 => exact (show PostF X.K cl ρ H D (.ct τ1) h1 from w2) ρ1 H1 kp hr1
  | rt d => exact (show PostF X.K cl ρ H D (.rt d) h1 from w2) ρ1 H1 kp hr1
theorem s_if {p q : List Stmt} {x y : IX.S} (hc : PT X c (tT X.K cl P E cc)) (hp : PSs X p (tS X.K cl P E x)) (hq : PSs X q (tS X.K cl P E y)) : PS X (.If c p q pos) (tS X.K cl P E (.ite cc x y)) := by
  refine (ps_if hc hp hq).imp fun D σ H ⟨ρ, τ, h, sr, hr, w⟩ => ?_
  have w0 : WR ((evalE P cc τ h).bind fun v h1 => match truth v h1 with
    | some true => exec P x τ h1
    | some false => exec P y τ h1
    | none => .bad) (PostF X.K cl ρ H D) (PostX X.K cl ρ H E) := w
  refine evt sr hr (wr_test w0) fun ρ1 H1 k h1 kp hr1 s1 w1 => ?_
  cases k with
  | true => exact ⟨ρ1, τ, h1, s1, hr1, (show WR (exec P x τ h1) _ _ from w1).imp (fun _ _ q => q.keep kp) fun _ _ _ q => q⟩
  | false => exact ⟨ρ1, τ, h1, s1, hr1, (show WR (exec P y τ h1) _ _ from w1).imp (fun _ _ q => q.keep kp) fun _ _ _ q => q⟩
theorem s_while {body : List Stmt} {x : IX.S} (hp : PassesOwn (model X.prog X.w) X.A X.env X.xe) (hc : PT X c (tT X.K cl P E cc)) (hb : PSs X body (tS X.K cl P E x)) : PS X (.While c body [] pos) (tS X.K cl P E (.whl cc x)) := by
  refine (ps_while hp hc hb).imp fun D σ H ⟨ρ, τ, h, sr, hr, w⟩ => ?_
  refine ⟨fun m σ' H' => ∃ ρc τc hc, SRel X.K ρc H' τc σ' ∧ HRel X.K cl ρc H' hc ∧ Keep X.K ρ H ρc H' ∧ WR (whileF (evalE P cc) (exec P x) m τc hc) (PostF X.K cl ρ H D) (PostX X.K cl ρc H' E), ⟨rounds, ρ, τ, h, sr, hr, Keep.refl, w⟩, ?_⟩
  rintro m σ' H' ⟨ρc, τc, hc', sr', hr', kp', w'⟩
  cases m with
  | zero => exact (show False from w').elim
  | succ m =>
    have w0 : WR ((evalE P cc τc hc').bind fun v h0 => match truth v h0 with
      | some true => (exec P x τc h0).bind fun fl h1 => match fl with
        | .nx σ1 => whileF (evalE P cc) (exec P x) m σ1 h1
        | .ct σ1 => whileF (evalE P cc) (exec P x) m σ1 h1
        | .bk σ1 => .ok (.nx σ1) h1
        | .rt d => .ok (.rt d) h1
      | some false => .ok (.nx τc) h0
      | none => .bad) (PostF X.K cl ρ H D) (PostX X.K cl ρc H' E) := w'
    refine evt sr' hr' (wr_test w0) fun ρ1 H1 k h1 kp hr1 s1 w1 => ?_
    have kk := kp'.trans kp
    cases k with
    | false => exact (show PostF X.K cl ρ H D (.nx τc) h1 from w1) ρ1 H1 kk hr1 σ' s1
    | true =>
      have w2 : WR ((exec P x τc h1).bind fun fl h1 => match fl with
        | .nx σ1 => whileF (evalE P cc) (exec P x) m σ1 h1
        | .ct σ1 => whileF (evalE P cc) (exec P x) m σ1 h1
        | .bk σ1 => .ok (.nx σ1) h1
        | .rt d => .ok (.rt d) h1) (PostF X.K cl ρ H D) (PostX X.K cl ρ1 H1 E) := w1
      refine ⟨fun σ2 H2 => ∃ ρc τc hc, SRel X.K ρc H2 τc σ2 ∧ HRel X.K cl ρc H2 hc ∧ Keep X.K ρ H ρc H2 ∧ WR (whileF (evalE P cc) (exec P x) m τc hc) (PostF X.K cl ρ H D) (PostX X.K cl ρc H2 E), fun σ2 H2 n => ⟨m, Nat.lt_succ_self m, n⟩, ρ1, τc, h1, s1, hr1, ?_⟩
      refine w2.bnd.imp (fun fl h2 w3 ρ2 H2 kp2 hr2 => ?_) fun _ _ _ q => q
      cases fl with
      | nx τ2 => exact fun σ2 s2 => ⟨ρ2, τ2, h2, s2, hr2, kk.trans kp2, (show WR (whileF (evalE P cc) (exec P x) m τ2 h2) _ _ from w3).imp (fun _ _ q => q) fun _ _ _ q => q.keep kp2⟩
      | ct τ2 => exact fun σ2 s2 => ⟨ρ2, τ2, h2, s2, hr2, kk.trans kp2, (show WR (whileF (evalE P cc) (exec P x) m τ2 h2) _ _ from w3).imp (fun _ _ q => q) fun _ _ _ q => q.keep kp2⟩
      | bk τ2 => exact (show PostF X.K cl ρ H D (.nx τ2) h2 from w3) ρ2 H2 (kk.trans kp2) hr2
      | rt d => exact (show PostF X.K cl ρ H D (.rt d) h2 from w3) ρ2 H2 (kk.trans kp2) hr2
open Classical in
theorem s_for {tg iter : Expr} {body : List Stmt} {ci : IX.E} {x : IX.S} {g : List Nat} {tp : Bool} (hp : PassesOwn (model X.prog X.w) X.A X.env X.xe) (hc : X.calm = true) (hi : PI X tg iter (iE X.K cl P E ci)) (hg : PG X tg (tG X.K cl g tp)) (hb : PSs X body (tS X.K cl P E x))
    (hs : ∀ x, foldedSetIterable iter X.env x = pure x) : PS X (.For tg iter body [] pos) (tS X.K cl P E (.loop g tp ci x)) := by
  refine (ps_for hp hc hi hg hb hs).imp fun D σ H ⟨ρ, τ, h, sr, hr, w⟩ => ?_
  have w0 : WR ((evalIt P ci τ h).bind fun t h1 => loopF (fun y σ2 h2 => match target g tp y σ2 h2 with
      | some σ3 => exec P x σ3 h2
      | none => .bad) t t.xs τ h1) (PostF X.K cl ρ H D) (PostX X.K cl ρ H E) := w
  generalize hF : (fun (y : IX.D) (σ2 : IX.St) (h2 : Hh) => match target g tp y σ2 h2 with
      | some σ3 => exec P x σ3 h2
      | none => R.bad) = F at w0
  refine ⟨ρ, τ, h, sr, hr, w0.bnd.imp (fun t h1 w1 ρ1 H1 J kp hr1 ir => ?_) fun _ _ _ q => q⟩
  refine ⟨fun i m σc Hc => m = t.xs.length - i ∧ i ≤ t.xs.length ∧ ∃ ρc τc hh, SRel X.K ρc Hc τc σc ∧ HRel X.K cl ρc Hc hh ∧ Keep X.K ρ1 H1 ρc Hc ∧ WR (loopF F t (t.xs.drop i) τc hh) (PostF X.K cl ρ H D) (PostX X.K cl ρc Hc E),
    ⟨t.xs.length, by simp, Nat.zero_le _, ρ1, τ, h1, sr.keep kp, hr1, Keep.refl, (show WR (loopF F t t.xs τ h1) _ _ from w1).imp (fun _ _ q => q) fun _ _ _ q => q.keep kp⟩, ?_⟩
  rintro i m σc Hc ⟨rfl, hi2, ρc, τc, hh, src, hrc, kc, wc⟩
  by_cases hlt : i < t.xs.length
  · refine .inr ?_
    rw [List.drop_eq_getElem_cons hlt] at wc
    have wc1 : WR (if t.stands hh then (F t.xs[i] τc hh).bind fun fl h1 => match fl with
      | .nx σ1 => loopF F t (t.xs.drop (i + 1)) σ1 h1
      | .ct σ1 => loopF F t (t.xs.drop (i + 1)) σ1 h1
      | .bk σ1 => .ok (.nx σ1) h1
      | .rt d => .ok (.rt d) h1
      else .bad) (PostF X.K cl ρ H D) (PostX X.K cl ρc Hc E) := wc
    by_cases st : t.stands hh
    case neg => rw [if_neg st] at wc1; exact (show False from wc1).elim
    rw [if_pos st] at wc1
    refine ⟨ir.go i ρc Hc hh kc hrc st hlt, fun σ2 H2 => t.xs.length - (i + 1) = t.xs.length - (i + 1) ∧ i + 1 ≤ t.xs.length ∧ ∃ ρc τc hh, SRel X.K ρc H2 τc σ2 ∧ HRel X.K cl ρc H2 hh ∧ Keep X.K ρ1 H1 ρc H2 ∧ WR (loopF F t (t.xs.drop (i + 1)) τc hh) (PostF X.K cl ρ H D) (PostX X.K cl ρc H2 E),
      fun σ2 H2 n => ⟨t.xs.length - (i + 1), by omega, n⟩, fun y H' yl => ?_⟩
    obtain ⟨d, ed, ky, hry, ry⟩ := ir.yld i ρc Hc hh y H' kc hrc st hlt yl
    have ed2 : t.xs[i] = d := by
      rw [List.getElem?_eq_getElem hlt] at ed
      exact Option.some.inj ed
    rw [ed2] at wc1
    have tgt : ∃ τ', target g tp d τc hh = some τ' := by
      cases q : target g tp d τc hh with
      | some τ' => exact ⟨τ', rfl⟩
      | none =>
        rw [← hF] at wc1
        simp only [q] at wc1
        exact (show False from wc1).elim
    obtain ⟨τ', et⟩ := tgt
    have hFd : F d τc hh = exec P x τ' hh := by
      rw [← hF]; simp only [et]
    rw [hFd] at wc1
    refine ⟨ρc, τc, hh, d, src.keep ky, hry, ry, τ', et, fun σ' sr' _ => ⟨ρc, τ', hh, sr', hry, wc1.bnd.imp (fun fl h2 w3 ρ2 H2 kp2 hr2 => ?_) fun _ _ _ q => q.keep ky⟩⟩
    have kk := (kc.trans ky).trans kp2
    cases fl with
    | nx τ2 => exact fun σ2 s2 => ⟨rfl, hlt, ρ2, τ2, h2, s2, hr2, kk, (show WR (loopF F t (t.xs.drop (i + 1)) τ2 h2) _ _ from w3).imp (fun _ _ q => q) fun _ _ _ q => q.keep (ky.trans kp2)⟩
    | ct τ2 => exact fun σ2 s2 => ⟨rfl, hlt, ρ2, τ2, h2, s2, hr2, kk, (show WR (loopF F t (t.xs.drop (i + 1)) τ2 h2) _ _ from w3).imp (fun _ _ q => q) fun _ _ _ q => q.keep (ky.trans kp2)⟩
    | bk τ2 => exact (show PostF X.K cl ρ H D (.nx τ2) h2 from w3) ρ2 H2 (kp.trans kk) hr2
    | rt d => exact (show PostF X.K cl ρ H D (.rt d) h2 from w3) ρ2 H2 (kp.trans kk) hr2
  · refine .inl ?_
    have ei : t.xs.drop i = [] := List.drop_eq_nil_of_le (by omega)
    rw [ei] at wc
    have wc1 : WR (if t.stands hh then R.ok (.nx τc) hh else .bad) (PostF X.K cl ρ H D) (PostX X.K cl ρc Hc E) := wc
    by_cases st : t.stands hh
    case neg => rw [if_neg st] at wc1; exact (show False from wc1).elim
    rw [if_pos st] at wc1
    exact ⟨ir.stop i ρc Hc hh kc hrc st (by omega), (show PostF X.K cl ρ H D (.nx τc) hh from wc1) ρc Hc (kp.trans kc) hrc σc src⟩
/-! ### stores -/
theorem s_set {x : Str} {p : Pos} {i : Nat} (hN : X.N.Nodup) (hi : X.N[i]? = some x) (hl : Loc X.env.scope x ∧ (X.fn x = true ∨ X.env.scope.names.lookup x = some .local)) (he : PE X e (tE X.K cl P E ca)) (hs : swapsWith e (some (.Name x p)) pos.line X.env = pure false) :
    PS X (.Assign [.Name x p] e pos) (tS X.K cl P E (.set i ca)) := by
  refine (ps_set hN hi hl.1 he hs hl.2).imp fun D σ H ⟨ρ, τ, h, sr, hr, w⟩ => ?_
  exact ev1 sr hr w fun ρ1 H1 v d h1 kp hr1 s1 r1 w1 => (show PostF X.K cl ρ H D (.nx (τ.set i (some d))) h1 from w1) ρ1 H1 kp hr1 _ (s1.set r1 i)
theorem s_unp {sc : Scope} {es : List Expr} {k : Nat} {p : Pos} {is : List Nat} (hc : X.calm = true) (hN : X.N.Nodup) (S : ScOk X sc) (h : compNs X.N sc es = some is) (he : PE X e (tE X.K cl P E ca)) (hn : notTup e = true) :
    PS X (.Assign [.Tuple es k p] e pos) (tS X.K cl P E (.unp is ca)) := by
  have hg : PG X (.Tuple es k p) (tG X.K cl is true) := s_tg hc hN S (by simp only [compT, h]; rfl)
  have hs : swapsWithSole [.Tuple es k p] e pos.line X.env = pure false := by cases e <;> rfl
  have hw : swappedStores [.Tuple es k p] e X.env = pure none := by cases e <;> first | rfl | cases hn
  refine (ps_asg he hg hs hw rfl).imp fun D σ H ⟨ρ, τ, h, sr, hr, w⟩ => ?_
  refine ev1 sr hr w fun ρ1 H1 v d h1 kp hr1 s1 r1 w1 => ?_
  cases q : target is true d τ h1 with
  | none => rw [q] at w1; exact (show False from w1).elim
  | some τ' =>
    rw [q] at w1
    exact ⟨ρ1, τ, h1, d, s1, hr1, r1, τ', q, fun σ' sr' _ => (show PostF X.K cl ρ H D (.nx τ') h1 from w1) ρ1 H1 kp hr1 σ' sr'⟩
theorem s_par {x y : Str} {px py pt pt2 : Pos} {kt k2 : Nat} {i j : Nat} {sc : Scope} (hc : X.calm = true) (hN : X.N.Nodup) (hi : X.N[i]? = some x) (hj : X.N[j]? = some y) (eqs : X.env.scope = sc) (hk : sc.kind = .function) (sw : swapC sc x y px py [a, b] = true) (ha : PE X a (tE X.K cl P E ca)) (hb : PE X b (tE X.K cl P E cb)) (na : notStar a = true) (nb : notStar b = true) :
    PS X (.Assign [.Tuple [.Name x px, .Name y py] kt pt] (.Tuple [a, b] k2 pt2) pos) (tS X.K cl P E (.unp [i, j] (.tup (.cons ca (.cons cb .nil))))) := by
  unfold swapC at sw
  simp only [Bool.and_eq_true, decide_eq_true_eq, Bool.not_eq_true', beq_iff_eq] at sw
  obtain ⟨⟨⟨⟨⟨lx, ly⟩, ne⟩, lp⟩, f1⟩, f2⟩ := sw
  have hij : i ≠ j := fun z => ne (by rw [z] at hi; rw [hi] at hj; exact Option.some.inj hj)
  have hw : swappedStores [.Tuple [.Name x px, .Name y py] kt pt] (.Tuple [a, b] k2 pt2) X.env = pure (some [x, y]) := by
    exact swap_ok na nb (by show X.env.scope.names.lookup x = _; rw [eqs]; exact lx) (by show X.env.scope.names.lookup y = _; rw [eqs]; exact ly) (by unfold Env.blockKind; rw [eqs, hk]; rfl) ne lp f1 f2
  have p0 : PA X [] (tA X.K cl P E .nil) := pa_nil.imp fun σ H Q ⟨ρ, τ, h, s, hr, w⟩ => (show PostA X.K cl ρ H Q [] h from w) ρ H [] Keep.refl hr .nil
  have pc : ∀ {e : Expr} {c : IX.E} {es : List Expr} {r : IX.E}, notStar e = true → PE X e (tE X.K cl P E c) → PA X es (tA X.K cl P E r) → PA X (e :: es) (tA X.K cl P E (.cons c r)) := fun n he hr => (pa_cons he hr (star_of n)).imp fun σ H Q ⟨ρ, τ, h, s, hr, w⟩ =>
    ev1 s hr w fun ρ1 H1 v d h1 kp hr1 s1 r1 w1 => evs s1 hr1 w1 fun ρ2 H2 vs ds h2 kp2 hr2 s2 r2 w2 => (show PostA X.K cl ρ H Q (d :: ds) h2 from w2) ρ2 H2 (v :: vs) (kp.trans kp2) hr2 (.cons (r1.keep kp2) r2)
  have ht : PA X [a, b] (tA X.K cl P E (.cons ca (.cons cb .nil))) := pc na ha (pc nb hb p0)
  refine (ps_par hc hN hi hj hij (by rw [eqs]; exact lx) (by rw [eqs]; exact ly) ht hw rfl).imp fun D σ H ⟨ρ, τ, h, sr, hr, w⟩ => ?_
  have w0 : WR (((evalEs P (.cons ca (.cons cb .nil)) τ h).bind fun xs h1 => if xs.length ≤ line then R.ok (IX.D.tup xs) h1 else .bad).bind fun x h1 => match target [i, j] true x τ h1 with
    | some σ1 => .ok (.nx σ1) h1
    | none => .bad) (PostF X.K cl ρ H D) (PostX X.K cl ρ H E) := w
  rw [bind_assoc] at w0
  refine evs sr hr w0 fun ρ1 H1 vs ds h1 kp hr1 s1 r1 w1 => ?_
  by_cases z : ds.length ≤ line
  case neg => rw [if_neg z] at w1; exact (show False from w1).elim
  rw [if_pos z] at w1
  have w2 : WR (match setAll [i, j] ds τ with
    | some σ1 => R.ok (.nx σ1) h1
    | none => .bad) (PostF X.K cl ρ H D) (PostX X.K cl ρ1 H1 E) := w1
  cases q : setAll [i, j] ds τ with
  | none => rw [q] at w2; exact (show False from w2).elim
  | some τ' =>
    rw [q] at w2
    obtain ⟨e1, e2, _⟩ := setV_rel s1 r1 q
    match vs, e1, e2 with
    | [v, u], _, e2 => exact ⟨v, u, rfl, (show PostF X.K cl ρ H D (.nx τ') h1 from w2) ρ1 H1 kp hr1 _ e2⟩
end
end IX
end

section
set_option Elab.async false
set_option linter.all false
set_option maxRecDepth 100000
set_option maxHeartbeats 4000000
/-! IX17: every statement's code is right. -/
namespace IX
open PySem PySem.Spec PyProof.Rows L2
/-- what a comprehension's code stands on -/
def LcParts (X : Cx) (T : Tbl) (cl : Nat → Option Addr) (n : Nat) (E : XK) (elt : Expr) (gens : List Comprehension) (scope : Scope) (c : IX.E) : Prop :=
  ∃ tg it ifs cx g tp ci cc own, gens = [⟨tg, it, ifs, 0⟩] ∧ c = .lc cx g tp ci cc ∧ own.map (·.2) = g ∧ PI X tg it (iE X.K cl (pgT T n) E ci) ∧ BlkOk X.N X.env.scope scope own ∧
    (∀ (s : Shared) (H : Hp) (C : Addr) (cs : List (Str × Addr)) (fp : List Addr), PG (X.blk s H scope (compEnvC scope cs C X.env) fp) tg (tG X.K cl g tp)) ∧
    (∀ (s : Shared) (H : Hp) (C : Addr) (cs : List (Str × Addr)) (fp : List Addr), PTs (X.blk s H scope (compEnvC scope cs C X.env) fp) ifs (tIfs X.K cl (pgT T n) E0 cc)) ∧
    (∀ (s : Shared) (H : Hp) (C : Addr) (cs : List (Str × Addr)) (fp : List Addr), PE (X.blk s H scope (compEnvC scope cs C X.env) fp) elt (tE X.K cl (pgT T n) E0 cx)) ∧ ∀ x, foldedSetIterable it X.env x = pure x
section
variable {X : Cx} {G : Gam} {T : Tbl} {cl : Nat → Option Addr} {n : Nat} {E : XK} {sc : Scope}
theorem lc_parts {k : Nat} {elt : Expr} {gens : List Comprehension} {scope : Scope} {p : Pos} {c : IX.E} (o : Ok X G T cl n E) (S : ScOk X sc) (h : compE G X.N (k + 1) sc (.ListComp elt gens scope p) = some c) : LcParts X T cl n E elt gens scope c := by
    have ih : ∀ e c, compE G X.N k sc e = some c → Both X T cl n E e c := fun e c q => compE_ok k o S q
    have ihE : ∀ e c, compE G X.N k sc e = some c → PE X e (tE X.K cl (pgT T n) E c) := fun e c q => (ih e c q).1
    generalize hf : compE G X.N k sc = f at ih ihE
    match gens, h with
    | [⟨tg, it, ifs, 0⟩], h =>
      have h1 : (match (generalizing := false) compI (compE G X.N k sc) G sc it, compT X.N scope tg, compE G X.N k scope elt with
        | some i, some (g, tp), some x => if blkC X.N sc scope ((ownOf tg).zip g) = true ∧ enOk i tp = true ∧ (ownOf tg).length = g.length then (match (generalizing := false) ifs with
            | [] => some (IX.E.lc x g tp i .nil)
            | [c] => match (generalizing := false) compE G X.N k scope c with
              | some .nil => none
              | some c => some (.lc x g tp i c)
              | none => none
            | _ => none) else none
        | _, _, _ => none) = some c := h
      rw [hf] at h1
      cases q1 : compI f G sc it with
      | none => rw [q1] at h1; cases h1
      | some ci =>
        cases q2 : compT X.N scope tg with
        | none => rw [q1, q2] at h1; cases h1
        | some gt =>
          obtain ⟨g, tp⟩ := gt
          cases q3 : compE G X.N k scope elt with
          | none => rw [q1, q2, q3] at h1; cases h1
          | some cx =>
            rw [q1, q2, q3] at h1
            have h2 : (if blkC X.N sc scope ((ownOf tg).zip g) = true ∧ enOk ci tp = true ∧ (ownOf tg).length = g.length then (match (generalizing := false) ifs with
              | [] => some (IX.E.lc cx g tp ci .nil)
              | [c] => match (generalizing := false) compE G X.N k scope c with
                | some .nil => none
                | some c => some (.lc cx g tp ci c)
                | none => none
              | _ => none) else none) = some c := h1
            by_cases hb : blkC X.N sc scope ((ownOf tg).zip g) = true ∧ enOk ci tp = true ∧ (ownOf tg).length = g.length
            case neg => rw [if_neg hb] at h2; cases h2
            rw [if_pos hb] at h2
            have ip := compI_ok o S ihE (tg := tg) q1 (fun ⟨a, e⟩ => by
              subst e
              have e2 : tp = true := hb.2.1
              subst e2
              exact tg_tuple q2)
            have bk := S.blkOk hb.1
            have zs := zip_snd hb.2.2
            have ht : ∀ (s : Shared) (H : Hp) (C : Addr) (cs : List (Str × Addr)) (fp : List Addr), PG (X.blk s H scope (compEnvC scope cs C X.env) fp) tg (tG X.K cl g tp) := fun s H C cs fp => s_tg (X := X.blk s H scope (compEnvC scope cs C X.env) fp) o.calm o.nd (ScOk.blk s H scope C cs fp) q2
            have he : ∀ (s : Shared) (H : Hp) (C : Addr) (cs : List (Str × Addr)) (fp : List Addr), PE (X.blk s H scope (compEnvC scope cs C X.env) fp) elt (tE X.K cl (pgT T n) E0 cx) := fun s H C cs fp => (compE_ok k (X := X.blk s H scope (compEnvC scope cs C X.env) fp) (o.blk s H scope _ fp) (ScOk.blk s H scope C cs fp) q3).1
            have fin : ∀ cc, (∀ (s : Shared) (H : Hp) (C : Addr) (cs : List (Str × Addr)) (fp : List Addr), PTs (X.blk s H scope (compEnvC scope cs C X.env) fp) ifs (tIfs X.K cl (pgT T n) E0 cc)) → LcParts X T cl n E elt [⟨tg, it, ifs, 0⟩] scope (.lc cx g tp ci cc) := fun cc hif => ⟨tg, it, ifs, cx, g, tp, ci, cc, (ownOf tg).zip g, rfl, rfl, zs, ip.1, bk, ht, hif, he, fold_of ip.2⟩
            match ifs, h2, fin with
            | [], h2, fin => cases h2; exact fin .nil fun s H C cs fp => pts_nil
            | [cd], h2, fin =>
              have h3 : (match (generalizing := false) compE G X.N k scope cd with
                | some .nil => none
                | some c => some (IX.E.lc cx g tp ci c)
                | none => none) = some c := h2
              cases q4 : compE G X.N k scope cd with
              | none => rw [q4] at h3; cases h3
              | some cc =>
                have nn : cc.isNil = false := by
                  cases cc <;> first | rfl | (rw [q4] at h3; cases h3)
                have e5 : some (IX.E.lc cx g tp ci cc) = some c := by
                  rw [q4] at h3
                  cases cc <;> first | exact h3 | cases nn
                cases e5
                refine fin cc fun s H C cs fp => ?_
                have e6 : tIfs X.K cl (pgT T n) E0 cc = tT X.K cl (pgT T n) E0 cc := by unfold tIfs; rw [nn]; rfl
                rw [e6]
                exact pts_one (compE_ok k (X := X.blk s H scope (compEnvC scope cs C X.env) fp) (o.blk s H scope _ fp) (ScOk.blk s H scope C cs fp) q4).2
            | _ :: _ :: _, h2, fin => cases h2
    | [], h => cases h
    | [⟨_, _, _, Int.ofNat (_ + 1)⟩], h => cases h
    | [⟨_, _, _, Int.negSucc _⟩], h => cases h
    | _ :: _ :: _, h => simp [compE] at h

theorem s_setLc {k : Nat} {elt : Expr} {gens : List Comprehension} {scope : Scope} {p py pos : Pos} {y : Str} {i : Nat} {c : IX.E} (o : Ok X G T cl n E) (S : ScOk X sc) (h : compE G X.N k sc (.ListComp elt gens scope p) = some c)
    (hi : X.N[i]? = some y) (hl : Loc X.env.scope y ∧ (X.fn y = true ∨ X.env.scope.names.lookup y = some .local)) : PS X (.Assign [.Name y py] (.ListComp elt gens scope p) pos) (tS X.K cl (pgT T n) E (.set i c)) := by
  cases hb : (X.env.blockKind == .function && X.env.kindOf y == some .local && py.line == p.line && !(scope.names.any fun (n, k) => n == y && (k == .local || k == .cell))) with
  | false =>
    have hs : swapsWith (.ListComp elt gens scope p) (some (.Name y py)) pos.line X.env = pure false := (show swapsWith (.ListComp elt gens scope p) (some (.Name y py)) pos.line X.env = pure (X.env.blockKind == .function && X.env.kindOf y == some .local && py.line == p.line && !(scope.names.any fun (n, k) => n == y && (k == .local || k == .cell))) from rfl).trans (by rw [hb])
    exact s_set o.nd hi hl (compE_ok k o S h).1 hs
  | true =>
    have hs : swapsWith (.ListComp elt gens scope p) (some (.Name y py)) pos.line X.env = pure true := (show swapsWith (.ListComp elt gens scope p) (some (.Name y py)) pos.line X.env = pure (X.env.blockKind == .function && X.env.kindOf y == some .local && py.line == p.line && !(scope.names.any fun (n, k) => n == y && (k == .local || k == .cell))) from rfl).trans (by rw [hb])
    have hy : X.env.scope.names.lookup y = some .local := by
      simp only [Bool.and_eq_true] at hb
      exact eq_of_beq hb.1.1.2
    cases k with
    | zero => cases h
    | succ k =>
      obtain ⟨tg, it, ifs, cx, g, tp, ci, cc, own, rfl, rfl, zs, ip, bk, ht, hif, he, hfo⟩ := lc_parts o S h
      have r := ps_setLc (py := py) (spos := pos) o.calm o.nd hi hy hs ip bk ht hif he hfo
      rw [zs] at r
      refine r.imp fun D σ H ⟨ρ, τ, h, sr, hr, w⟩ => ?_
      refine s_lc (cx := cx) (cc := cc) o.calm o.nd ip bk zs ht hif he hfo σ H _ ?_
      exact ev1 sr hr w fun ρ1 H1 v d h1 kp hr1 s1 r1 w1 => (show PostF X.K cl ρ H D (.nx (τ.set i (some d))) h1 from w1) ρ1 H1 kp hr1 _ (s1.set r1 i)
end
/-! ### o[i] = v -/
section
variable {X : Cx} {cl : Nat → Option Addr} {P : Pg} {E : XK} {a b c e : Expr} {ca cb cc : IX.E} {pos : Pos}
def rSeti (K : PySem.W.Frag) (cl : Nat → Option Addr) : TSet := fun o i v H Q => ∃ ρ h d e x z, HRel K cl ρ H h ∧ Rep K ρ H d o ∧ Rep K ρ H e i ∧ Rep K ρ H x v ∧ WR (setiD d e x h) (fun _ h' => ∀ ρ' H', Keep K ρ H ρ' H' → HRel K cl ρ' H' h' → Q H') z
theorem set_all (hu : X.A.units + 1 < cLine) : PSet X (rSeti X.K cl) := by
  intro pins s σ H o i v ov iv u Q I ro ri rv ⟨ρ, h, d, e, x, z, hr, r1, r2, r3, w⟩
  cases r1 with
  | @ref a p ea =>
    cases eo : h[a]? with
    | none => simp only [setiD, eo] at w; exact (show False from w).elim
    | some ob =>
      cases ob with
      | lst ds =>
        obtain ⟨vs, e3, t⟩ := obj_lst hr ea eo
        cases r2 with
        | int k =>
          simp only [setiD, eo] at w
          cases q : L2.ixN ds.length k with
          | none => rw [q] at w; exact (show False from w).elim
          | some j =>
            rw [q] at w
            have kp : Keep X.K ρ H ρ (upd H p (.lst (vs.set j v))) := Keep.wr ea (Soft.lst e3)
            exact set_list pins s σ H _ _ _ ov iv u Q I ro ri rv ⟨p, vs, k, j, rfl, rfl, e3, by rw [← t.length]; exact q, (show ∀ ρ' H', Keep X.K ρ H ρ' H' → HRel X.K cl ρ' H' (h.set a (.lst (ds.set j x))) → Q H' from w) ρ _ kp (hr.write ea (Soft.lst e3) ⟨_, upd_same, (Reps.set r3 j t).keep kp⟩)⟩
        | _ => simp only [setiD, eo] at w; exact (show False from w).elim
      | dic ds =>
        obtain ⟨vs, e3, t⟩ := obj_dic hr ea eo
        simp only [setiD, eo] at w
        by_cases q : (keyD e).isSome = true ∧ ds.length < line
        case neg => rw [if_neg q] at w; exact (show False from w).elim
        rw [if_pos q] at w
        obtain ⟨k, ek⟩ := Option.isSome_iff_exists.mp q.1
        have ei := keyD_kV r2 ek
        subst ei
        have kp : Keep X.K ρ H ρ (upd H p (.dK (putK vs k v))) := Keep.wr ea (Soft.dK e3)
        exact set_dict hu pins s σ H _ _ _ ov iv u Q I ro ri rv ⟨p, _, rfl, DPut.k e3 (by rw [← t.length, sizeLine_eq]; exact q.2), (show ∀ ρ' H', Keep X.K ρ H ρ' H' → HRel X.K cl ρ' H' (h.set a (.dic (putD e x ds))) → Q H' from w) ρ _ kp (hr.write ea (Soft.dK e3) ⟨_, upd_same, (put_rel ek r2 r3 t).keep kp⟩)⟩
      | ins _ _ => simp only [setiD, eo] at w; exact (show False from w).elim
  | _ => exact (show False from w).elim
theorem s_seti (hu : X.A.units + 1 < cLine) (ha : PE X a (tE X.K cl P E ca)) (hb : PE X b (tE X.K cl P E cb)) (he : PE X e (tE X.K cl P E cc)) (hs : notSl b = true) {p : Pos} : PS X (.Assign [.Subscript a b p] e pos) (tS X.K cl P E (.seti ca cb cc)) := by
  have hg := pg_sub (pos := p) ha hb (set_all (cl := cl) hu) (by intro v; cases b <;> first | rfl | cases hs)
  have h1 : swapsWithSole [.Subscript a b p] e pos.line X.env = pure false := by cases e <;> rfl
  have h2 : swappedStores [.Subscript a b p] e X.env = pure none := by cases e <;> rfl
  refine (ps_asg he hg h1 h2 rfl).imp fun D σ H ⟨ρ, τ, h, sr, hr, w⟩ => ?_
  refine ev1 sr hr w fun ρ1 H1 v d h1 kp hr1 s1 r1 w1 => ev1 s1 hr1 w1 fun ρ2 H2 v2 d2 h2 kp2 hr2 s2 r2 w2 => ev1 s2 hr2 w2 fun ρ3 H3 v3 d3 h3 kp3 hr3 s3 r3 w3 => ?_
  refine ⟨ρ3, h3, d2, d3, d, _, hr3, r2.keep kp3, r3, (r1.keep kp2).keep kp3, w3.bnd.imp (fun _ h4 w4 ρ4 H4 kp4 hr4 => ?_) fun _ _ _ q => q⟩
  exact (show PostF X.K cl ρ H D (.nx τ) h4 from w4) ρ4 H4 (((kp.trans kp2).trans kp3).trans kp4) hr4 σ (s3.keep kp4)
end
end IX
end

section
set_option Elab.async false
set_option linter.all false
set_option maxRecDepth 100000
set_option maxHeartbeats 4000000
/-! IX18: every statement's code is right, whole. -/
namespace IX
open PySem PySem.Spec PyProof.Rows L2
section
variable {X : Cx} {G : Gam} {T : Tbl} {cl : Nat → Option Addr} {n : Nat} {E : XK} {sc : Scope}
theorem compSs_ok {f : Stmt → Option IX.S} (hf : ∀ s c, f s = some c → PS X s (tS X.K cl (pgT T n) E c)) : ∀ {ss : List Stmt} {c : IX.S}, compSs f ss = some c → PSs X ss (tS X.K cl (pgT T n) E c)
  | [], c, h => by cases h; exact s_nil
  | s :: r, c, h => by
    unfold compSs at h
    cases q1 : f s with
    | none => rw [q1] at h; cases h
    | some a =>
      cases q2 : compSs f r with
      | none => rw [q1, q2] at h; cases h
      | some b => rw [q1, q2] at h; cases h; exact s_seq (hf s a q1) (compSs_ok hf q2)
theorem par_ok {f : Expr → Option IX.E} (o : Ok X G T cl n E) (S : StOk X sc) (hk : sc.kind = .function) (ihE : ∀ e c, f e = some c → PE X e (tE X.K cl (pgT T n) E c)) {es vs : List Expr} {c : IX.S} {kk k2 : Nat} {pt p2 p : Pos} (h1 : compPar f X.N sc es vs = some c) :
    PS X (.Assign [.Tuple es kk pt] (.Tuple vs k2 p2) p) (tS X.K cl (pgT T n) E c) := by
  unfold compPar at h1
  split at h1
  · rename_i x px y py a b
    by_cases hb : swapC sc x y px py [a, b] = true ∧ notStar a = true ∧ notStar b = true
    case neg => rw [if_neg hb] at h1; cases h1
    rw [if_pos hb] at h1
    cases q1 : place x X.N with
    | none => rw [q1] at h1; cases h1
    | some i =>
      cases q2 : place y X.N with
      | none => rw [q1, q2] at h1; cases h1
      | some j =>
        cases q3 : f a with
        | none => rw [q1, q2, q3] at h1; cases h1
        | some ca =>
          cases q4 : f b with
          | none => rw [q1, q2, q3, q4] at h1; cases h1
          | some cb =>
            rw [q1, q2, q3, q4] at h1
            cases h1
            exact s_par o.calm o.nd (place_ix q1) (place_ix q2) S.eq hk hb.1 (ihE a ca q3) (ihE b cb q4) hb.2.1 hb.2.2
  · cases h1
theorem compS_ok : ∀ (k : Nat) {st : Stmt} {c : IX.S}, Ok X G T cl n E → StOk X sc → sc.kind = .function → compS G X.N k sc st = some c → PS X st (tS X.K cl (pgT T n) E c)
  | 0, st, c, o, S, hk, h => by cases h
  | k + 1, st, c, o, S, hk, h => by
    have ih : ∀ s c, compS G X.N k sc s = some c → PS X s (tS X.K cl (pgT T n) E c) := fun s c q => compS_ok k o S hk q
    have ihE : ∀ e c, compE G X.N k sc e = some c → PE X e (tE X.K cl (pgT T n) E c) := fun e c q => (compE_ok k o S.ok q).1
    have ihT : ∀ e c, compE G X.N k sc e = some c → PT X e (tT X.K cl (pgT T n) E c) := fun e c q => (compE_ok k o S.ok q).2
    have hu := o.hu
    cases st with
    | Pass p => cases h; exact s_skip ps_pass
    | Break p => cases h; exact s_brk
    | Continue p => cases h; exact s_cnt
    | Expr e p =>
      have h1 : (if isStrC e = true then some IX.S.skip else if notComp e = true then (compE G X.N k sc e).map IX.S.exp else none) = some c := h
      by_cases hs : isStrC e = true
      · rw [if_pos hs] at h1
        cases h1
        cases e <;> first | (cases hs; done) | skip
        rename_i cc j p2
        cases cc <;> first | (cases hs; done) | skip
        exact s_skip ps_doc
      · rw [if_neg hs] at h1
        by_cases hn : notComp e = true
        case neg => rw [if_neg hn] at h1; cases h1
        rw [if_pos hn] at h1
        cases q : compE G X.N k sc e with
        | none => rw [q] at h1; cases h1
        | some x => rw [q] at h1; cases h1; exact s_exp (ihE e x q) hn
    | Return v p =>
      cases v with
      | none => cases h; exact s_ret0
      | some e =>
        have h1 : (compE G X.N k sc e).map IX.S.ret = some c := h
        cases q : compE G X.N k sc e with
        | none => rw [q] at h1; cases h1
        | some x => rw [q] at h1; cases h1; exact s_ret (ihE e x q)
    | If cd a b p =>
      have h1 : (match (generalizing := false) compE G X.N k sc cd, compSs (compS G X.N k sc) a, compSs (compS G X.N k sc) b with
        | some x, some y, some z => some (IX.S.ite x y z)
        | _, _, _ => none) = some c := h
      cases q1 : compE G X.N k sc cd with
      | none => rw [q1] at h1; cases h1
      | some x =>
        cases q2 : compSs (compS G X.N k sc) a with
        | none => rw [q1, q2] at h1; cases h1
        | some y =>
          cases q3 : compSs (compS G X.N k sc) b with
          | none => rw [q1, q2, q3] at h1; cases h1
          | some z => rw [q1, q2, q3] at h1; cases h1; exact s_if (ihT cd x q1) (compSs_ok ih q2) (compSs_ok ih q3)
    | While cd b els p =>
      have h1 : (match (generalizing := false) els, compE G X.N k sc cd, compSs (compS G X.N k sc) b with
        | [], some x, some y => some (IX.S.whl x y)
        | _, _, _ => none) = some c := h
      cases els with
      | cons _ _ => cases h1
      | nil =>
        cases q1 : compE G X.N k sc cd with
        | none => rw [q1] at h1; cases h1
        | some x =>
          cases q2 : compSs (compS G X.N k sc) b with
          | none => rw [q1, q2] at h1; cases h1
          | some y => rw [q1, q2] at h1; cases h1; exact s_while S.own (ihT cd x q1) (compSs_ok ih q2)
    | For tg it b els p =>
      have h1 : (match (generalizing := false) els, compI (compE G X.N k sc) G sc it, compT X.N sc tg, compSs (compS G X.N k sc) b with
        | [], some i, some (g, tp), some y => if enOk i tp = true then some (IX.S.loop g tp i y) else none
        | _, _, _, _ => none) = some c := h
      cases els with
      | cons _ _ => cases h1
      | nil =>
        cases q1 : compI (compE G X.N k sc) G sc it with
        | none => rw [q1] at h1; cases h1
        | some ci =>
          cases q2 : compT X.N sc tg with
          | none => rw [q1, q2] at h1; cases h1
          | some gt =>
            obtain ⟨g, tp⟩ := gt
            cases q3 : compSs (compS G X.N k sc) b with
            | none => rw [q1, q2, q3] at h1; cases h1
            | some y =>
              rw [q1, q2, q3] at h1
              have h2 : (if enOk ci tp = true then some (IX.S.loop g tp ci y) else none) = some c := h1
              by_cases en : enOk ci tp = true
              case neg => rw [if_neg en] at h2; cases h2
              rw [if_pos en] at h2
              cases h2
              have ip := compI_ok o S.ok ihE (tg := tg) q1 (fun ⟨a, e⟩ => by
                subst e
                have e2 : tp = true := en
                subst e2
                exact tg_tuple q2)
              exact s_for S.own o.calm ip.1 (s_tg o.calm o.nd S.ok q2) (compSs_ok ih q3) (fold_of ip.2)
    | Assign tgs e p =>
      match tgs, h with
      | [tg], h =>
        cases tg with
        | Name x px =>
          have h1 : (match (generalizing := false) compN X.N sc (.Name x px), compE G X.N k sc e with
            | some i, some c => some (IX.S.set i c)
            | _, _ => none) = some c := h
          cases q1 : compN X.N sc (.Name x px) with
          | none => rw [q1] at h1; cases h1
          | some i =>
            cases q2 : compE G X.N k sc e with
            | none => rw [q1, q2] at h1; cases h1
            | some ce =>
              rw [q1, q2] at h1; cases h1
              obtain ⟨y, p', e1, l, hx⟩ := compN_ok q1
              cases e1
              have hl := S.ok.loc x l
              cases e with
              | ListComp elt gens scope p2 => exact s_setLc o S.ok q2 hx hl
              | SetComp _ _ _ _ => cases k <;> cases q2
              | DictComp _ _ _ _ _ => cases k <;> cases q2
              | _ => exact s_set o.nd hx hl (ihE _ ce q2) rfl
        | Tuple es kk pt =>
          have h1 : (if notTup e = true then (match (generalizing := false) compNs X.N sc es, compE G X.N k sc e with
              | some is, some c => some (IX.S.unp is c)
              | _, _ => none)
            else match (generalizing := false) e with
              | .Tuple vs _ _ => compPar (compE G X.N k sc) X.N sc es vs
              | _ => none) = some c := h
          by_cases hn : notTup e = true
          · rw [if_pos hn] at h1
            cases q1 : compNs X.N sc es with
            | none => rw [q1] at h1; cases h1
            | some is =>
              cases q2 : compE G X.N k sc e with
              | none => rw [q1, q2] at h1; cases h1
              | some ce => rw [q1, q2] at h1; cases h1; exact s_unp o.calm o.nd S.ok q1 (ihE e ce q2) hn
          · rw [if_neg hn] at h1
            cases e with
            | Tuple vs k2 p2 => exact par_ok o S hk ihE h1
            | _ => exact absurd rfl hn
        | Subscript a i ps =>
          have h1 : (if notSl i = true then (match (generalizing := false) compE G X.N k sc a, compE G X.N k sc i, compE G X.N k sc e with
            | some x, some y, some z => some (IX.S.seti x y z)
            | _, _, _ => none) else none) = some c := h
          by_cases hn : notSl i = true
          case neg => rw [if_neg hn] at h1; cases h1
          rw [if_pos hn] at h1
          cases q1 : compE G X.N k sc a with
          | none => rw [q1] at h1; cases h1
          | some x =>
            cases q2 : compE G X.N k sc i with
            | none => rw [q1, q2] at h1; cases h1
            | some y =>
              cases q3 : compE G X.N k sc e with
              | none => rw [q1, q2, q3] at h1; cases h1
              | some z => rw [q1, q2, q3] at h1; cases h1; exact s_seti (by omega) (ihE a x q1) (ihE i y q2) (ihE e z q3) hn
        | _ => cases h
      | [], h => cases h
      | _ :: _ :: _, h => cases h
    | _ => cases h
end
end IX
end

section
set_option Elab.async false
set_option linter.all false
set_option maxRecDepth 100000
set_option maxHeartbeats 4000000
/-! IX19: a def's promise is what its code computes. -/
namespace IX
open PySem PySem.Spec PyProof.Rows L2
section
variable {K : PySem.W.Frag} {cl : Nat → Option Addr} {ρ ρ' : Rho} {H H' : Hp} {h h' : Hh}
mutual
theorem Rep.pure (ρ1 : Rho) : ∀ {d : D} {v : V}, Rep K ρ H d v → d.pure = true → Rep K ρ1 H d v
  | _, _, .non, _ => .non
  | _, _, .bl b, _ => .bl b
  | _, _, .int i, _ => .int i
  | _, _, .str x z, _ => .str x z
  | _, _, .tup s r, p => .tup s (Reps.pure ρ1 r (by simpa only [D.pure] using p))
  | _, _, .lck s r, p => .lck s (Reps.pure ρ1 r (by simpa only [D.pure] using p))
  | _, _, .ref e, p => absurd p (by simp [D.pure])
theorem Reps.pure (ρ1 : Rho) : ∀ {d : List D} {v : List V}, Reps K ρ H d v → D.pureL d = true → Reps K ρ1 H d v
  | _, _, .nil, _ => .nil
  | _, _, .cons a r, p => .cons (Rep.pure ρ1 a (by simp only [D.pureL, Bool.and_eq_true] at p; exact p.1)) (Reps.pure ρ1 r (by simp only [D.pureL, Bool.and_eq_true] at p; exact p.2))
end
mutual
/-- what stood for d at first stands for it still, by the elder places -/
theorem Rep.back (e : ∀ (a : Nat) (p : Addr), ρ[a]? = some p → ρ'[a]? = some p) : ∀ {d : D} {v u : V}, Rep K ρ H d v → Rep K ρ' H' d u → Rep K ρ H' d u
  | _, _, _, .non, .non => .non
  | _, _, _, .bl b, .bl _ => .bl b
  | _, _, _, .int i, .int _ => .int i
  | _, _, _, .str x z, .str _ _ => .str x z
  | _, _, _, .tup _ r, .tup s t => .tup s (Reps.back e r t)
  | _, _, _, .lck _ r, .lck s t => .lck s (Reps.back e r t)
  | _, _, _, .ref ea, .ref eb => .ref (by
    have z := e _ _ ea
    rw [eb] at z
    rw [ea, z])
theorem Reps.back (e : ∀ (a : Nat) (p : Addr), ρ[a]? = some p → ρ'[a]? = some p) : ∀ {d : List D} {v u : List V}, Reps K ρ H d v → Reps K ρ' H' d u → Reps K ρ H' d u
  | _, _, _, .nil, .nil => .nil
  | _, _, _, .cons a r, .cons b t => .cons (Rep.back e a b) (Reps.back e r t)
end
theorem RepF.back (e : ∀ (a : Nat) (p : Addr), ρ[a]? = some p → ρ'[a]? = some p) : ∀ {d : List (Str × D)} {v u : List (Str × V)}, RepF K ρ H d v → RepF K ρ' H' d u → RepF K ρ H' d u
  | _, _, _, .nil, .nil => .nil
  | _, _, _, .cons a r, .cons b t => .cons (Rep.back e a b) (RepF.back e r t)
theorem RepK.back (e : ∀ (a : Nat) (p : Addr), ρ[a]? = some p → ρ'[a]? = some p) : ∀ {d : List (D × D)} {v u : List (Key × V)}, RepK K ρ H d v → RepK K ρ' H' d u → RepK K ρ H' d u
  | _, _, _, .nil, .nil => .nil
  | _, _, _, .cons k1 a1 a r, .cons k2 b1 b t => .cons k2 (Rep.back e a1 b1) (Rep.back e a b) (RepK.back e r t)
theorem RepF.pure (ρ1 : Rho) : ∀ {d : List (Str × D)} {v : List (Str × V)}, RepF K ρ H d v → D.pureL (d.map (·.2)) = true → RepF K ρ1 H d v
  | _, _, .nil, _ => .nil
  | _, _, .cons a r, p => .cons (a.pure ρ1 (by simp only [List.map_cons, D.pureL, Bool.and_eq_true] at p; exact p.1)) (RepF.pure ρ1 r (by simp only [List.map_cons, D.pureL, Bool.and_eq_true] at p; exact p.2))
theorem RepK.pure (ρ1 : Rho) : ∀ {d : List (D × D)} {v : List (Key × V)}, RepK K ρ H d v → D.pureL (d.map (·.1)) = true → D.pureL (d.map (·.2)) = true → RepK K ρ1 H d v
  | _, _, .nil, _, _ => .nil
  | _, _, .cons k a b r, p, q => .cons k (a.pure ρ1 (by simp only [List.map_cons, D.pureL, Bool.and_eq_true] at p; exact p.1)) (b.pure ρ1 (by simp only [List.map_cons, D.pureL, Bool.and_eq_true] at q; exact q.1))
      (RepK.pure ρ1 r (by simp only [List.map_cons, D.pureL, Bool.and_eq_true] at p; exact p.2) (by simp only [List.map_cons, D.pureL, Bool.and_eq_true] at q; exact q.2))
theorem ORel.back {o : O} {p : Addr} (e : ∀ (a : Nat) (p : Addr), ρ[a]? = some p → ρ'[a]? = some p) (r : ORel K cl ρ H o p) (s : ORel K cl ρ' H' o p) : ORel K cl ρ H' o p := by
  cases o with
  | lst ds => obtain ⟨vs, _, r⟩ := r; obtain ⟨us, e2, s⟩ := s; exact ⟨us, e2, r.back e s⟩
  | dic ds => obtain ⟨vs, _, r⟩ := r; obtain ⟨us, e2, s⟩ := s; exact ⟨us, e2, r.back e s⟩
  | ins c fs => obtain ⟨C, dx, gs, _, _, r⟩ := r; obtain ⟨C2, dx2, gs2, c2, e2, s⟩ := s; exact ⟨C2, dx2, gs2, c2, e2, r.back e s⟩
theorem ORel.flat {o : O} {p : Addr} (ρ1 : Rho) (f : o.flat = true) (r : ORel K cl ρ H o p) : ORel K cl ρ1 H o p := by
  cases o with
  | lst ds => obtain ⟨vs, e, r⟩ := r; exact ⟨vs, e, r.pure ρ1 f⟩
  | dic ds =>
    obtain ⟨vs, e, r⟩ := r
    simp only [O.flat, Bool.and_eq_true] at f
    exact ⟨vs, e, r.pure ρ1 f.1 f.2⟩
  | ins c fs => obtain ⟨C, dx, gs, c, e, r⟩ := r; exact ⟨C, dx, gs, c, e, r.pure ρ1 f⟩
/-- from what is wanted of the call to what is wanted of the body -/
theorem leave_post {E : XK} {Q : VK} {r : R Fl} (hr : HRel K cl ρ H h) (w : WR (leave h r) (PostE K cl ρ H Q) (PostX K cl ρ H E)) : WR r (PostF K cl ρ H { nx := fun _ H' => Q .non H', rt := Q }) (PostX K cl ρ H E) := by
  cases r with
  | bad => exact w
  | ex c fs h' => exact w
  | ok fl h' =>
    cases fl with
    | rt d =>
        intro ρ' H' kp hr' v rv
        exact (show PostE K cl ρ H Q d h' from w) ρ' H' v kp hr' rv
    | nx τ =>
        intro ρ' H' kp hr' σ' _
        exact (show PostE K cl ρ H Q .non h' from w) ρ' H' .non kp hr' .non
    | bk τ => exact (show False from w).elim
    | ct τ => exact (show False from w).elim
theorem start_rel {ds : List D} {vs : List V} {N : List Str} {d : Def} (r : Reps K ρ H ds vs) (hN : N.length = d.nl) : SRel K ρ H (IX.start d ds) (L2.start N vs) := by
  have hl := r.length
  refine ⟨by simp only [IX.start, L2.start, List.length_append, List.length_map, List.length_replicate]; omega, fun i x e => ?_⟩
  unfold IX.start at e
  unfold L2.start
  by_cases hi : i < ds.length
  · rw [List.getElem?_append_left (by rw [List.length_map]; exact hi)] at e
    rw [List.getElem?_append_left (by rw [List.length_map, ← hl]; exact hi)]
    rw [List.getElem?_map] at e ⊢
    cases q : ds[i]? with
    | none => rw [q] at e; cases e
    | some y =>
      rw [q] at e
      cases e
      obtain ⟨v, ev, rv⟩ := r.get q
      exact ⟨v, by rw [ev]; rfl, rv⟩
  · rw [List.getElem?_append_right (by rw [List.length_map]; omega)] at e
    have := List.mem_of_getElem? e
    rw [List.mem_replicate] at this
    cases this.2
end
/-- a def as the module bears it -/
def DefAt (K : PySem.W.Frag) (mg : Str → Option Value) (G : Gam) (T : Tbl) (x : Str) (f : Nat) (a : Addr) (fd : FuncData) (ps : List Str) : Prop :=
  mg x = some (.ref a) ∧ PySem.W.keepIn K (.ref a) = true ∧ Binds K fd ps [] ∧ ∃ (N : List Str) (d : Def) (x' qual : Str) (st : Stmt) (fuel : Nat), Fun K x' qual st a fd ∧ FnScope N ps (defScope st) ∧
    T.fn f = some d ∧ ps.length = d.np ∧ N.length = d.nl ∧ compSs (compS G N fuel (defScope st)) (defBody st) = some d.body
/-- the defs of the program as the module bears them -/
structure Mods (K : PySem.W.Frag) (mg : Str → Option Value) (G : Gam) (T : Tbl) : Prop where
  fn : ∀ x f, G.glob x = some (.fn f) → ∃ (a : Addr) (fd : FuncData) (ps : List Str), DefAt K mg G T x f a fd ps
  cst : ∀ x d, G.glob x = some (.cst d) → ∃ u v, mg x = some u ∧ RelV v u ∧ ∀ ρ H, Rep K ρ H d v
  non : ∀ x, isBlt x = true → mg x = none
theorem scOk_def {X : Cx} {sc : Scope} (h : X.env.scope = sc) (hf : ∀ x, X.fn x = true) : ScOk X sc where
  loc x q := by
    cases e : sc.names.lookup x with
    | none => rw [e] at q; cases q
    | some k =>
      rw [e] at q
      cases k <;> first | (cases q; done) | skip
      · exact ⟨.inl (by rw [h]; exact e), .inl (hf x)⟩
      · exact ⟨.inr (by rw [h]; exact e), .inl (hf x)⟩
  vis x q := by
    cases e : sc.names.lookup x with
    | none => rw [e] at q; cases q
    | some k =>
      rw [e] at q
      cases k <;> first | (cases q; done) | skip
      · exact .inl (by rw [h]; exact e)
      · exact .inr (.inl (by rw [h]; exact e))
      · exact .inr (.inr (by rw [h]; exact e))
  gl x q := by
    cases e : sc.names.lookup x with
    | none => rw [e] at q; cases q
    | some k =>
      rw [e] at q
      cases k <;> first | (cases q; done) | skip
      show X.env.scope.names.lookup x = _
      rw [h]; exact e
  fr x q := by rw [h]; exact q
section
variable {P : Program} {w : World} {K : PySem.W.Frag} {mg : Str → Option Value} {base : Heap} {G : Gam} {T : Tbl} {cl : Nat → Option Addr}
theorem fn_ok (M : Mods K mg G T) : ∀ (n : Nat) {x : Str} {f : Nat} {a : Addr} {fd : FuncData} {ps : List Str}, DefAt K mg G T x f a fd ps → FnOk P w K mg base (L2.CX P w) n a fd ps (spF K cl T n f)
  | 0, x, f, a, fd, ps, D => by
    have no : ∀ vs H Q E, ¬ spF K cl T 0 f vs H Q E := fun vs H Q E ⟨ρ, h, ds, hr, r, w⟩ => w
    exact ⟨fun vs H Q E h => absurd h (no vs H Q E), fun A outer s H args us vs Q E _ _ _ _ h => absurd h (no vs H Q E)⟩
  | n + 1, x, f, a, fd, ps, D => by
    obtain ⟨m, k, b, N, d, x', qual, st, fuel, F, S, hT, hp, hl, hb⟩ := D
    have ih : ∀ x f, G.glob x = some (.fn f) → ∃ a fd ps, mg x = some (.ref a) ∧ PySem.W.keepIn K (.ref a) = true ∧ Binds K fd ps [] ∧ FnOk P w K mg base (L2.CX P w) n a fd ps (spF K cl T n f) := fun x f h => by
      obtain ⟨a, fd, ps, D⟩ := M.fn x f h
      exact ⟨a, fd, ps, D.1, D.2.1, D.2.2.1, fn_ok M n D⟩
    have open_ : ∀ (ds : List D) (h : Hh), callF T (n + 1) f ds h = if ds.length = d.np then leave h (IX.exec (pgT T n) d.body (IX.start d ds) h) else .bad := fun ds h => by
      show (match T.fn f with
        | some d => if ds.length = d.np then leave h (IX.exec ⟨callF T n, T.meth, T.init⟩ d.body (IX.start d ds) h) else R.bad
        | none => R.bad) = _
      rw [hT]
    refine F.okX S (fun vs H Q E ⟨ρ, h, ds, hr, r, wr⟩ => ?_) fun cdv A outer s H vs Q E hroom ⟨ρ, h, ds, hr, r, wr⟩ => ?_
    · rw [open_] at wr
      by_cases z : ds.length = d.np
      · rw [← r.length, z, hp]
      · rw [if_neg z] at wr; exact (show False from wr).elim
    · rw [open_] at wr
      by_cases z : ds.length = d.np
      case neg => rw [if_neg z] at wr; exact (show False from wr).elim
      rw [if_pos z] at wr
      have tk := takes_of (X := cxOf (L2.CX P w) P w K mg base N qual (defScope st) a cdv A outer s H E) (E := E) rfl rfl rfl rfl
      have o : Ok (cxOf (L2.CX P w) P w K mg base N qual (defScope st) a cdv A outer s H E) G T cl n E :=
        ⟨rfl, S.nd, hroom, ih, M.cst, M.non, passes_call tk fun _ _ _ _ h => h⟩
      have so : StOk (cxOf (L2.CX P w) P w K mg base N qual (defScope st) a cdv A outer s H E) (defScope st) := ⟨scOk_def rfl fun _ => rfl, rfl, passes_of rfl⟩
      exact ⟨_, compSs_ok (fun s c q => compS_ok fuel o so S.kind q) hb, ρ, IX.start d ds, h, start_rel r hl, hr, leave_post hr wr⟩
end
end IX
end

section
set_option Elab.async false
set_option linter.all false
set_option maxRecDepth 100000
set_option maxHeartbeats 4000000
/-! IX20: a law's end. -/
namespace IX
open PySem PySem.Spec PyProof.Rows L2
def AllP (p : Str → GK → Prop) : List (Str × GK) → Prop
  | [] => True
  | (x, k) :: r => p x k ∧ AllP p r
theorem AllP.look {p : Str → GK → Prop} : ∀ {l : List (Str × GK)} {x : Str} {k : GK}, AllP p l → l.lookup x = some k → p x k
  | [], x, k, _, h => by simp at h
  | (y, j) :: r, x, k, a, h => by
    rw [List.lookup_cons] at h
    cases q : x == y with
    | true =>
      rw [q] at h
      have e : x = y := eq_of_beq q
      cases h
      rw [e]; exact a.1
    | false => rw [q] at h; exact AllP.look a.2 h
def KFact (K : PySem.W.Frag) (mg : Str → Option Value) (G : Gam) (T : Tbl) (x : Str) : GK → Prop
  | .fn f => ∃ a fd ps, DefAt K mg G T x f a fd ps
  | .cst d => ∃ u v, mg x = some u ∧ RelV v u ∧ ∀ ρ H, Rep K ρ H d v
  | .cls _ => True
theorem mods_of {K : PySem.W.Frag} {mg : Str → Option Value} {tbl : List (Str × GK)} {m : Str → Option Nat} {T : Tbl} (h : AllP (KFact K mg ⟨fun x => tbl.lookup x, m⟩ T) tbl) (non : ∀ x, isBlt x = true → mg x = none) : Mods K mg ⟨fun x => tbl.lookup x, m⟩ T :=
  ⟨fun x f e => AllP.look h e, fun x d e => AllP.look h e, non⟩
section
variable {K : PySem.W.Frag} {h : Heap} {mg : Str → Option Value} {G : Gam} {T : Tbl}
theorem def_at (X : K.In h) (Gn : h.Ns mainGlobals mg) {x : Str} {f fuel : Nat} {ps N : List Str} {st : Stmt} {d : Def} {fa : Addr} {od an : Option Addr} {sl : Array (Option Value)} {oc kV dc pm cd ct : Value}
    (a : PySem.W.nsIn K mainGlobals x = some (some (.ref fa))) (l : K.lookup fa = some ⟨oc, od, .func (PySem.W.fnOf x x (defArgs st) (defBody st) (defScope st) .none kV dc pm an cd ct), sl⟩) (c : PySem.W.codeIn K cd x = true) (k : PySem.W.keepIn K (.ref fa) = true)
    (S : FnScope N ps (defScope st)) (hb : ∀ (kV doc pm : Value) (an : Option Addr) (cdv ct : Value) (us : List Value), us.length = ps.length → bindArgs (PySem.W.fnOf x x (defArgs st) (defBody st) (defScope st) .none kV doc pm an cdv ct) ⟨us, []⟩ = pure (ps.zip us))
    (hT : T.fn f = some d) (hp : ps.length = d.np) (hl : N.length = d.nl) (hc : compSs (compS G N fuel (defScope st)) (defBody st) = some d.body) :
    DefAt K mg G T x f fa (PySem.W.fnOf x x (defArgs st) (defBody st) (defScope st) .none kV dc pm an cd ct) ps :=
  ⟨PySem.W.mg_of X Gn a, k, (fun_mk (st := st) l c k).binds hb, N, d, x, x, st, fuel, fun_mk (st := st) l c k, S, hT, hp, hl, hc⟩
theorem cst_int (X : K.In h) (Gn : h.Ns mainGlobals mg) {x : Str} {i : Int} {t : Tok} (a : PySem.W.nsIn K mainGlobals x = some (some (.int i t))) : KFact K mg G T x (.cst (.int i)) := ⟨_, .int i, PySem.W.mg_of X Gn a, ⟨t, rfl⟩, fun _ _ => .int i⟩
theorem cst_str (X : K.In h) (Gn : h.Ns mainGlobals mg) {x y : Str} {t : Tok} (a : PySem.W.nsIn K mainGlobals x = some (some (.str y t))) (hl : y.length ≤ line) : KFact K mg G T x (.cst (.str y)) := ⟨_, .str y, PySem.W.mg_of X Gn a, ⟨t, rfl⟩, fun _ _ => .str y hl⟩
/-- constants by their values -/
inductive CRep : D → Value → Prop
  | non : CRep .non .none
  | bl (b : Bool) : CRep (.bl b) (.bool b)
  | int (i : Int) (t : Tok) : CRep (.int i) (.int i t)
  | str (x : Str) (t : Tok) : x.length ≤ line → CRep (.str x) (.str x t)
theorem CRep.rep {d : D} {u : Value} (c : CRep d u) : ∃ v, RelV v u ∧ ∀ ρ H, Rep K ρ H d v := by
  cases c with
  | non => exact ⟨.non, rfl, fun _ _ => .non⟩
  | bl b => exact ⟨.bl b, rfl, fun _ _ => .bl b⟩
  | int i t => exact ⟨.int i, ⟨t, rfl⟩, fun _ _ => .int i⟩
  | str x t z => exact ⟨.str x, ⟨t, rfl⟩, fun _ _ => .str x z⟩
theorem crep_all : ∀ {ds : List D} {us : List Value}, Paired CRep ds us → ∃ vs, Vals vs us ∧ ∀ ρ H, Reps K ρ H ds vs
  | _, _, .nil => ⟨[], .nil, fun _ _ => .nil⟩
  | _, _, .cons c r => by
    obtain ⟨v, h1, h2⟩ := c.rep (K := K)
    obtain ⟨vs, h3, h4⟩ := crep_all r
    exact ⟨v :: vs, .cons h1 h3, fun ρ H => .cons (h2 ρ H) (h4 ρ H)⟩
/-- a tuple of constants -/
theorem cst_tup (X : K.In h) (Gn : h.Ns mainGlobals mg) {x : Str} {p : Addr} {od : Option Addr} {its : Array Value} {n : Nat} {sl : Array (Option Value)} {ds : List D} (a : PySem.W.nsIn K mainGlobals x = some (some (.ref p))) (l : K.lookup p = some ⟨.type "tuple", od, .seq its n, sl⟩)
    (r : Paired CRep ds its.toList) (hz : its.size ≤ line) : KFact K mg G T x (.cst (.tup ds)) := by
  obtain ⟨vs, h1, h2⟩ := crep_all (K := K) r
  exact ⟨_, .ref p, PySem.W.mg_of X Gn a, rfl, fun ρ H => .tup (.inr ⟨_, its, n, l, rfl, rfl, by rw [sizeLine_eq]; exact hz, h1⟩) (h2 ρ H)⟩
/-- the built-in names are no names of the module -/
theorem non_of (X : K.In h) (Gn : h.Ns mainGlobals mg) (z1 : PySem.W.nsIn K mainGlobals "len" = some none) (z2 : PySem.W.nsIn K mainGlobals "max" = some none) (z3 : PySem.W.nsIn K mainGlobals "min" = some none) (z4 : PySem.W.nsIn K mainGlobals "int" = some none) (z5 : PySem.W.nsIn K mainGlobals "str" = some none)
    (z6 : PySem.W.nsIn K mainGlobals "list" = some none) (z7 : PySem.W.nsIn K mainGlobals "tuple" = some none) (z8 : PySem.W.nsIn K mainGlobals "all" = some none) (z9 : PySem.W.nsIn K mainGlobals "isinstance" = some none) (z10 : PySem.W.nsIn K mainGlobals "range" = some none)
    (z11 : PySem.W.nsIn K mainGlobals "enumerate" = some none) (z12 : PySem.W.nsIn K mainGlobals "bool" = some none) (z13 : PySem.W.nsIn K mainGlobals "dict" = some none) (z14 : PySem.W.nsIn K mainGlobals "sorted" = some none) (z15 : PySem.W.nsIn K mainGlobals "set" = some none) : ∀ x, isBlt x = true → mg x = none := by
  intro x hx
  have hx := of_decide_eq_true hx
  simp only [List.mem_cons, List.mem_nil_iff, or_false] at hx
  rcases hx with rfl | rfl | rfl | rfl | rfl | rfl | rfl | rfl | rfl | rfl | rfl | rfl | rfl | rfl | rfl <;> (apply PySem.W.mg_none_of X Gn; assumption)
end
/-! ### law -/
def spLaw (K : PySem.W.Frag) : Sp := fun vs H Q _ => ∃ (a : Addr) (ns : List Int), vs = [.ref a] ∧ SqF K H a (ns.map V.int) ∧ ns.length ≤ 63 ∧ ∀ H', Q (.bl true) H'
theorem reps_ints {K : PySem.W.Frag} {ρ : Rho} {H : Hp} : ∀ ns : List Int, Reps K ρ H (ns.map D.int) (ns.map V.int)
  | [] => .nil
  | i :: r => .cons (.int i) (reps_ints r)
theorem law_imp {K : PySem.W.Frag} {cl : Nat → Option Addr} {T : Tbl} {n f : Nat} (h : ∀ ns : List Int, ns.length ≤ 63 → ∃ h', callF T n f [.lck (ns.map D.int)] [] = .ok (.bl true) h') : ∀ vs H Q E, spLaw K vs H Q E → spF K cl T n f vs H Q E := by
  intro vs H Q E ⟨a, ns, e, hS, hl, q⟩
  subst e
  obtain ⟨h', eq⟩ := h ns hl
  refine ⟨[], [], [.lck (ns.map D.int)], ⟨rfl, fun _ _ _ e => (nomatch e), fun _ _ _ e => (nomatch e)⟩, .cons (.lck hS (reps_ints ns)) .nil, ?_⟩
  rw [eq]
  intro ρ' H' v _ _ r
  cases r
  exact q H'
theorem sqf_of {K : PySem.W.Frag} {H : Hp} {a : Addr} {xs : List V} (o : Only H) (h : SqL K H a xs) : SqF K H a xs := by
  rcases h with (h | ⟨ob, h⟩) | h
  · rcases o a with z | ⟨ob, ys, z⟩
    · rw [z] at h; cases h
    · rw [z] at h; cases h
  · exact .inl ⟨ob, h⟩
  · exact .inr h
theorem walk_law {l : PySem.W.OpenLaw} {q : Program} {loose : List Str} {XP : (Str → Option Value) → Heap → Prop} {YP : World → Heap → Prop} {d : DefRec} {K : Params → PySem.W.Frag} {x : Str} (hn : l.most = some 63) (hdf : d.params.defaults = [])
    (hY : ∀ (w : World) (h : Heap), YP w h → (K w.params).In h)
    (F : ∀ (w : World) (mg : Str → Option Value) (fa : Addr) (h : Heap), (K w.params).In h → h.Ns mainGlobals mg → mg d.name = some (.ref fa) →
      ∃ fd : FuncData, (∀ (s : Shared) (u : Value), BindsTo s fd ⟨[u], []⟩ [(x, u)]) ∧ ∀ base : Heap, (K w.params).In base → base.Ns mainGlobals mg → FnOk l.prog w (K w.params) mg base (L2.CX l.prog w) 60 fa fd [x] (spLaw (K w.params))) :
    PySem.W.WalkO q loose XP YP l.row.toRowW d [] (fun f vs => PySem.call f vs) :=
  L2.walk_of (n := 63) (k := 60) (x := x) (CX := fun w => L2.CX l.prog w) (sp := fun w => spLaw (K w.params)) hn (by decide) hdf ⟨rfl, by decide, by decide⟩ hY F (fun _ _ a ns hl ho hS => ⟨a, ns, rfl, sqf_of ho hS, hl, fun _ => rfl⟩)
    fun _ _ _ _ _ ⟨_, _, _, _, _, _, _, _, _, _, _, _, z⟩ => z
/-- law's promise, its def's place given -/
theorem law_fn {P : Program} {w : World} {K : PySem.W.Frag} {mg : Str → Option Value} {base : Heap} {G : Gam} {T : Tbl} {x : Str} {n f : Nat} {a : Addr} {fd : FuncData} {ps : List Str} (M : Mods K mg G T) (D : DefAt K mg G T x f a fd ps)
    (h : ∀ ns : List Int, ns.length ≤ 63 → ∃ h', callF T n f [.lck (ns.map IX.D.int)] [] = .ok (.bl true) h') : FnOk P w K mg base (L2.CX P w) n a fd ps (spLaw K) :=
  (fn_ok (cl := fun _ => none) M n D).imp (law_imp h)
end IX
end

section
set_option Elab.async false
set_option linter.all false
set_option maxRecDepth 100000
/-! VX1: values as trees; the interpreter without a heap. -/
namespace VX
open PySem IX

/-- values; o: owned by the one that holds it (it may be changed); not owned: frozen -/
inductive V where
  | non | bl (b : Bool) | int (i : Int) | str (x : Str) | tup (xs : List V) | lck (xs : List V)
  | lst (o : Bool) (xs : List V) | dic (o : Bool) (ks vs : List V) | ins (o : Bool) (c : Nat) (ns : List Str) (vs : List V)
mutual
/-- nothing owned within -/
def V.fz : V → Bool
  | .tup xs => V.fzL xs
  | .lck xs => V.fzL xs
  | .lst o xs => !o && V.fzL xs
  | .dic o ks vs => !o && V.fzL ks && V.fzL vs
  | .ins o _ _ vs => !o && V.fzL vs
  | _ => true
def V.fzL : List V → Bool
  | [] => true
  | x :: r => x.fz && V.fzL r
end
mutual
def V.freeze : V → V
  | .tup xs => .tup (V.freezeL xs)
  | .lck xs => .lck (V.freezeL xs)
  | .lst _ xs => .lst false (V.freezeL xs)
  | .dic _ ks vs => .dic false (V.freezeL ks) (V.freezeL vs)
  | .ins _ c ns vs => .ins false c ns (V.freezeL vs)
  | v => v
def V.freezeL : List V → List V
  | [] => []
  | x :: r => x.freeze :: V.freezeL r
end
mutual
/-- a constant -/
def toV : D → Option V
  | .non => some .non
  | .bl b => some (.bl b)
  | .int i => some (.int i)
  | .str x => some (.str x)
  | .tup xs => (toVL xs).map .tup
  | .lck _ => none
  | .ref _ => none
def toVL : List D → Option (List V)
  | [] => some []
  | x :: r => match toV x, toVL r with
    | some a, some b => some (a :: b)
    | _, _ => none
end
abbrev Sv := List (Option V)
inductive RV (α : Type) where
  | ok (a : α) (σ : Sv) | ex (c : Nat) (row : Option Int) (σ : Sv) | bad
def RV.bind {α β : Type} (m : RV α) (f : α → Sv → RV β) : RV β := match m with
  | .ok a σ => f a σ
  | .ex c r σ => .ex c r σ
  | .bad => .bad
/-- how a statement ends -/
inductive Fv where
  | nx | rt (v : V) | bk | ct
def slot (σ : Sv) (i : Nat) : Option V := match σ[i]? with
  | some (some v) => some v
  | _ => none
def V.kids : V → List V
  | .tup xs => xs
  | .lst _ xs => xs
  | .dic _ _ vs => vs
  | .ins _ _ _ vs => vs
  | _ => []
def V.withKids : V → List V → V
  | .tup _, ys => .tup ys
  | .lst o _, ys => .lst o ys
  | .dic o ks _, ys => .dic o ks ys
  | .ins o c ns _, ys => .ins o c ns ys
  | v, _ => v
def getP : V → List Nat → Option V
  | v, [] => some v
  | v, i :: p => v.kids[i]?.bind fun w => getP w p
def setP : V → List Nat → V → V
  | _, [], w => w
  | v, i :: p, w => match v.kids[i]? with
    | some k => v.withKids (v.kids.set i (setP k p w))
    | none => v
/-- what an expression tells: a value, or a place in a slot's value -/
inductive Ag where
  | val (v : V) | plc (i : Nat) (p : List Nat)
def rd (σ : Sv) : Ag → Option V
  | .val v => some v
  | .plc i [] => slot σ i
  | .plc i p => (slot σ i).bind fun v => getP v p
def rds (σ : Sv) : List Ag → Option (List V)
  | [] => some []
  | a :: r => match rd σ a, rds σ r with
    | some v, some vs => some (v :: vs)
    | _, _ => none
/-- what stands at a place anew -/
def setAt (σ : Sv) (i : Nat) (p : List Nat) (w : V) : Option Sv := match p with
  | [] => some (σ.set i (some w))
  | p => match slot σ i with
    | some v => match getP v p with
      | some w0 => if w0.fz = true then none else some (σ.set i (some (setP v p w)))
      | none => none
    | none => none
/-- an item of what a tells -/
def pick (a : Ag) (j : Nat) (w : V) : Ag := if w.fz = true then .val w else match a with
  | .val _ => .val w
  | .plc i p => .plc i (p ++ [j])
def lend {α : Type} (i : Nat) (m : Sv → RV α) (σ : Sv) : RV α := match slot σ i with
  | some v => match m (σ.set i none) with
    | .ok a σ' => .ok a (σ'.set i (some v))
    | .ex c r σ' => .ex c r (σ'.set i (some v))
    | .bad => .bad
  | none => .bad
def after {α : Type} (x : Ag) (q : Bool) (m : Sv → RV α) (σ : Sv) : RV α := match x with
  | .plc i (_ :: _) => if q = true then m σ else lend i m σ
  | _ => m σ
/-- what is told is taken for good: a frozen value, a new one; a place's is moved out or frozen -/
def own (mv : Bool) (x : Ag) (σ : Sv) : RV V := match x with
  | .val v => .ok v σ
  | .plc i p => match rd σ (.plc i p) with
    | some v => if v.fz = true then .ok v σ else if mv = true ∧ p = [] then .ok v (σ.set i none) else match setAt σ i p v.freeze with
      | some σ' => .ok v.freeze σ'
      | none => .bad
    | none => .bad
/-- evaluation that changes nothing that stood -/
def _root_.IX.E.quiet : E → Bool
  | .loc _ => true | .cst _ => true | .nil => true | .cons a b => a.quiet && b.quiet
  | .bop _ a b => a.quiet && b.quiet | .cmp2 _ _ a b c => a.quiet && b.quiet && c.quiet | .neg a => a.quiet | .not a => a.quiet
  | .and a b => a.quiet && b.quiet | .or a b => a.quiet && b.quiet | .ite a b c => a.quiet && b.quiet && c.quiet
  | .tup a => a.quiet | .lst a => a.quiet | .idx a b => a.quiet && b.quiet | .slc a b c => a.quiet && b.quiet && c.quiet | .rev a => a.quiet
  | .isi a _ => a.quiet | .fld a _ => a.quiet
  | _ => false

/-! ### operations -/
def itemsV : V → Option (List V)
  | .lck xs => some xs
  | .lst _ xs => some xs
  | _ => none
def strV (x : Str) : Option V := if x.length ≤ line then some (.str x) else none
def addV (x y : V) : Option V := match x, y with
  | .int i, .int j => some (.int (i + j))
  | .str i, .str j => strV (i ++ j)
  | .tup i, .tup j => if i.length + j.length ≤ line ∧ (V.fzL i && V.fzL j) = true then some (.tup (i ++ j)) else none
  | x, y => match itemsV x, itemsV y with
    | some xs, some ys => if xs.length + ys.length ≤ line ∧ (V.fzL xs && V.fzL ys) = true then some (.lst true (xs ++ ys)) else none
    | _, _ => none
def mulV (x y : V) : Option V := match x, y with
  | .int i, .int j => if i.natAbs < 2 ^ 64 ∨ j.natAbs < 2 ^ 64 then some (.int (i * j)) else none
  | .lst _ xs, .int k => if (-(2 ^ 62) ≤ k ∧ k ≤ 2 ^ 62 ∧ xs.length * k.toNat ≤ line) ∧ V.fzL xs = true then some (.lst true (List.replicate k.toNat xs).flatten) else none
  | _, _ => none
def eqVL (f : V → V → Option Bool) : List V → List V → Option Bool
  | x :: xs, y :: ys => match f x y, eqVL f xs ys with
    | some a, some b => some (a && b)
    | _, _ => none
  | _, _ => some true
def V.isObj : V → Bool
  | .lst _ _ => true | .dic _ _ _ => true | .ins _ _ _ _ => true
  | _ => false
def eqV : Nat → V → V → Option Bool
  | 0, _, _ => none
  | n + 1, x, y => match x, y with
    | .non, .non => some true
    | .bl a, .bl b => some (a == b)
    | .bl a, .int b => some ((if a then 1 else 0) == b)
    | .int a, .bl b => some (a == (if b then 1 else 0))
    | .int a, .int b => some (a == b)
    | .str a, .str b => some (a == b)
    | .tup xs, .tup ys => (eqVL (eqV n) xs ys).map fun b => b && xs.length == ys.length
    | .lst _ xs, .lst _ ys => if xs.length = ys.length then eqVL (eqV n) xs ys else some false
    | .dic _ _ _, .dic _ _ _ => none
    | .ins _ _ _ _, _ => none
    | _, .ins _ _ _ _ => none
    | .lck _, _ => none
    | _, .lck _ => none
    | _, _ => some false
def isDicV : V → Bool
  | .dic _ _ _ => true
  | _ => false
def keyV : V → Option L2.Key
  | .int i => some (.inl i)
  | .str x => some (.inr x)
  | _ => none
/-- a key's place -/
def placeV (k : V) : List V → Option Nat
  | [] => none
  | j :: r => if keyV j = keyV k then some 0 else (placeV k r).map (· + 1)
/-- the pairs of one dict in another one -/
def eqKVV (kb vb : List V) : List V → List V → Option Bool
  | k :: ks, v :: vs => match placeV k kb with
    | none => some false
    | some j => match vb[j]? with
      | none => none
      | some w => match eqV deep v w, eqKVV kb vb ks vs with
        | some a, some b => some (a && b)
        | _, _ => none
  | [], [] => some true
  | _, _ => none
def neV (x y : V) : Option Bool := match x, y with
  | .dic _ ks vs, .dic _ ks2 vs2 => (if ks.length = ks2.length then eqKVV ks2 vs2 ks vs else some false).map (!·)
  | x, y => if isDicV x || isDicV y then none else (eqV deep x y).map (!·)
def anyV (x : V) : List V → Option Bool
  | [] => some false
  | y :: ys => match eqV deep y x, anyV x ys with
    | some a, some b => some (a || b)
    | _, _ => none
def inV (x y : V) : Option Bool := match y with
  | .tup ys => anyV x ys
  | .str z => match x with
    | .str a => some (!(Builtin.Str.occurrences z a 0 z.length 1).isEmpty)
    | _ => none
  | .lst _ ys => anyV x ys
  | .dic _ ks _ => if (keyV x).isSome = true then some (placeV x ks).isSome else none
  | _ => none
def isV (x y : V) : Option Bool := match x, y with
  | _, .non => match x with
    | .non => some true
    | _ => some false
  | _, .bl b => match x with
    | .bl a => some (a == b)
    | _ => some false
  | _, _ => none
def cmpV (p : Int → Int → Bool) (x y : V) : Option V := match x, y with
  | .int i, .int j => some (.bl (p i j))
  | _, _ => none
def binV (o : Op) (x y : V) : Option V := match o with
  | .add => addV x y
  | .sub => (match x, y with
    | .int i, .int j => some (.int (i - j))
    | _, _ => none)
  | .mul => mulV x y
  | .fdiv => (match x, y with
    | .int i, .int j => if 0 < j ∧ j < 2 ^ 1000 then some (.int (i / j)) else none
    | _, _ => none)
  | .mod => (match x, y with
    | .int i, .int j => if 0 < j then some (.int (i % j)) else none
    | _, _ => none)
  | .pow => (match x, y with
    | .int i, .int j => if 0 ≤ j ∧ j ≤ 1000000 ∧ i.natAbs < 2 ^ 64 then some (.int (i ^ j.toNat)) else none
    | _, _ => none)
  | .eq => (eqV deep x y).map .bl | .ne => (neV x y).map .bl
  | .lt => cmpV (fun i j => decide (i < j)) x y | .le => cmpV (fun i j => decide (i ≤ j)) x y
  | .gt => cmpV (fun i j => decide (j < i)) x y | .ge => cmpV (fun i j => decide (j ≤ i)) x y
  | .isin => (inV x y).map .bl | .notin => (inV x y).map fun b => .bl (!b)
  | .is_ => (isV x y).map .bl | .isnot => (isV x y).map fun b => .bl (!b)
def truthV : V → Option Bool
  | .non => some false | .bl b => some b | .int i => some (i != 0) | .str x => some ((x.length : Int) != 0) | .tup xs => some (!xs.isEmpty) | .lck xs => some (!xs.isEmpty)
  | .lst _ xs => some (!xs.isEmpty) | .dic _ ks _ => some (!ks.isEmpty)
  | .ins _ _ _ _ => none
/-- the place in a sequence -/
def seqAt (xs : List V) (i : Int) : Option (Nat × V) := match L2.ixN xs.length i with
  | some j => xs[j]?.map fun v => (j, v)
  | none => none
def idxV (x i : V) : Option (Nat × V) := match x, i with
  | .tup xs, .int i => seqAt xs i
  | .lck xs, .int i => seqAt xs i
  | .str z, .int i => match L2.atI z.cps.toList i with
    | some c => some (0, .str ⟨#[c]⟩)
    | none => none
  | .lst _ xs, .int i => seqAt xs i
  | .dic _ ks vs, k => if (keyV k).isSome = true then match placeV k ks with
      | some j => vs[j]?.map fun v => (j, v)
      | none => none
    else none
  | _, _ => none
def cutV (xs : List V) (lo hi : Option Int) : List V := (xs.drop (HT.sIx xs.length 0 lo)).take (HT.sIx xs.length xs.length hi - HT.sIx xs.length 0 lo)
def slcV (x : V) (lo hi : Option Int) : Option V := match x with
  | .tup xs => if V.fzL xs = true then some (.tup (cutV xs lo hi)) else none
  | .str z => some (.str (L2.cutS z lo hi))
  | x => match itemsV x with
    | some xs => if V.fzL xs = true then some (.lst true (cutV xs lo hi)) else none
    | none => none
def revV (x : V) : Option V := match x with
  | .tup xs => if V.fzL xs = true then some (.tup xs.reverse) else none
  | x => match itemsV x with
    | some xs => if V.fzL xs = true then some (.lst true xs.reverse) else none
    | none => none
def isTyV (x : V) (t : Ty) : Option Bool := match x with
  | .non => match t with
    | .own _ => none
    | _ => some false
  | .bl _ => match t with
    | .int => some true | .bool => some true | .own _ => none | _ => some false
  | .int _ => match t with
    | .int => some true | .own _ => none | _ => some false
  | .str _ => match t with
    | .str => some true | .own _ => none | _ => some false
  | .tup _ => match t with
    | .tuple => some true | .own _ => none | _ => some false
  | .lck _ => match t with
    | .list => some true | .own _ => none | _ => some false
  | .lst _ _ => match t with
    | .list => some true | .own _ => none | _ => some false
  | .dic _ _ _ => match t with
    | .dict => some true | .own _ => none | _ => some false
  | .ins _ _ _ _ => none
def isAnyV (x : V) : List Ty → Option Bool
  | [] => some false
  | t :: ts => match isTyV x t, isAnyV x ts with
    | some a, some b => some (a || b)
    | _, _ => none
/-- what is walked: its items -/
def walkV : V → Option (List V)
  | .tup xs => some xs
  | .lck xs => some xs
  | .str z => some (z.cps.toList.map fun c => .str ⟨#[c]⟩)
  | .lst _ xs => some xs
  | _ => none
def allV : List V → Option Bool
  | [] => some true
  | .bl b :: r => (allV r).map fun c => b && c
  | _ => none
def strsV : List V → Option (List Str)
  | [] => some []
  | .str x :: r => (strsV r).map fun c => x :: c
  | _ => none
def intsV : List V → Option (List Int)
  | [] => some []
  | .int x :: r => (intsV r).map fun c => x :: c
  | _ => none
def ssV (xs : List V) : Option V := match intsV xs with
  | some ys => if ys.length < 64 then some (.lst true ((sortI ys).map V.int)) else none
  | none => match strsV xs with
    | some ys => if ys.length < 4000 then some (.lst true ((sortU ys).map V.str)) else none
    | none => none
/-- built-in functions: all read, and make new things -/
def biV (b : Bi) (as : List V) : Option V := match b, as with
  | .len, [.str z] => some (.int z.length)
  | .len, [.tup xs] => some (.int xs.length)
  | .len, [.lck xs] => some (.int xs.length)
  | .len, [.lst _ xs] => some (.int xs.length)
  | .len, [.dic _ ks _] => some (.int ks.length)
  | .max, [.int i, .int j] => some (.int (if j > i then j else i))
  | .min, [.int i, .int j] => some (.int (if j < i then j else i))
  | .int, [.int i] => some (.int i)
  | .int, [.bl k] => some (.int (if k then 1 else 0))
  | .int, [.str x] => match PySem.intText? x with
    | some n => if x.length ≤ 640 then some (.int n) else none
    | none => none
  | .str, [.int i] => if i.natAbs.log2 < 1920 then strV (toString i) else none
  | .str, [.str x] => some (.str x)
  | .list, [.tup xs] => if V.fzL xs = true then some (.lst true xs) else none
  | .list, [x] => match itemsV x with
    | some xs => if V.fzL xs = true then some (.lst true xs) else none
    | none => none
  | .tuple, [.tup xs] => if V.fzL xs = true then some (.tup xs) else none
  | .tuple, [x] => match itemsV x with
    | some xs => if V.fzL xs = true then some (.tup xs) else none
    | none => none
  | .all, [.lst _ xs] => (allV xs).map .bl
  | .sorted, [.lst _ xs] => match strsV xs with
    | some ys => if ys.length < 64 then some (.lst true ((sortS ys).map V.str)) else none
    | none => none
  | .sortset, [.tup xs] => ssV xs
  | .sortset, [.lst _ xs] => ssV xs
  | .dict, [.dic _ ks vs] => if V.fzL vs = true then some (.dic true ks vs) else none
  | _, _ => none
/-- methods whose arguments are taken for good -/
def _root_.IX.Me.stores : Me → Bool
  | .append => true | .insert => true
  | _ => false
/-- the receiver of a built-in type's method -/
def meTyV (m : Me) (v : Option V) : Bool := match m, v with
  | .split, some (.str _) => true
  | .join, some (.str _) => true
  | .upper, some (.str _) => true
  | .append, some (.lst _ _) => true
  | .insert, some (.lst _ _) => true
  | .get, some (.dic _ _ _) => true
  | .items, some (.dic _ _ _) => true
  | .clear, some (.dic _ _ _) => true
  | _, _ => false
/-- methods of built-in types: what is told, and the receiver anew -/
def meV (m : Me) (x : V) (as : List V) : Option (V × Option V) := match m, x, as with
  | .split, .str a, [.str b] => if b.length ≠ 0 ∧ a.length + 2 ≤ line ∧ (∀ y ∈ Txt.split a b, y.length ≤ line) then some (.lst true ((Txt.split a b).map V.str), none) else none
  | .join, .str a, [.lst _ xs] => match strsV xs with
    | some ys => if (ys.map (·.length)).sum + ys.length * a.length ≤ line then (strV (Txt.join a ys)).map fun v => (v, none) else none
    | none => none
  | .upper, .str a, [] => if a.length ≤ 5592405 then (strV (Txt.upper a)).map fun v => (v, none) else none
  | .append, .lst true xs, [y] => if xs.length < line then some (.non, some (.lst true (xs ++ [y]))) else none
  | .insert, .lst true xs, [.int i, y] => if xs.length < line ∧ 0 ≤ i ∧ i < 2 ^ 63 then some (.non, some (.lst true (xs.take i.toNat ++ [y] ++ xs.drop i.toNat))) else none
  | .get, .dic _ ks vs, [k] => if (keyV k).isSome = true then match placeV k ks with
      | some j => match vs[j]? with
        | some v => if v.fz = true then some (v, none) else none
        | none => none
      | none => some (.non, none)
    else none
  | .get, .dic _ ks vs, [k, d] => if (keyV k).isSome = true then match placeV k ks with
      | some j => match vs[j]? with
        | some v => if v.fz = true then some (v, none) else none
        | none => none
      | none => if d.fz = true then some (d, none) else none
    else none
  | .clear, .dic true _ _, [] => some (.non, some (.dic true [] []))
  | _, _, _ => none
/-- o[i] = v -/
def setiV (x i v : V) : Option V := match x with
  | .lst true xs => match i with
    | .int k => match L2.ixN xs.length k with
      | some j => some (.lst true (xs.set j v))
      | none => none
    | _ => none
  | .dic true ks vs => if (keyV i).isSome = true ∧ ks.length < line ∧ i.fz = true then match placeV i ks with
      | some j => some (.dic true ks (vs.set j v))
      | none => some (.dic true (ks ++ [i]) (vs ++ [v]))
    else none
  | _ => none
def fldAt (f : Str) : List Str → Option Nat
  | [] => none
  | g :: r => if g = f then some 0 else (fldAt f r).map (· + 1)
def fldV (x : V) (f : Str) : Option (Nat × V) := match x with
  | .ins _ _ ns vs => match fldAt f ns with
    | some j => vs[j]?.map fun v => (j, v)
    | none => none
  | _ => none
def setfV (x : V) (f : Str) (v : V) : Option V := match x with
  | .ins true c ns vs => if ns.length < 1000 then match fldAt f ns with
      | some j => some (.ins true c ns (vs.set j v))
      | none => some (.ins true c (ns ++ [f]) (vs ++ [v]))
    else none
  | _ => none
def setAllV : List Nat → List V → Sv → Option Sv
  | [], [], σ => some σ
  | i :: is, x :: xs, σ => setAllV is xs (σ.set i (some x))
  | _, _, _ => none
def targetV (g : List Nat) (tp : Bool) (x : V) (σ : Sv) : Option Sv := match tp with
  | false => match g with
    | [i] => some (σ.set i (some x))
    | _ => none
  | true => match x with
    | .tup xs => setAllV g xs σ
    | .lst _ xs => setAllV g xs σ
    | _ => none
/-- m is run with the slot i free; behind it the slot is as it was -/
def oneV {α : Type} (i : Nat) (m : Sv → RV α) (σ : Sv) : RV α := match m (σ.set i none) with
  | .ok a σ' => .ok a (σ'.set i (slot σ i))
  | .ex c r σ' => .ex c r (σ'.set i (slot σ i))
  | .bad => .bad
def withV {α : Type} : List Nat → (Sv → RV α) → Sv → RV α
  | [], m, σ => m σ
  | v :: vs, m, σ => withV vs (fun s => oneV v m s) σ
/-- the slots g are forgotten -/
def wipeV (σ : Sv) : List Nat → Sv
  | [] => σ
  | v :: vs => (wipeV σ vs).set v none
/-- nothing may be raised; the slots g are forgotten -/
def wipeC {α : Type} (g : List Nat) (m : RV α) : RV α := match m with
  | .ok a σ => .ok a (wipeV σ g)
  | _ => .bad
def turnsV (f : V → Sv → RV (Option V)) : List V → Sv → RV (List V)
  | [], σ => .ok [] σ
  | x :: r, σ => (f x σ).bind fun y σ1 => (turnsV f r σ1).bind fun ys σ2 => match y with
      | some v => .ok (v :: ys) σ2
      | none => .ok ys σ2
def loopV (f : V → Sv → RV Fv) : List V → Sv → RV Fv
  | [], σ => .ok .nx σ
  | x :: r, σ => (f x σ).bind fun fl σ1 => match fl with
      | .nx => loopV f r σ1
      | .ct => loopV f r σ1
      | .bk => .ok .nx σ1
      | .rt d => .ok (.rt d) σ1
def whileV (c : Sv → RV Ag) (b : Sv → RV Fv) : Nat → Sv → RV Fv
  | 0, _ => .bad
  | n + 1, σ => (c σ).bind fun x σ0 => match (rd σ0 x).bind truthV with
    | some true => (b σ0).bind fun fl σ1 => match fl with
      | .nx => whileV c b n σ1
      | .ct => whileV c b n σ1
      | .bk => .ok .nx σ1
      | .rt d => .ok (.rt d) σ1
    | some false => .ok .nx σ0
    | none => .bad
/-- the program: what a def's call tells, and its parameters behind it -/
structure PgV where
  call : Nat → List V → RV V
  meth : Nat → Nat → Option Nat
  init : Nat → Option Nat
  frz : Nat → Bool
def enumV : Nat → List V → List V
  | _, [] => []
  | k, x :: r => .tup [.int (k : Int), x] :: enumV (k + 1) r
def rangeV (lo : Int) : Nat → List V
  | 0 => []
  | n + 1 => .int lo :: rangeV (lo + 1) n
/-- arguments: owned things are taken out of their slots; what comes back to where -/
def takeA : List Ag → Sv → Option (List V × Sv × List (Option (Nat × List Nat × V)))
  | [], σ => some ([], σ, [])
  | .val v :: r, σ => (takeA r σ).map fun q => (v :: q.1, q.2.1, none :: q.2.2)
  | .plc i p :: r, σ => match rd σ (.plc i p), slot σ i with
    | some v, some v0 => if v.fz = true then (takeA r σ).map fun q => (v :: q.1, q.2.1, none :: q.2.2)
      else (takeA r (σ.set i none)).map fun q => (v :: q.1, q.2.1, some (i, p, v0) :: q.2.2)
    | _, _ => none
def giveA : List (Option (Nat × List Nat × V)) → List (Option V) → Sv → Option Sv
  | [], _, σ => some σ
  | none :: is, _ :: fs, σ => giveA is fs σ
  | some (i, p, v0) :: is, f :: fs, σ => match f with
    | some w => giveA is fs (σ.set i (some (setP v0 p w)))
    | none => match p with
      | [] => giveA is fs σ
      | _ => none
  | _, _, _ => none
/-- behind a call -/
def gaveA (is : List (Option (Nat × List Nat × V))) (σ : Sv) (m : RV V) : RV Ag := match m with
  | .ok v fs => match giveA is fs σ with
    | some σ' => .ok (.val v) σ'
    | none => .bad
  | .ex c r fs => match giveA is fs σ with
    | some σ' => .ex c r σ'
    | none => .bad
  | .bad => .bad
def callA (P : PgV) (f : Nat) (as : List Ag) (σ : Sv) : RV Ag := match takeA as σ with
  | some (vs, σ1, is) => gaveA is σ1 (P.call f vs)
  | none => .bad
/-- behind an __init__: the instance -/
def madeV (fr : Bool) (m : RV V) : RV V := match m with
  | .ok .non (some i :: fs) => .ok (if fr = true then i.freeze else i) fs
  | .ex c r (_ :: fs) => .ex c r fs
  | _ => .bad
def mkA (P : PgV) (c : Nat) (f : Nat) (as : List Ag) (σ : Sv) : RV Ag := match takeA as σ with
  | some (vs, σ1, is) => gaveA is σ1 (madeV (P.frz c) (P.call f (.ins true c [] [] :: vs)))
  | none => .bad
def ptV (e : E) (m : RV Ag) (σ : Sv) : RV (Option Int) := match e with
  | .nil => .ok none σ
  | _ => m.bind fun x σ1 => match rd σ1 x with
    | some (.int i) => .ok (some i) σ1
    | _ => .bad
def op2 (o : Op) (x y : Ag) (σ : Sv) : RV Ag := match rd σ x, rd σ y with
  | some v, some w => match binV o v w with
    | some r => .ok (.val r) σ
    | none => .bad
  | _, _ => .bad
/-- a method's end -/
def meEnd (m : Me) (x : Ag) (ws : List V) (σ : Sv) : RV Ag := match rd σ x with
  | some v => match meV m v ws with
    | some (r, none) => .ok (.val r) σ
    | some (r, some v') => match x with
      | .val _ => .ok (.val r) σ
      | .plc i p => match setAt σ i p v' with
        | some σ3 => .ok (.val r) σ3
        | none => .bad
    | none => .bad
  | none => .bad
/-- a changed object goes back to its place -/
def stoEnd (x : Ag) (o : Option V) (σ : Sv) : RV Fv := match o with
  | some w => match x with
    | .val _ => .ok .nx σ
    | .plc j p => match setAt σ j p w with
      | some σ4 => .ok .nx σ4
      | none => .bad
  | none => .bad
/-- pairs of a written dict -/
def pairsV : List V → Option (List V × List V)
  | [] => some ([], [])
  | k :: v :: r => (pairsV r).map fun q => (k :: q.1, v :: q.2)
  | _ => none
/-- the keys are unlike -/
def diffV : List V → Bool
  | [] => true
  | k :: r => (keyV k).isSome && (placeV k r).isNone && diffV r
def un1 (g : V → Option V) (x : Ag) (σ : Sv) : RV Ag := match (rd σ x).bind g with
  | some r => .ok (.val r) σ
  | none => .bad
mutual
def evA (P : PgV) : E → Sv → RV Ag
  | .loc i, σ => match slot σ i with
    | some _ => .ok (.plc i []) σ
    | none => .bad
  | .cst d, σ => match toV d with
    | some v => .ok (.val v) σ
    | none => .bad
  | .nil, _ => .bad
  | .cons _ _, _ => .bad
  | .bop o a b, σ => (evA P a σ).bind fun x σ1 => (after x b.quiet (evA P b) σ1).bind fun y σ2 => op2 o x y σ2
  | .cmp2 o p a b c, σ => (evA P a σ).bind fun x σ1 => (after x b.quiet (evA P b) σ1).bind fun y σ2 => (op2 o x y σ2).bind fun z σ3 => match z with
    | .val (.bl true) => (after y c.quiet (evA P c) σ3).bind fun w σ4 => op2 p y w σ4
    | .val (.bl false) => .ok (.val (.bl false)) σ3
    | _ => .bad
  | .neg a, σ => (evA P a σ).bind fun x σ1 => un1 (fun v => match v with
    | .int i => some (.int (-i))
    | _ => none) x σ1
  | .not a, σ => (evA P a σ).bind fun x σ1 => un1 (fun v => (truthV v).map fun b => .bl (!b)) x σ1
  | .and a b, σ => (evA P a σ).bind fun x σ1 => match (rd σ1 x).bind truthV with
    | some true => evA P b σ1
    | some false => .ok x σ1
    | none => .bad
  | .or a b, σ => (evA P a σ).bind fun x σ1 => match (rd σ1 x).bind truthV with
    | some true => .ok x σ1
    | some false => evA P b σ1
    | none => .bad
  | .ite c a b, σ => (evA P c σ).bind fun x σ1 => match (rd σ1 x).bind truthV with
    | some true => evA P a σ1
    | some false => evA P b σ1
    | none => .bad
  | .tup es, σ => (evOs P es σ).bind fun xs σ1 => if xs.length ≤ line then .ok (.val (.tup xs)) σ1 else .bad
  | .lst es, σ => (evOs P es σ).bind fun xs σ1 => if xs.length ≤ line then .ok (.val (.lst true xs)) σ1 else .bad
  | .dic es, σ => (evOs P es σ).bind fun xs σ1 => match pairsV xs with
    | some (ks, vs) => if ks.length ≤ 15 ∧ diffV ks = true then .ok (.val (.dic true ks vs)) σ1 else .bad
    | none => .bad
  | .idx a b, σ => (evA P a σ).bind fun x σ1 => (after x b.quiet (evA P b) σ1).bind fun y σ2 => match rd σ2 x, rd σ2 y with
    | some v, some w => match idxV v w with
      | some (j, u) => .ok (pick x j u) σ2
      | none => .bad
    | _, _ => .bad
  | .slc a lo hi, σ => (evA P a σ).bind fun x σ1 => (after x lo.quiet (fun s => ptV lo (evA P lo s) s) σ1).bind fun l σ2 => (after x hi.quiet (fun s => ptV hi (evA P hi s) s) σ2).bind fun u σ3 =>
    un1 (fun v => slcV v l u) x σ3
  | .rev a, σ => (evA P a σ).bind fun x σ1 => un1 revV x σ1
  | .isi a ts, σ => (evA P a σ).bind fun x σ1 => un1 (fun v => (isAnyV v ts).map .bl) x σ1
  | .call f es, σ => (evAs P es σ).bind fun as σ1 => callA P f as σ1
  | .bi b es, σ => (evAs P es σ).bind fun as σ1 => match rds σ1 as with
    | some vs => match biV b vs with
      | some r => .ok (.val r) σ1
      | none => .bad
    | none => .bad
  | .me m a es, σ => (evA P a σ).bind fun x σ1 => if meTyV m (rd σ1 x) = true then (after x es.quiet (fun s => if m.stores = true then evOs P es s else (evAs P es s).bind fun as s1 => match rds s1 as with
      | some vs => .ok vs s1
      | none => .bad) σ1).bind fun ws σ2 => meEnd m x ws σ2
    else .bad
  | .meth m a es, σ => (evA P a σ).bind fun x σ1 => match rd σ1 x with
    | some (.ins _ c _ _) => match P.meth c m with
      | some f => (after x es.quiet (evAs P es) σ1).bind fun as σ2 => callA P f (x :: as) σ2
      | none => .bad
    | _ => .bad
  | .fld a f, σ => (evA P a σ).bind fun x σ1 => match (rd σ1 x).bind fun v => fldV v f with
    | some (j, w) => .ok (pick x j w) σ1
    | none => .bad
  | .mk c es, σ => (evAs P es σ).bind fun as σ1 => match P.init c with
    | some f => mkA P c f as σ1
    | none => .bad
  | .rng1 _, _ => .bad
  | .rng2 _ _, _ => .bad
  | .enum _, _ => .bad
  | .zip _ _, _ => .bad
  | .lc elt g tp it c, σ => (evIt P it (evA P it) σ).bind fun xs σ1 => if xs.length ≤ line then
      match withV g (turnsV (fun x s => wipeC g (match targetV g tp x s with
        | some s2 => if c.isNil = true then (evA P elt s2).bind fun y s4 => (own false y s4).bind fun v s5 => .ok (some v) s5
          else (evA P c s2).bind fun z s3 => match (rd s3 z).bind truthV with
            | some true => (evA P elt s3).bind fun y s4 => (own false y s4).bind fun v s5 => .ok (some v) s5
            | some false => .ok none s3
            | none => .bad
        | none => .bad)) xs) σ1 with
      | .ok ys σ2 => .ok (.val (.lst true ys)) σ2
      | _ => .bad
    else .bad
def evAs (P : PgV) : E → Sv → RV (List Ag)
  | .nil, σ => .ok [] σ
  | .cons e r, σ => (evA P e σ).bind fun x σ1 => (after x r.quiet (evAs P r) σ1).bind fun xs σ2 => .ok (x :: xs) σ2
  | _, _ => .bad
def evOs (P : PgV) : E → Sv → RV (List V)
  | .nil, σ => .ok [] σ
  | .cons e r, σ => (evA P e σ).bind fun x σ1 => (own false x σ1).bind fun v σ2 => (evOs P r σ2).bind fun vs σ3 => .ok (v :: vs) σ3
  | _, _ => .bad
/-- what is walked -/
def evIt (P : PgV) : E → (Sv → RV Ag) → Sv → RV (List V)
  | .rng1 a, _, σ => (evA P a σ).bind fun x σ1 => match rd σ1 x with
    | some (.int j) => if small j = true then .ok (rangeV 0 j.toNat) σ1 else .bad
    | _ => .bad
  | .rng2 a b, _, σ => (evA P a σ).bind fun x σ1 => (after x b.quiet (evA P b) σ1).bind fun y σ2 => match rd σ2 x, rd σ2 y with
    | some (.int i), some (.int j) => if small i = true ∧ small j = true then .ok (rangeV i (j - i).toNat) σ2 else .bad
    | _, _ => .bad
  | .enum a, _, σ => (evA P a σ).bind fun x σ1 => (own false x σ1).bind fun v σ2 => match itemsV v with
    | some xs => if V.fzL xs = true then .ok (enumV 0 xs) σ2 else .bad
    | none => .bad
  | .zip _ _, _, _ => .bad
  | _, m, σ => (m σ).bind fun x σ1 => (own false x σ1).bind fun v σ2 => match walkV v with
    | some xs => if V.fzL xs = true then .ok xs σ2 else .bad
    | none => .bad
end
def exV (P : PgV) : S → Sv → RV Fv
  | .skip, σ => .ok .nx σ
  | .seq a b, σ => (exV P a σ).bind fun fl σ1 => match fl with
    | .nx => exV P b σ1
    | fl => .ok fl σ1
  | .set i e, σ => (evA P e σ).bind fun x σ1 => (own true x σ1).bind fun v σ2 => .ok .nx (σ2.set i (some v))
  | .unp is e, σ => (evA P e σ).bind fun x σ1 => (own false x σ1).bind fun v σ2 => match targetV is true v σ2 with
    | some σ3 => .ok .nx σ3
    | none => .bad
  | .exp e, σ => (evA P e σ).bind fun _ σ1 => .ok .nx σ1
  | .ret e, σ => (evA P e σ).bind fun x σ1 => (own true x σ1).bind fun v σ2 => .ok (.rt v) σ2
  | .ite c a b, σ => (evA P c σ).bind fun x σ1 => match (rd σ1 x).bind truthV with
    | some true => exV P a σ1
    | some false => exV P b σ1
    | none => .bad
  | .whl c b, σ => whileV (evA P c) (exV P b) rounds σ
  | .loop g tp it b, σ => (evIt P it (evA P it) σ).bind fun xs σ1 => loopV (fun x s => match targetV g tp x s with
      | some s2 => exV P b s2
      | none => .bad) xs σ1
  | .brk, σ => .ok .bk σ
  | .cnt, σ => .ok .ct σ
  | .seti a i e, σ => (evA P e σ).bind fun x0 σ0 => (own false x0 σ0).bind fun v σ1 => (evA P a σ1).bind fun x σ2 => (after x i.quiet (evA P i) σ2).bind fun y σ3 => match rd σ3 x, rd σ3 y with
    | some w, some k => stoEnd x (setiV w k v) σ3
    | _, _ => .bad
  | .setf a f e, σ => (evA P e σ).bind fun x0 σ0 => (own true x0 σ0).bind fun v σ1 => (evA P a σ1).bind fun x σ2 => match rd σ2 x with
    | some w => stoEnd x (setfV w f v) σ2
    | none => .bad
  | .aug i o e, σ => match slot σ i with
    | some _ => (evA P e σ).bind fun y σ1 => (op2 o (.plc i []) y σ1).bind fun z σ2 => match z with
      | .val v => .ok .nx (σ2.set i (some v))
      | _ => .bad
    | none => .bad
  | .augf a f o e, σ => (evA P a σ).bind fun x σ1 => match (rd σ1 x).bind fun w => fldV w f with
    | some (_, .int n) => (after x e.quiet (evA P e) σ1).bind fun y σ2 => (op2 o (.val (.int n)) y σ2).bind fun z σ3 => match z with
      | .val v => if v.fz = true then match rd σ3 x with
        | some w => stoEnd x (setfV w f v) σ3
        | none => .bad
        else .bad
      | _ => .bad
    | _ => .bad
/-- slots that a statement stores to -/
def _root_.IX.S.asg : S → List Nat
  | .seq a b => a.asg ++ b.asg | .set i _ => [i] | .unp is _ => is | .ite _ a b => a.asg ++ b.asg | .whl _ b => b.asg | .loop g _ _ b => g ++ b.asg | .aug i _ _ => [i]
  | _ => []
/-- the parameters behind a call; those that are stored to anew are not told -/
def finV (d : Def) (σ : Sv) : Sv := (List.range d.np).map fun k => if d.body.asg.contains k then none else slot σ k
def leaveV (d : Def) (r : RV Fv) : RV V := match r with
  | .ok (.rt v) σ => .ok v (finV d σ)
  | .ok .nx σ => .ok .non (finV d σ)
  | .ok _ _ => .bad
  | .ex c r σ => .ex c r (finV d σ)
  | .bad => .bad
def startV (d : Def) (vs : List V) : Sv := vs.map some ++ List.replicate (d.nl - vs.length) none
def callV (T : Tbl) (fr : Nat → Bool) : Nat → Nat → List V → RV V
  | 0 => fun _ _ => .bad
  | n + 1 => fun f vs => match T.fn f with
    | some d => if vs.length = d.np then leaveV d (exV ⟨callV T fr n, T.meth, T.init, fr⟩ d.body (startV d vs)) else .bad
    | none => .bad
end VX
end

section
set_option Elab.async false
set_option linter.all false
set_option maxRecDepth 100000
set_option maxHeartbeats 1000000
/-! VX2: how trees stand for what is in the own heap. -/
namespace VX
open PySem IX
abbrev Cnt := Nat → Nat
def isZ (f : Cnt) : Prop := ∀ b, f b = 0
/-- the part of an object itself -/
def OwnC (Z : Nat → Prop) (o : Bool) (a : Nat) (g f : Cnt) : Prop := if o = true then ∀ b, f b = (if b = a then 1 else 0) + g b else Z a ∧ isZ f ∧ isZ g
mutual
/-- v stands for d; f: how often each owned object is held within -/
def Rep (Z : Nat → Prop) (h : Hh) : V → D → Cnt → Prop
  | .non, d, f => d = .non ∧ isZ f
  | .bl b, d, f => d = .bl b ∧ isZ f
  | .int i, d, f => d = .int i ∧ isZ f
  | .str x, d, f => d = .str x ∧ isZ f
  | .tup xs, d, f => ∃ ds, d = .tup ds ∧ RepL Z h xs ds f
  | .lck xs, d, f => ∃ ds, d = .lck ds ∧ RepL Z h xs ds f ∧ isZ f
  | .lst o xs, d, f => ∃ a ds g, d = .ref a ∧ h[a]? = some (.lst ds) ∧ RepL Z h xs ds g ∧ OwnC Z o a g f
  | .dic o ks vs, d, f => ∃ a kvs g k, d = .ref a ∧ h[a]? = some (.dic kvs) ∧ (kvs.map fun p => keyD p.1).Nodup ∧ (∀ p ∈ kvs, (keyD p.1).isSome = true) ∧ isZ k ∧ RepL Z h ks (kvs.map (·.1)) k ∧ RepL Z h vs (kvs.map (·.2)) g ∧ OwnC Z o a g f
  | .ins o c ns vs, d, f => ∃ a fs g, d = .ref a ∧ h[a]? = some (.ins c fs) ∧ fs.map (·.1) = ns ∧ RepL Z h vs (fs.map (·.2)) g ∧ OwnC Z o a g f
def RepL (Z : Nat → Prop) (h : Hh) : List V → List D → Cnt → Prop
  | [], ds, f => ds = [] ∧ isZ f
  | x :: r, ds, f => ∃ d es f1 f2, ds = d :: es ∧ Rep Z h x d f1 ∧ RepL Z h r es f2 ∧ ∀ b, f b = f1 b + f2 b
end
/-- the slots -/
def SR (Z : Nat → Prop) (h : Hh) : Sv → St → Cnt → Prop
  | [], τ, f => τ = [] ∧ isZ f
  | none :: σ, τ, f => ∃ t τ', τ = t :: τ' ∧ SR Z h σ τ' f
  | some v :: σ, τ, f => ∃ d τ' f1 f2, τ = some d :: τ' ∧ Rep Z h v d f1 ∧ SR Z h σ τ' f2 ∧ ∀ b, f b = f1 b + f2 b
/-- nothing owned is held twice, nothing frozen is owned -/
structure Good (Z : Nat → Prop) (h : Hh) (f : Cnt) : Prop where
  one : ∀ a, f a ≤ 1
  fz : ∀ a, Z a → f a = 0
  lt : ∀ a, h.length ≤ a → f a = 0 ∧ ¬ Z a
/-- from one moment to a later one; F: what somebody else owns -/
structure Stp (Z : Nat → Prop) (h : Hh) (F : Cnt) (Z' : Nat → Prop) (h' : Hh) : Prop where
  z : ∀ a, Z a → Z' a
  keep : ∀ a, Z a ∨ F a ≠ 0 → h'[a]? = h[a]?
  len : h.length ≤ h'.length
section
variable {Z Z' Z2 : Nat → Prop} {h h' h2 : Hh} {F G f g : Cnt}
theorem Stp.refl : Stp Z h F Z h := ⟨fun _ z => z, fun _ _ => rfl, Nat.le_refl _⟩
theorem Stp.trans (a : Stp Z h F Z' h') (b : Stp Z' h' F Z2 h2) : Stp Z h F Z2 h2 :=
  ⟨fun x z => b.z x (a.z x z), fun x z => (b.keep x (z.imp (a.z x) id)).trans (a.keep x z), Nat.le_trans a.len b.len⟩
theorem Stp.le (a : Stp Z h F Z' h') (l : ∀ b, G b ≤ F b) : Stp Z h G Z' h' := ⟨a.z, fun x z => a.keep x (z.imp id fun q => by have := l x; omega), a.len⟩
theorem Stp.ext (t : Hh) : Stp Z h F Z (h ++ t) → True := fun _ => trivial
theorem Good.le (a : Good Z h f) (l : ∀ b, g b ≤ f b) : Good Z h g :=
  ⟨fun x => Nat.le_trans (l x) (a.one x), fun x z => by have := a.fz x z; have := l x; omega, fun x z => ⟨by have := (a.lt x z).1; have := l x; omega, (a.lt x z).2⟩⟩
/-- new objects behind: what stood stands -/
theorem Good.stpx (a : Good Z h (fun b => f b + F b)) (t : Hh) : Stp Z h F Z (h ++ t) := ⟨fun _ z => z, fun x z => by
  have hl : x < h.length := by
    rcases Nat.lt_or_ge x h.length with q | q
    · exact q
    · have := a.lt x q
      rcases z with z | z
      · exact absurd z this.2
      · have := this.1; omega
  rw [List.getElem?_append_left hl], by rw [List.length_append]; omega⟩
mutual
/-- the frame -/
theorem Rep.frame (hz : ∀ a, Z a → Z' a) : ∀ {v : V} {d : D} {f : Cnt}, Rep Z h v d f → (∀ a, Z a ∨ f a ≠ 0 → h'[a]? = h[a]?) → Rep Z' h' v d f
  | .non, _, _, r, _ => r
  | .bl _, _, _, r, _ => r
  | .int _, _, _, r, _ => r
  | .str _, _, _, r, _ => r
  | .tup xs, d, f, ⟨ds, e, r⟩, k => ⟨ds, e, RepL.frame hz r k⟩
  | .lck xs, d, f, ⟨ds, e, r, z⟩, k => ⟨ds, e, RepL.frame hz r k, z⟩
  | .lst o xs, d, f, ⟨a, ds, g, e, eh, r, w⟩, k => by
    cases o with
    | true =>
      have w1 : ∀ b, f b = (if b = a then 1 else 0) + g b := w
      exact ⟨a, ds, g, e, (k a (.inr (by rw [w1 a, if_pos rfl]; omega))).trans eh, RepL.frame hz r fun x q => k x (q.imp id fun q => by rw [w1 x]; omega), w⟩
    | false =>
      obtain ⟨za, z1, z2⟩ := (show Z a ∧ isZ f ∧ isZ g from w)
      exact ⟨a, ds, g, e, (k a (.inl za)).trans eh, RepL.frame hz r fun x q => k x (q.imp id fun q => absurd (z2 x) q), ⟨hz a za, z1, z2⟩⟩
  | .dic o ks vs, d, f, ⟨a, kvs, g, kk, e, eh, nd, kd, zk, rk, r, w⟩, k => by
    cases o with
    | true =>
      have w1 : ∀ b, f b = (if b = a then 1 else 0) + g b := w
      exact ⟨a, kvs, g, kk, e, (k a (.inr (by rw [w1 a, if_pos rfl]; omega))).trans eh, nd, kd, zk, RepL.frame hz rk fun x q => k x (q.imp id fun q => absurd (zk x) q), RepL.frame hz r fun x q => k x (q.imp id fun q => by rw [w1 x]; omega), w⟩
    | false =>
      obtain ⟨za, z1, z2⟩ := (show Z a ∧ isZ f ∧ isZ g from w)
      exact ⟨a, kvs, g, kk, e, (k a (.inl za)).trans eh, nd, kd, zk, RepL.frame hz rk fun x q => k x (q.imp id fun q => absurd (zk x) q), RepL.frame hz r fun x q => k x (q.imp id fun q => absurd (z2 x) q), ⟨hz a za, z1, z2⟩⟩
  | .ins o c ns vs, d, f, ⟨a, fs, g, e, eh, en, r, w⟩, k => by
    cases o with
    | true =>
      have w1 : ∀ b, f b = (if b = a then 1 else 0) + g b := w
      exact ⟨a, fs, g, e, (k a (.inr (by rw [w1 a, if_pos rfl]; omega))).trans eh, en, RepL.frame hz r fun x q => k x (q.imp id fun q => by rw [w1 x]; omega), w⟩
    | false =>
      obtain ⟨za, z1, z2⟩ := (show Z a ∧ isZ f ∧ isZ g from w)
      exact ⟨a, fs, g, e, (k a (.inl za)).trans eh, en, RepL.frame hz r fun x q => k x (q.imp id fun q => absurd (z2 x) q), ⟨hz a za, z1, z2⟩⟩
theorem RepL.frame (hz : ∀ a, Z a → Z' a) : ∀ {v : List V} {d : List D} {f : Cnt}, RepL Z h v d f → (∀ a, Z a ∨ f a ≠ 0 → h'[a]? = h[a]?) → RepL Z' h' v d f
  | [], _, _, r, _ => r
  | x :: xs, ds, f, ⟨d, es, f1, f2, e, r1, r2, s⟩, k => ⟨d, es, f1, f2, e, Rep.frame hz r1 fun a q => k a (q.imp id fun q => by rw [s a]; omega), RepL.frame hz r2 fun a q => k a (q.imp id fun q => by rw [s a]; omega), s⟩
end
theorem SR.frame (hz : ∀ a, Z a → Z' a) : ∀ {σ : Sv} {τ : St} {f : Cnt}, SR Z h σ τ f → (∀ a, Z a ∨ f a ≠ 0 → h'[a]? = h[a]?) → SR Z' h' σ τ f
  | [], _, _, r, _ => r
  | none :: σ, _, _, ⟨t, τ', e, r⟩, k => ⟨t, τ', e, SR.frame hz r k⟩
  | some v :: σ, _, f, ⟨d, τ', f1, f2, e, r1, r2, s⟩, k => ⟨d, τ', f1, f2, e, r1.frame hz fun a q => k a (q.imp id fun q => by rw [s a]; omega), SR.frame hz r2 fun a q => k a (q.imp id fun q => by rw [s a]; omega), s⟩
/-- over a step: what the others own -/
theorem Rep.stp {v : V} {d : D} (r : Rep Z h v d f) (s : Stp Z h F Z' h') (l : ∀ b, f b ≤ F b) : Rep Z' h' v d f := r.frame s.z fun a q => s.keep a (q.imp id fun q => by have := l a; omega)
theorem RepL.stp {v : List V} {d : List D} (r : RepL Z h v d f) (s : Stp Z h F Z' h') (l : ∀ b, f b ≤ F b) : RepL Z' h' v d f := r.frame s.z fun a q => s.keep a (q.imp id fun q => by have := l a; omega)
theorem SR.stp {v : Sv} {d : St} (r : SR Z h v d f) (s : Stp Z h F Z' h') (l : ∀ b, f b ≤ F b) : SR Z' h' v d f := r.frame s.z fun a q => s.keep a (q.imp id fun q => by have := l a; omega)
mutual
theorem Rep.fz0 : ∀ {v : V} {d : D} {f : Cnt}, Rep Z h v d f → v.fz = true → isZ f
  | .non, _, _, r, _ => r.2
  | .bl _, _, _, r, _ => r.2
  | .int _, _, _, r, _ => r.2
  | .str _, _, _, r, _ => r.2
  | .tup xs, d, f, ⟨ds, e, r⟩, k => RepL.fz0 r k
  | .lck xs, d, f, ⟨ds, e, r, z⟩, k => z
  | .lst o xs, d, f, ⟨a, ds, g, e, eh, r, w⟩, k => by
    cases o with
    | true => cases k
    | false => exact (show Z a ∧ isZ f ∧ isZ g from w).2.1
  | .dic o ks vs, d, f, ⟨a, kvs, g, kk, e, eh, nd, kd, zk, rk, r, w⟩, k => by
    cases o with
    | true => cases k
    | false => exact (show Z a ∧ isZ f ∧ isZ g from w).2.1
  | .ins o c ns vs, d, f, ⟨a, fs, g, e, eh, en, r, w⟩, k => by
    cases o with
    | true => cases k
    | false => exact (show Z a ∧ isZ f ∧ isZ g from w).2.1
theorem RepL.fz0 : ∀ {v : List V} {d : List D} {f : Cnt}, RepL Z h v d f → V.fzL v = true → isZ f
  | [], _, _, r, _ => r.2
  | x :: xs, ds, f, ⟨d, es, f1, f2, e, r1, r2, s⟩, k => by
    have k' : (x.fz && V.fzL xs) = true := k
    rw [Bool.and_eq_true] at k'
    intro b; rw [s b, Rep.fz0 r1 k'.1 b, RepL.fz0 r2 k'.2 b]
end
/-- the same tree with another count that is the same -/
theorem Rep.cnt : ∀ {v : V} {d : D} {f g : Cnt}, Rep Z h v d f → (∀ b, g b = f b) → Rep Z h v d g := fun {v d f g} r e => by
  have : g = f := funext e
  rw [this]; exact r
theorem RepL.cnt {v : List V} {d : List D} {f g : Cnt} (r : RepL Z h v d f) (e : ∀ b, g b = f b) : RepL Z h v d g := by
  have : g = f := funext e
  rw [this]; exact r
theorem SR.cnt {v : Sv} {d : St} {f g : Cnt} (r : SR Z h v d f) (e : ∀ b, g b = f b) : SR Z h v d g := by
  have : g = f := funext e
  rw [this]; exact r
mutual
/-- frozen: its objects are owned by nobody any more -/
theorem Rep.frz (hz : ∀ a, Z a → Z' a) : ∀ {v : V} {d : D} {f : Cnt}, Rep Z h v d f → (∀ a, f a ≠ 0 → Z' a) → Rep Z' h v.freeze d (fun _ => 0)
  | .non, _, _, r, _ => ⟨r.1, fun _ => rfl⟩
  | .bl _, _, _, r, _ => ⟨r.1, fun _ => rfl⟩
  | .int _, _, _, r, _ => ⟨r.1, fun _ => rfl⟩
  | .str _, _, _, r, _ => ⟨r.1, fun _ => rfl⟩
  | .tup xs, d, f, ⟨ds, e, r⟩, k => ⟨ds, e, RepL.frz hz r k⟩
  | .lck xs, d, f, ⟨ds, e, r, z⟩, k => ⟨ds, e, RepL.frz hz r k, fun _ => rfl⟩
  | .lst o xs, d, f, ⟨a, ds, g, e, eh, r, w⟩, k => by
    cases o with
    | true =>
      have w1 : ∀ b, f b = (if b = a then 1 else 0) + g b := w
      exact ⟨a, ds, _, e, eh, RepL.frz hz r fun x q => k x (by rw [w1 x]; omega), ⟨k a (by rw [w1 a, if_pos rfl]; omega), fun _ => rfl, fun _ => rfl⟩⟩
    | false =>
      obtain ⟨za, z1, z2⟩ := (show Z a ∧ isZ f ∧ isZ g from w)
      exact ⟨a, ds, _, e, eh, RepL.frz hz r fun x q => absurd (z2 x) q, ⟨hz a za, fun _ => rfl, fun _ => rfl⟩⟩
  | .dic o ks vs, d, f, ⟨a, kvs, g, kk, e, eh, nd, kd, zk, rk, r, w⟩, k => by
    cases o with
    | true =>
      have w1 : ∀ b, f b = (if b = a then 1 else 0) + g b := w
      exact ⟨a, kvs, _, _, e, eh, nd, kd, fun _ => rfl, RepL.frz hz rk fun x q => absurd (zk x) q, RepL.frz hz r fun x q => k x (by rw [w1 x]; omega), ⟨k a (by rw [w1 a, if_pos rfl]; omega), fun _ => rfl, fun _ => rfl⟩⟩
    | false =>
      obtain ⟨za, z1, z2⟩ := (show Z a ∧ isZ f ∧ isZ g from w)
      exact ⟨a, kvs, _, _, e, eh, nd, kd, fun _ => rfl, RepL.frz hz rk fun x q => absurd (zk x) q, RepL.frz hz r fun x q => absurd (z2 x) q, ⟨hz a za, fun _ => rfl, fun _ => rfl⟩⟩
  | .ins o c ns vs, d, f, ⟨a, fs, g, e, eh, en, r, w⟩, k => by
    cases o with
    | true =>
      have w1 : ∀ b, f b = (if b = a then 1 else 0) + g b := w
      exact ⟨a, fs, _, e, eh, en, RepL.frz hz r fun x q => k x (by rw [w1 x]; omega), ⟨k a (by rw [w1 a, if_pos rfl]; omega), fun _ => rfl, fun _ => rfl⟩⟩
    | false =>
      obtain ⟨za, z1, z2⟩ := (show Z a ∧ isZ f ∧ isZ g from w)
      exact ⟨a, fs, _, e, eh, en, RepL.frz hz r fun x q => absurd (z2 x) q, ⟨hz a za, fun _ => rfl, fun _ => rfl⟩⟩
theorem RepL.frz (hz : ∀ a, Z a → Z' a) : ∀ {v : List V} {d : List D} {f : Cnt}, RepL Z h v d f → (∀ a, f a ≠ 0 → Z' a) → RepL Z' h (V.freezeL v) d (fun _ => 0)
  | [], _, _, r, _ => ⟨r.1, fun _ => rfl⟩
  | x :: xs, ds, f, ⟨d, es, f1, f2, e, r1, r2, s⟩, k => ⟨d, es, _, _, e, Rep.frz hz r1 fun a q => k a (by rw [s a]; omega), RepL.frz hz r2 fun a q => k a (by rw [s a]; omega), fun _ => rfl⟩
end
/-! ### lists -/
theorem RepL.length : ∀ {v : List V} {d : List D} {f : Cnt}, RepL Z h v d f → d.length = v.length
  | [], _, _, r => by rw [r.1]; rfl
  | x :: xs, ds, f, ⟨d, es, f1, f2, e, r1, r2, s⟩ => by rw [e, List.length_cons, List.length_cons, RepL.length r2]
theorem RepL.append : ∀ {v w : List V} {d e : List D} {f g : Cnt}, RepL Z h v d f → RepL Z h w e g → RepL Z h (v ++ w) (d ++ e) (fun b => f b + g b)
  | [], w, _, e, f, g, r, q => by rw [r.1]; exact q.cnt fun b => by rw [r.2 b]; omega
  | x :: xs, w, ds, e, f, g, ⟨d, es, f1, f2, ed, r1, r2, s⟩, q => by
    rw [ed]
    exact ⟨d, es ++ e, f1, _, rfl, r1, RepL.append r2 q, fun b => by have := s b; dsimp only; omega⟩
/-- cut in two -/
theorem RepL.split : ∀ {v w : List V} {d : List D} {f : Cnt}, RepL Z h (v ++ w) d f → ∃ d1 d2 f1 f2, d = d1 ++ d2 ∧ RepL Z h v d1 f1 ∧ RepL Z h w d2 f2 ∧ ∀ b, f b = f1 b + f2 b
  | [], w, d, f, r => ⟨[], d, fun _ => 0, f, rfl, ⟨rfl, fun _ => rfl⟩, r, fun b => (Nat.zero_add _).symm⟩
  | x :: xs, w, ds, f, ⟨d, es, f1, f2, ed, r1, r2, s⟩ => by
    obtain ⟨d1, d2, g1, g2, e, q1, q2, t⟩ := RepL.split r2
    subst e
    exact ⟨d :: d1, d2, _, g2, ed, ⟨d, d1, f1, g1, rfl, r1, q1, fun _ => rfl⟩, q2, fun b => by rw [s b, t b]; omega⟩
theorem RepL.one {v : V} {d : D} (r : Rep Z h v d f) : RepL Z h [v] [d] f := ⟨d, [], f, fun _ => 0, rfl, r, ⟨rfl, fun _ => rfl⟩, fun _ => rfl⟩
/-- an item -/
theorem RepL.get : ∀ {v : List V} {d : List D} {f : Cnt} {i : Nat} {x : V}, RepL Z h v d f → v[i]? = some x → ∃ (e : D) (g k : Cnt), d[i]? = some e ∧ Rep Z h x e g ∧ (∀ b, f b = g b + k b) ∧ ∀ x' e' g', Rep Z h x' e' g' → RepL Z h (v.set i x') (d.set i e') (fun b => g' b + k b)
  | [], _, _, i, _, _, e => by simp at e
  | y :: ys, ds, f, 0, x, ⟨d, es, f1, f2, ed, r1, r2, s⟩, e => by
    simp only [List.getElem?_cons_zero, Option.some.injEq] at e
    subst e ed
    exact ⟨d, f1, f2, rfl, r1, s, fun x' e' g' q => ⟨e', es, g', f2, rfl, q, r2, fun _ => rfl⟩⟩
  | y :: ys, ds, f, i + 1, x, ⟨d, es, f1, f2, ed, r1, r2, s⟩, e => by
    simp only [List.getElem?_cons_succ] at e
    obtain ⟨e1, g, k, h1, h2, h3, h4⟩ := RepL.get r2 e
    subst ed
    exact ⟨e1, g, fun b => f1 b + k b, by simpa using h1, h2, fun b => by have := s b; have := h3 b; dsimp only; omega, fun x' e' g' q => ⟨d, _, f1, _, rfl, r1, h4 x' e' g' q, fun b => by dsimp only; omega⟩⟩
theorem RepL.none_of {v : List V} {d : List D} (r : RepL Z h v d f) {i : Nat} (e : v[i]? = none) : d[i]? = none := by
  rw [List.getElem?_eq_none_iff] at e ⊢
  rw [r.length]; exact e
theorem isZ_le {f g : Cnt} (z : isZ f) (l : ∀ b, g b ≤ f b) : isZ g := fun b => by have := z b; have := l b; omega
/-- frozen items, any list of them -/
theorem RepL.sub {v w : List V} {d e : List D} (r : RepL Z h v d f) (z : isZ f) (hm : ∀ (i : Nat) (x : V), w[i]? = some x → ∃ j : Nat, v[j]? = some x ∧ e[i]? = d[j]?) (hl : w.length = e.length) : RepL Z h w e (fun _ => 0) := by
  induction w generalizing e with
  | nil =>
    have : e = [] := List.length_eq_zero_iff.mp hl.symm
    exact ⟨this, fun _ => rfl⟩
  | cons x xs ih =>
    cases e with
    | nil => cases hl
    | cons y ys =>
      obtain ⟨j, e1, e2⟩ := hm 0 x rfl
      obtain ⟨d1, g, k, h1, h2, h3, _⟩ := r.get e1
      rw [h1] at e2
      have : y = d1 := by simpa using e2
      subst this
      refine ⟨y, ys, g, _, rfl, h2, ih (fun i x q => ?_) (by simpa using hl), fun b => ?_⟩
      · obtain ⟨j, a, b⟩ := hm (i + 1) x (by simpa using q)
        exact ⟨j, a, by simpa using b⟩
      · have := z b; have := h3 b; dsimp only; omega
theorem RepL.take {v : List V} {d : List D} (r : RepL Z h v d f) (z : isZ f) (n : Nat) : RepL Z h (v.take n) (d.take n) (fun _ => 0) :=
  r.sub z (fun i x q => ⟨i, by
    rw [List.getElem?_take] at q ⊢
    by_cases c : i < n
    · rw [if_pos c] at q ⊢; exact ⟨q, rfl⟩
    · rw [if_neg c] at q; cases q⟩) (by rw [List.length_take, List.length_take, r.length])
theorem RepL.drop {v : List V} {d : List D} (r : RepL Z h v d f) (z : isZ f) (n : Nat) : RepL Z h (v.drop n) (d.drop n) (fun _ => 0) :=
  r.sub z (fun i x q => ⟨n + i, by rw [List.getElem?_drop] at q; exact q, by rw [List.getElem?_drop]⟩) (by rw [List.length_drop, List.length_drop, r.length])
theorem RepL.rev {v : List V} {d : List D} (r : RepL Z h v d f) (z : isZ f) : RepL Z h v.reverse d.reverse (fun _ => 0) :=
  r.sub z (fun i x q => by
    have hi : i < v.reverse.length := (List.getElem?_eq_some_iff.mp q).1
    rw [List.length_reverse] at hi
    rw [List.getElem?_reverse hi] at q
    exact ⟨_, q, by rw [List.getElem?_reverse (by rw [r.length]; exact hi), r.length]⟩) (by rw [List.length_reverse, List.length_reverse, r.length])
theorem RepL.insert {v : List V} {d : List D} {x : V} {e : D} (r : RepL Z h v d f) (q : Rep Z h x e g) (n : Nat) : RepL Z h (v.take n ++ [x] ++ v.drop n) (d.take n ++ [e] ++ d.drop n) (fun b => f b + g b) := by
  have r' := r
  rw [← List.take_append_drop n v] at r'
  obtain ⟨d1, d2, f1, f2, e1, r1, r2, s⟩ := r'.split
  have l1 := r1.length
  have lv := r.length
  have e2 : d.take n = d1 ∧ d.drop n = d2 := by
    rw [List.length_take] at l1
    by_cases c : n ≤ v.length
    · have : d1.length = n := by omega
      rw [e1]
      exact ⟨by rw [← this, List.take_left], by rw [← this, List.drop_left]⟩
    · have h2 : v.drop n = [] := List.drop_eq_nil_of_le (by omega)
      rw [h2] at r2
      have h3 : d2 = [] := r2.1
      subst h3
      rw [List.append_nil] at e1
      subst e1
      exact ⟨List.take_of_length_le (by omega), List.drop_eq_nil_of_le (by omega)⟩
  rw [e2.1, e2.2]
  exact ((r1.append (RepL.one q)).append r2).cnt fun b => by rw [s b]; omega
/-! ### slots -/
theorem SR.length : ∀ {σ : Sv} {τ : St} {f : Cnt}, SR Z h σ τ f → τ.length = σ.length
  | [], _, _, r => by rw [r.1]; rfl
  | none :: σ, _, _, ⟨t, τ', e, r⟩ => by rw [e, List.length_cons, List.length_cons, SR.length r]
  | some v :: σ, _, f, ⟨d, τ', f1, f2, e, r1, r2, s⟩ => by rw [e, List.length_cons, List.length_cons, SR.length r2]
/-- a slot's value: it, and the others -/
theorem SR.get : ∀ {σ : Sv} {τ : St} {f : Cnt} {i : Nat} {v : V}, SR Z h σ τ f → slot σ i = some v → ∃ (d : D) (g k : Cnt), τ[i]? = some (some d) ∧ Rep Z h v d g ∧ (∀ b, f b = g b + k b) ∧ SR Z h (σ.set i none) τ k ∧
    ∀ v' d' g', Rep Z h v' d' g' → SR Z h (σ.set i (some v')) (τ.set i (some d')) (fun b => g' b + k b)
  | [], _, _, i, _, _, e => by simp [slot] at e
  | none :: σ, _, f, 0, v, _, e => by simp [slot] at e
  | some w :: σ, _, f, 0, v, ⟨d, τ', f1, f2, ed, r1, r2, s⟩, e => by
    have e' : w = v := by simpa [slot] using e
    subst e' ed
    exact ⟨d, f1, f2, rfl, r1, s, ⟨_, _, rfl, r2⟩, fun v' d' g' q => ⟨d', τ', g', f2, rfl, q, r2, fun _ => rfl⟩⟩
  | none :: σ, _, f, i + 1, v, ⟨t, τ', ed, r⟩, e => by
    obtain ⟨d, g, k, h1, h2, h3, h4, h5⟩ := SR.get (i := i) (v := v) r (by simpa [slot] using e)
    subst ed
    exact ⟨d, g, k, by simpa using h1, h2, h3, ⟨t, τ', rfl, h4⟩, fun v' d' g' q => ⟨t, _, rfl, h5 v' d' g' q⟩⟩
  | some w :: σ, _, f, i + 1, v, ⟨d0, τ', f1, f2, ed, r1, r2, s⟩, e => by
    obtain ⟨d, g, k, h1, h2, h3, h4, h5⟩ := SR.get (i := i) (v := v) r2 (by simpa [slot] using e)
    subst ed
    exact ⟨d, g, fun b => f1 b + k b, by simpa using h1, h2, fun b => by have := s b; have := h3 b; dsimp only; omega, ⟨d0, τ', f1, k, rfl, r1, h4, fun _ => rfl⟩, fun v' d' g' q => ⟨d0, _, f1, _, rfl, r1, h5 v' d' g' q, fun b => by dsimp only; omega⟩⟩
/-- a slot forgotten -/
theorem SR.drop : ∀ {σ : Sv} {τ : St} {f : Cnt} (i : Nat), SR Z h σ τ f → ∃ k : Cnt, (∀ b, k b ≤ f b) ∧ SR Z h (σ.set i none) τ k ∧ ∀ t, SR Z h (σ.set i none) (τ.set i t) k
  | [], _, f, i, r => ⟨f, fun _ => Nat.le_refl _, r, fun t => by rw [r.1]; exact ⟨rfl, r.2⟩⟩
  | none :: σ, _, f, 0, ⟨t, τ', e, r⟩ => ⟨f, fun _ => Nat.le_refl _, ⟨t, τ', e, r⟩, fun t' => by rw [e]; exact ⟨t', τ', rfl, r⟩⟩
  | some w :: σ, _, f, 0, ⟨d, τ', f1, f2, ed, r1, r2, s⟩ => ⟨f2, fun b => by rw [s b]; omega, ⟨_, _, ed, r2⟩, fun t' => by rw [ed]; exact ⟨t', τ', rfl, r2⟩⟩
  | none :: σ, _, f, i + 1, ⟨t, τ', ed, r⟩ => by
    obtain ⟨k, h1, h2, h3⟩ := SR.drop i r
    subst ed
    exact ⟨k, h1, ⟨t, τ', rfl, h2⟩, fun t' => ⟨t, _, rfl, h3 t'⟩⟩
  | some w :: σ, _, f, i + 1, ⟨d0, τ', f1, f2, ed, r1, r2, s⟩ => by
    obtain ⟨k, h1, h2, h3⟩ := SR.drop i r2
    subst ed
    exact ⟨fun b => f1 b + k b, fun b => by have := s b; have := h1 b; dsimp only; omega, ⟨d0, τ', f1, k, rfl, r1, h2, fun _ => rfl⟩, fun t' => ⟨d0, _, f1, k, rfl, r1, h3 t', fun _ => rfl⟩⟩
/-- a free slot filled -/
theorem SR.fill {v : V} {d : D} (q : Rep Z h v d g) : ∀ {σ : Sv} {τ : St} {k : Cnt} {i : Nat}, SR Z h (σ.set i none) τ k → i < σ.length → SR Z h (σ.set i (some v)) (τ.set i (some d)) (fun b => g b + k b)
  | [], _, _, i, _, l => absurd l (Nat.not_lt_zero i)
  | w :: σ, _, k, 0, ⟨t, τ', e, r⟩, _ => by rw [e]; exact ⟨d, τ', g, k, rfl, q, r, fun _ => rfl⟩
  | none :: σ, _, k, i + 1, ⟨t, τ', e, r⟩, l => by rw [e]; exact ⟨t, _, rfl, SR.fill q r (Nat.lt_of_succ_lt_succ l)⟩
  | some w :: σ, _, k, i + 1, ⟨d0, τ', f1, f2, e, r1, r2, s⟩, l => by
    rw [e]
    exact ⟨d0, _, f1, _, rfl, r1, SR.fill q r2 (Nat.lt_of_succ_lt_succ l), fun b => by have := s b; dsimp only; omega⟩
/-- a slot stored to -/
theorem SR.put {σ : Sv} {τ : St} {v : V} {d : D} (r : SR Z h σ τ f) (q : Rep Z h v d g) (i : Nat) : ∃ k : Cnt, (∀ b, k b ≤ g b + f b) ∧ SR Z h (σ.set i (some v)) (τ.set i (some d)) k := by
  by_cases c : i < σ.length
  · obtain ⟨k, h1, h2, _⟩ := r.drop i
    exact ⟨_, fun b => by have := h1 b; omega, h2.fill q c⟩
  · refine ⟨f, fun b => by omega, ?_⟩
    rw [List.set_eq_of_length_le (by omega), List.set_eq_of_length_le (by rw [r.length]; omega)]
    exact r
end
end VX
end

section
set_option Elab.async false
set_option linter.all false
set_option maxRecDepth 100000
set_option maxHeartbeats 1000000
/-! VX3: places, operators. -/
namespace VX
open PySem IX
section
variable {Z Z' Z2 : Nat → Prop} {h h' h2 : Hh} {F G f g : Cnt}
mutual
theorem Rep.z_fz : ∀ {v : V} {d : D} {f : Cnt}, Rep Z h v d f → isZ f → v.fz = true
  | .non, _, _, r, _ => rfl
  | .bl _, _, _, r, _ => rfl
  | .int _, _, _, r, _ => rfl
  | .str _, _, _, r, _ => rfl
  | .tup xs, d, f, ⟨ds, e, r⟩, z => RepL.z_fz r z
  | .lck xs, d, f, ⟨ds, e, r, _⟩, z => RepL.z_fz r z
  | .lst o xs, d, f, ⟨a, ds, g, e, eh, r, w⟩, z => by
    cases o with
    | true =>
      have w1 : ∀ b, f b = (if b = a then 1 else 0) + g b := w
      have := w1 a
      rw [z a, if_pos rfl] at this
      omega
    | false =>
      show (true && V.fzL xs) = true
      rw [RepL.z_fz r (show Z a ∧ isZ f ∧ isZ g from w).2.2]; rfl
  | .dic o ks vs, d, f, ⟨a, kvs, g, kk, e, eh, nd, kd, zk, rk, r, w⟩, z => by
    cases o with
    | true =>
      have w1 : ∀ b, f b = (if b = a then 1 else 0) + g b := w
      have := w1 a
      rw [z a, if_pos rfl] at this
      omega
    | false =>
      show (true && V.fzL ks && V.fzL vs) = true
      rw [RepL.z_fz rk zk, RepL.z_fz r (show Z a ∧ isZ f ∧ isZ g from w).2.2]; rfl
  | .ins o c ns vs, d, f, ⟨a, fs, g, e, eh, en, r, w⟩, z => by
    cases o with
    | true =>
      have w1 : ∀ b, f b = (if b = a then 1 else 0) + g b := w
      have := w1 a
      rw [z a, if_pos rfl] at this
      omega
    | false =>
      show (true && V.fzL vs) = true
      rw [RepL.z_fz r (show Z a ∧ isZ f ∧ isZ g from w).2.2]; rfl
theorem RepL.z_fz : ∀ {v : List V} {d : List D} {f : Cnt}, RepL Z h v d f → isZ f → V.fzL v = true
  | [], _, _, r, _ => rfl
  | x :: xs, ds, f, ⟨d, es, f1, f2, e, r1, r2, s⟩, z => by
    show (x.fz && V.fzL xs) = true
    rw [Rep.z_fz r1 (isZ_le z fun b => by rw [s b]; omega), RepL.z_fz r2 (isZ_le z fun b => by rw [s b]; omega)]; rfl
end
/-! ### places -/
def kidsD (h : Hh) : D → List D
  | .tup ds => ds
  | .ref a => match h[a]? with
    | some (.lst ds) => ds
    | some (.dic kvs) => kvs.map (·.2)
    | some (.ins _ fs) => fs.map (·.2)
    | none => []
  | _ => []
def getD (h : Hh) : D → List Nat → Option D
  | d, [] => some d
  | d, i :: p => (kidsD h d)[i]?.bind fun e => getD h e p
/-- a node's children, and the node with others -/
theorem Rep.kids {v : V} {d : D} (r : Rep Z h v d f) {i : Nat} {x : V} (e : v.kids[i]? = some x) : ∃ (y : D) (k m : Cnt), (kidsD h d)[i]? = some y ∧ Rep Z h x y k ∧ (∀ b, f b = k b + m b) ∧
    (x.fz = false → ∀ (Z' : Nat → Prop) (h' : Hh) (x' : V) (k' : Cnt), (∀ a, Z a → Z' a) → (∀ a, Z a ∨ m a ≠ 0 → h'[a]? = h[a]?) → Rep Z' h' x' y k' → Rep Z' h' (v.withKids (v.kids.set i x')) d (fun b => k' b + m b)) := by
  have lst : ∀ {xs : List V} {ds : List D} {g : Cnt}, RepL Z h xs ds g → xs[i]? = some x → ∃ (y : D) (k m : Cnt), ds[i]? = some y ∧ Rep Z h x y k ∧ (∀ b, g b = k b + m b) ∧
      ∀ (Z' : Nat → Prop) (h' : Hh) (x' : V) (k' : Cnt), (∀ a, Z a → Z' a) → (∀ a, Z a ∨ m a ≠ 0 → h'[a]? = h[a]?) → Rep Z' h' x' y k' → RepL Z' h' (xs.set i x') ds (fun b => k' b + m b) := by
    clear r e
    intro xs
    induction xs generalizing i with
    | nil => intro ds g _ e; simp at e
    | cons w ws ih =>
      rintro ds g ⟨d0, es, f1, f2, ed, r1, r2, s⟩ e
      cases i with
      | zero =>
        simp only [List.getElem?_cons_zero, Option.some.injEq] at e
        subst e ed
        exact ⟨d0, f1, f2, rfl, r1, s, fun Z' h' x' k' hz hk q => ⟨d0, es, k', f2, rfl, q, r2.frame hz hk, fun _ => rfl⟩⟩
      | succ i =>
        simp only [List.getElem?_cons_succ] at e
        obtain ⟨y, k, m, h1, h2, h3, h4⟩ := ih r2 e
        subst ed
        refine ⟨y, k, fun b => f1 b + m b, by simpa using h1, h2, fun b => by have := s b; have := h3 b; dsimp only; omega, fun Z' h' x' k' hz hk q => ⟨d0, es, f1, _, rfl, r1.frame hz fun a q => hk a (q.imp id fun q => by dsimp only; omega), h4 Z' h' x' k' hz (fun a q => hk a (q.imp id fun q => by dsimp only; omega)) q, fun b => by dsimp only; omega⟩⟩
  cases v with
  | tup xs =>
    obtain ⟨ds, ed, r⟩ := r
    subst ed
    obtain ⟨y, k, m, h1, h2, h3, h4⟩ := lst r e
    exact ⟨y, k, m, h1, h2, h3, fun _ Z' h' x' k' hz hk q => ⟨ds, rfl, h4 Z' h' x' k' hz hk q⟩⟩
  | lst o xs =>
    obtain ⟨a, ds, g, ed, eh, r, w⟩ := r
    subst ed
    obtain ⟨y, k, m, h1, h2, h3, h4⟩ := lst r e
    have hk0 : kidsD h (.ref a) = ds := by simp only [kidsD, eh]
    cases o with
    | true =>
      have w1 : ∀ b, f b = (if b = a then 1 else 0) + g b := w
      refine ⟨y, k, fun b => (if b = a then 1 else 0) + m b, by rw [hk0]; exact h1, h2, fun b => by have := w1 b; have := h3 b; dsimp only; omega, fun _ Z' h' x' k' hz hk q => ⟨a, ds, _, rfl, (hk a (.inr (by dsimp only; rw [if_pos rfl]; omega))).trans eh, h4 Z' h' x' k' hz (fun b q => hk b (q.imp id fun q => by dsimp only; omega)) q, ?_⟩⟩
      intro b; dsimp only; omega
    | false =>
      obtain ⟨za, z1, z2⟩ := (show Z a ∧ isZ f ∧ isZ g from w)
      exact ⟨y, k, m, by rw [hk0]; exact h1, h2, fun b => by have := z1 b; have := z2 b; have := h3 b; omega, fun hf => by
        have := h2.z_fz (isZ_le z2 fun b => by have := h3 b; omega)
        rw [hf] at this; cases this⟩
  | dic o ks vs =>
    obtain ⟨a, kvs, g, kk, ed, eh, nd, kd, zk, rk, r, w⟩ := r
    subst ed
    obtain ⟨y, k, m, h1, h2, h3, h4⟩ := lst r e
    have hk0 : kidsD h (.ref a) = kvs.map (·.2) := by simp only [kidsD, eh]
    cases o with
    | true =>
      have w1 : ∀ b, f b = (if b = a then 1 else 0) + g b := w
      refine ⟨y, k, fun b => (if b = a then 1 else 0) + m b, by rw [hk0]; exact h1, h2, fun b => by have := w1 b; have := h3 b; dsimp only; omega, fun _ Z' h' x' k' hz hk q => ⟨a, kvs, _, kk, rfl, (hk a (.inr (by dsimp only; rw [if_pos rfl]; omega))).trans eh, nd, kd, zk, rk.frame hz (fun b q => hk b (q.imp id fun q => absurd (zk b) q)), h4 Z' h' x' k' hz (fun b q => hk b (q.imp id fun q => by dsimp only; omega)) q, ?_⟩⟩
      intro b; dsimp only; omega
    | false =>
      obtain ⟨za, z1, z2⟩ := (show Z a ∧ isZ f ∧ isZ g from w)
      exact ⟨y, k, m, by rw [hk0]; exact h1, h2, fun b => by have := z1 b; have := z2 b; have := h3 b; omega, fun hf => by
        have := h2.z_fz (isZ_le z2 fun b => by have := h3 b; omega)
        rw [hf] at this; cases this⟩
  | ins o c ns vs =>
    obtain ⟨a, fs, g, ed, eh, en, r, w⟩ := r
    subst ed
    obtain ⟨y, k, m, h1, h2, h3, h4⟩ := lst r e
    have hk0 : kidsD h (.ref a) = fs.map (·.2) := by simp only [kidsD, eh]
    cases o with
    | true =>
      have w1 : ∀ b, f b = (if b = a then 1 else 0) + g b := w
      refine ⟨y, k, fun b => (if b = a then 1 else 0) + m b, by rw [hk0]; exact h1, h2, fun b => by have := w1 b; have := h3 b; dsimp only; omega, fun _ Z' h' x' k' hz hk q => ⟨a, fs, _, rfl, (hk a (.inr (by dsimp only; rw [if_pos rfl]; omega))).trans eh, en, h4 Z' h' x' k' hz (fun b q => hk b (q.imp id fun q => by dsimp only; omega)) q, ?_⟩⟩
      intro b; dsimp only; omega
    | false =>
      obtain ⟨za, z1, z2⟩ := (show Z a ∧ isZ f ∧ isZ g from w)
      exact ⟨y, k, m, by rw [hk0]; exact h1, h2, fun b => by have := z1 b; have := z2 b; have := h3 b; omega, fun hf => by
        have := h2.z_fz (isZ_le z2 fun b => by have := h3 b; omega)
        rw [hf] at this; cases this⟩
  | _ => simp [V.kids] at e
theorem setP_cons {v w : V} {i : Nat} {p : List Nat} {x : V} (e : v.kids[i]? = some x) : setP v (i :: p) w = v.withKids (v.kids.set i (setP x p w)) := by
  show (match v.kids[i]? with
    | some k => v.withKids (v.kids.set i (setP k p w))
    | none => v) = _
  rw [e]
/-- a place within a value -/
theorem Rep.path : ∀ {p : List Nat} {v : V} {d : D} {f : Cnt} {w : V}, Rep Z h v d f → getP v p = some w → ∃ (y : D) (k m : Cnt), getD h d p = some y ∧ Rep Z h w y k ∧ (∀ b, f b = k b + m b) ∧
    (w.fz = false → ∀ (Z' : Nat → Prop) (h' : Hh) (x' : V) (k' : Cnt), (∀ a, Z a → Z' a) → (∀ a, Z a ∨ m a ≠ 0 → h'[a]? = h[a]?) → Rep Z' h' x' y k' → Rep Z' h' (setP v p x') d (fun b => k' b + m b))
  | [], v, d, f, w, r, e => by
    have e' : v = w := Option.some.inj e
    subst e'
    exact ⟨d, f, fun _ => 0, rfl, r, fun b => rfl, fun _ Z' h' x' k' hz hk q => q⟩
  | i :: p, v, d, f, w, r, e => by
    have e' : (v.kids[i]?.bind fun w => getP w p) = some w := e
    cases q : v.kids[i]? with
    | none => rw [q] at e'; cases e'
    | some x =>
      rw [q] at e'
      obtain ⟨y, k, m, h1, h2, h3, h4⟩ := r.kids q
      obtain ⟨y2, k2, m2, g1, g2, g3, g4⟩ := Rep.path (p := p) h2 e'
      refine ⟨y2, k2, fun b => m b + m2 b, ?_, g2, fun b => by have := h3 b; have := g3 b; dsimp only; omega, fun hf Z' h' x' k' hz hk qq => ?_⟩
      · show ((kidsD h d)[i]?.bind fun e => getD h e p) = _
        rw [h1]; exact g1
      · rw [setP_cons q]
        have xf : x.fz = false := by
          cases c : x.fz with
          | false => rfl
          | true =>
            have := g2.z_fz (isZ_le (h2.fz0 c) fun b => by have := g3 b; omega)
            rw [hf] at this; cases this
        exact (h4 xf Z' h' _ _ hz (fun a q => hk a (q.imp id fun q => by dsimp only; omega)) (g4 hf Z' h' x' k' hz (fun a q => hk a (q.imp id fun q => by dsimp only; omega)) qq)).cnt fun b => by dsimp only; omega
/-- getD where all that is owned or frozen stays -/
theorem getD_frame : ∀ {p : List Nat} {v : V} {d : D} {f : Cnt} {w : V}, Rep Z h v d f → getP v p = some w → (∀ a, Z a ∨ f a ≠ 0 → h'[a]? = h[a]?) → getD h' d p = getD h d p := fun {p v d f w} r e k => by
  obtain ⟨y, _, _, h1, _⟩ := r.path e
  obtain ⟨y2, _, _, h2, _⟩ := (r.frame (Z' := Z) (h' := h') (fun _ z => z) k).path e
  have : ∀ {p : List Nat} {v : V} {d : D} {f : Cnt} {w : V}, Rep Z h v d f → getP v p = some w → (∀ a, Z a ∨ f a ≠ 0 → h'[a]? = h[a]?) → getD h' d p = getD h d p := by
    intro p
    induction p with
    | nil => intro v d f w _ _ _; rfl
    | cons i p ih =>
      intro v d f w r e k
      have e' : (v.kids[i]?.bind fun w => getP w p) = some w := e
      cases q : v.kids[i]? with
      | none => rw [q] at e'; cases e'
      | some x =>
        rw [q] at e'
        obtain ⟨y, k1, m, h1, h2, h3, _⟩ := r.kids q
        obtain ⟨y', k1', m', h1', h2', h3', _⟩ := (r.frame (Z' := Z) (h' := h') (fun _ z => z) k).kids q
        have same : kidsD h' d = kidsD h d := by
          cases v with
          | tup xs => obtain ⟨ds, ed, _⟩ := r; rw [ed]; rfl
          | lst o xs =>
            obtain ⟨a, ds, g, ed, eh, _, w⟩ := r
            have : h'[a]? = h[a]? := k a (by cases o with
              | true => exact .inr (by rw [(show ∀ b, f b = (if b = a then 1 else 0) + g b from w) a, if_pos rfl]; omega)
              | false => exact .inl (show Z a ∧ isZ f ∧ isZ g from w).1)
            rw [ed]; simp only [kidsD, this]
          | dic o ks vs =>
            obtain ⟨a, ds, g, kk, ed, eh, _, _, _, _, _, w⟩ := r
            have : h'[a]? = h[a]? := k a (by cases o with
              | true => exact .inr (by rw [(show ∀ b, f b = (if b = a then 1 else 0) + g b from w) a, if_pos rfl]; omega)
              | false => exact .inl (show Z a ∧ isZ f ∧ isZ g from w).1)
            rw [ed]; simp only [kidsD, this]
          | ins o c ns vs =>
            obtain ⟨a, ds, g, ed, eh, _, _, w⟩ := r
            have : h'[a]? = h[a]? := k a (by cases o with
              | true => exact .inr (by rw [(show ∀ b, f b = (if b = a then 1 else 0) + g b from w) a, if_pos rfl]; omega)
              | false => exact .inl (show Z a ∧ isZ f ∧ isZ g from w).1)
            rw [ed]; simp only [kidsD, this]
          | _ => simp [V.kids] at q
        show ((kidsD h' d)[i]?.bind fun e => getD h' e p) = ((kidsD h d)[i]?.bind fun e => getD h e p)
        rw [same, h1]
        exact ih h2 e' fun a q => k a (q.imp id fun q => by have := h3 a; omega)
  exact this r e k
theorem getP_snoc : ∀ {p : List Nat} {v w x : V} {j : Nat}, getP v p = some w → w.kids[j]? = some x → getP v (p ++ [j]) = some x
  | [], v, w, x, j, e, q => by
    have e' : v = w := Option.some.inj e
    subst e'
    show (v.kids[j]?.bind fun w => getP w []) = _
    rw [q]; rfl
  | i :: p, v, w, x, j, e, q => by
    have e' : (v.kids[i]?.bind fun w => getP w p) = some w := e
    cases c : v.kids[i]? with
    | none => rw [c] at e'; cases e'
    | some y =>
      rw [c] at e'
      show (v.kids[i]?.bind fun w => getP w (p ++ [j])) = _
      rw [c]
      exact getP_snoc (p := p) e' q
theorem getD_snoc : ∀ {p : List Nat} {d e x : D} {j : Nat}, getD h d p = some e → (kidsD h e)[j]? = some x → getD h d (p ++ [j]) = some x
  | [], d, e, x, j, q, c => by
    have q' : d = e := Option.some.inj q
    subst q'
    show ((kidsD h d)[j]?.bind fun e => getD h e []) = _
    rw [c]; rfl
  | i :: p, d, e, x, j, q, c => by
    have q' : ((kidsD h d)[i]?.bind fun e => getD h e p) = some e := q
    cases z : (kidsD h d)[i]? with
    | none => rw [z] at q'; cases q'
    | some y =>
      rw [z] at q'
      show ((kidsD h d)[i]?.bind fun e => getD h e (p ++ [j])) = _
      rw [z]
      exact getD_snoc (p := p) q' c
/-! ### something new, or nothing owned -/
/-- x is told, in h and new objects; v stands for it -/
def Nw (Z : Nat → Prop) (h : Hh) (v : V) (r : R D) : Prop := ∃ (x : D) (t : Hh) (k : Cnt), r = .ok x (h ++ t) ∧ Rep Z (h ++ t) v x k ∧ ∀ b, k b ≤ 1 ∧ (k b ≠ 0 → h.length ≤ b ∧ b < (h ++ t).length)
theorem Nw.same {v : V} {x : D} {k : Cnt} (r : Rep Z h v x k) (z : isZ k) : Nw Z h v (.ok x h) := ⟨x, [], k, by rw [List.append_nil], by rw [List.append_nil]; exact r, fun b => ⟨by rw [z b]; omega, fun q => absurd (z b) q⟩⟩
theorem Nw.bl {b : Bool} : Nw Z h (.bl b) (.ok (.bl b) h) := .same (k := fun _ => 0) ⟨rfl, fun _ => rfl⟩ fun _ => rfl
theorem Nw.int {b : Int} : Nw Z h (.int b) (.ok (.int b) h) := .same (k := fun _ => 0) ⟨rfl, fun _ => rfl⟩ fun _ => rfl
theorem Nw.str {b : Str} : Nw Z h (.str b) (.ok (.str b) h) := .same (k := fun _ => 0) ⟨rfl, fun _ => rfl⟩ fun _ => rfl
theorem Nw.non : Nw Z h .non (.ok .non h) := .same (k := fun _ => 0) ⟨rfl, fun _ => rfl⟩ fun _ => rfl
theorem get_end {o : O} : (h ++ [o])[h.length]? = some o := by rw [List.getElem?_append_right (Nat.le_refl _), Nat.sub_self]; rfl
/-- a list of frozen things -/
theorem Nw.lst {xs : List V} {ds : List D} {k : Cnt} (hZ : ∀ a, Z a → a < h.length) (r : RepL Z h xs ds k) (z : isZ k) : Nw Z h (.lst true xs) (R.new (.lst ds) h) := by
  refine ⟨.ref h.length, [.lst ds], fun b => if b = h.length then 1 else 0, rfl, ⟨h.length, ds, k, rfl, get_end, r.frame (fun _ z => z) (fun a q => ?_), fun b => by rw [z b]; rfl⟩, fun b => ?_⟩
  · rcases q with q | q
    · exact List.getElem?_append_left (hZ a q)
    · exact absurd (z a) q
  · dsimp only
    by_cases c : b = h.length
    · rw [if_pos c]; exact ⟨Nat.le_refl _, fun _ => ⟨by omega, by rw [c, List.length_append]; show _ < _ + 1; omega⟩⟩
    · rw [if_neg c]; exact ⟨by omega, fun q => absurd rfl q⟩
theorem Nw.dic {ks vs : List V} {kvs : List (D × D)} {k m : Cnt} (hZ : ∀ a, Z a → a < h.length) (nd : (kvs.map fun p => keyD p.1).Nodup) (kd : ∀ p ∈ kvs, (keyD p.1).isSome = true) (r1 : RepL Z h ks (kvs.map (·.1)) k) (z1 : isZ k) (r : RepL Z h vs (kvs.map (·.2)) m) (z : isZ m) : Nw Z h (.dic true ks vs) (R.new (.dic kvs) h) := by
  refine ⟨.ref h.length, [.dic kvs], fun b => if b = h.length then 1 else 0, rfl, ⟨h.length, kvs, m, k, rfl, get_end, nd, kd, z1, r1.frame (fun _ z => z) (fun a q => ?_), r.frame (fun _ z => z) (fun a q => ?_), fun b => by rw [z b]; rfl⟩, fun b => ?_⟩
  · rcases q with q | q
    · exact List.getElem?_append_left (hZ a q)
    · exact absurd (z1 a) q
  · rcases q with q | q
    · exact List.getElem?_append_left (hZ a q)
    · exact absurd (z a) q
  · dsimp only
    by_cases c : b = h.length
    · rw [if_pos c]; exact ⟨Nat.le_refl _, fun _ => ⟨by omega, by rw [c, List.length_append]; show _ < _ + 1; omega⟩⟩
    · rw [if_neg c]; exact ⟨by omega, fun q => absurd rfl q⟩
/-! ### equality -/
theorem eqVL_len {p : V → V → Option Bool} {q : D → D → Option Bool} : ∀ {xs ys : List V} {ds es : List D} {f g : Cnt} {b : Bool}, RepL Z h xs ds f → RepL Z h ys es g → (∀ {v w : V} {d e : D} {f g : Cnt} {b : Bool}, Rep Z h v d f → Rep Z h w e g → p v w = some b → q d e = some b) → eqVL p xs ys = some b → eqL q ds es = some b
  | [], ys, ds, es, f, g, b, r1, r2, k, e => by
    rw [r1.1]
    cases ys <;> exact e
  | x :: xs, [], ds, es, f, g, b, ⟨d, ds', f1, f2, ed, a1, a2, s⟩, r2, k, e => by
    rw [r2.1, ed]; exact e
  | x :: xs, y :: ys, ds, es, f, g, b, ⟨d, ds', f1, f2, ed, a1, a2, s⟩, ⟨d2, es', g1, g2, ee, b1, b2, s2⟩, k, e => by
    rw [ed, ee]
    have e' : (match p x y, eqVL p xs ys with
      | some a, some b => some (a && b)
      | _, _ => none) = some b := e
    cases q1 : p x y with
    | none => rw [q1] at e'; cases e'
    | some c1 =>
      cases q2 : eqVL p xs ys with
      | none => rw [q1, q2] at e'; cases e'
      | some c2 =>
        rw [q1, q2] at e'
        show (match q d d2, eqL q ds' es' with
          | some a, some b => some (a && b)
          | _, _ => none) = _
        rw [k a1 b1 q1, eqVL_len a2 b2 k q2]
        exact e'
theorem eqVL_refl {p : V → V → Option Bool} : ∀ {xs ys : List V} {ds : List D} {f g : Cnt} {b : Bool}, RepL Z h xs ds f → RepL Z h ys ds g → (∀ {v w : V} {d : D} {f g : Cnt} {b : Bool}, Rep Z h v d f → Rep Z h w d g → p v w = some b → b = true) → eqVL p xs ys = some b → b = true
  | [], ys, ds, f, g, b, r1, r2, k, e => by cases ys <;> exact (Option.some.inj e).symm
  | x :: xs, [], ds, f, g, b, ⟨d, ds', f1, f2, ed, a1, a2, s⟩, r2, k, e => by rw [r2.1] at ed; cases ed
  | x :: xs, y :: ys, ds, f, g, b, ⟨d, ds', f1, f2, ed, a1, a2, s⟩, ⟨d2, es', g1, g2, ee, b1, b2, s2⟩, k, e => by
    rw [ed] at ee
    obtain ⟨rfl, rfl⟩ := List.cons.inj ee
    have e' : (match p x y, eqVL p xs ys with
      | some a, some b => some (a && b)
      | _, _ => none) = some b := e
    cases q1 : p x y with
    | none => rw [q1] at e'; cases e'
    | some c1 =>
      cases q2 : eqVL p xs ys with
      | none => rw [q1, q2] at e'; cases e'
      | some c2 =>
        rw [q1, q2] at e'
        rw [k a1 b1 q1, eqVL_refl a2 b2 k q2] at e'
        exact (Option.some.inj e').symm
theorem eqV_refl : ∀ (n : Nat) {v w : V} {d : D} {f g : Cnt} {b : Bool}, Rep Z h v d f → Rep Z h w d g → eqV n v w = some b → b = true
  | 0, v, w, d, f, g, b, r1, r2, e => by cases e
  | n + 1, v, w, d, f, g, b, r1, r2, e => by
    cases v with
    | non => cases w <;> first | exact (Option.some.inj e).symm | (exfalso; obtain ⟨e1, _⟩ := r1; subst e1; first | (obtain ⟨e2, _⟩ := r2; cases e2; done) | (obtain ⟨_, e2, _⟩ := r2; cases e2; done) | (obtain ⟨_, _, _, e2, _⟩ := r2; cases e2; done) | (obtain ⟨_, _, _, _, e2, _⟩ := r2; cases e2; done))
    | bl i => cases w <;> first | (obtain ⟨e1, _⟩ := r1; subst e1; obtain ⟨e2, _⟩ := r2; cases e2; rw [← Option.some.inj e]; exact beq_self_eq_true _) | (exfalso; obtain ⟨e1, _⟩ := r1; subst e1; first | (obtain ⟨e2, _⟩ := r2; cases e2; done) | (obtain ⟨_, e2, _⟩ := r2; cases e2; done) | (obtain ⟨_, _, _, e2, _⟩ := r2; cases e2; done) | (obtain ⟨_, _, _, _, e2, _⟩ := r2; cases e2; done))
    | int i => cases w <;> first | (obtain ⟨e1, _⟩ := r1; subst e1; obtain ⟨e2, _⟩ := r2; cases e2; rw [← Option.some.inj e]; exact beq_self_eq_true _) | (exfalso; obtain ⟨e1, _⟩ := r1; subst e1; first | (obtain ⟨e2, _⟩ := r2; cases e2; done) | (obtain ⟨_, e2, _⟩ := r2; cases e2; done) | (obtain ⟨_, _, _, e2, _⟩ := r2; cases e2; done) | (obtain ⟨_, _, _, _, e2, _⟩ := r2; cases e2; done))
    | str i => cases w <;> first | (obtain ⟨e1, _⟩ := r1; subst e1; obtain ⟨e2, _⟩ := r2; cases e2; rw [← Option.some.inj e]; exact beq_self_eq_true _) | (exfalso; obtain ⟨e1, _⟩ := r1; subst e1; first | (obtain ⟨e2, _⟩ := r2; cases e2; done) | (obtain ⟨_, e2, _⟩ := r2; cases e2; done) | (obtain ⟨_, _, _, e2, _⟩ := r2; cases e2; done) | (obtain ⟨_, _, _, _, e2, _⟩ := r2; cases e2; done))
    | tup xs =>
      obtain ⟨ds, e1, a⟩ := r1
      subst e1
      cases w with
      | tup ys =>
        obtain ⟨es, e2, c⟩ := r2
        cases e2
        have e' : ((eqVL (eqV n) xs ys).map fun b => b && xs.length == ys.length) = some b := e
        cases q : eqVL (eqV n) xs ys with
        | none => rw [q] at e'; cases e'
        | some b2 =>
          rw [q] at e'
          have l : xs.length = ys.length := by rw [← a.length, ← c.length]
          have := eqVL_refl a c (fun r1 r2 e => eqV_refl n r1 r2 e) q
          rw [this] at e'
          rw [← Option.some.inj e', l]
          simp
      | _ => exfalso; first | (obtain ⟨e2, _⟩ := r2; cases e2; done) | (obtain ⟨_, e2, _⟩ := r2; cases e2; done) | (obtain ⟨_, _, _, e2, _⟩ := r2; cases e2; done) | (obtain ⟨_, _, _, _, e2, _⟩ := r2; cases e2; done)
    | lck xs => cases w <;> cases e
    | lst o xs =>
      obtain ⟨a, ds, k, e1, eh, r, _⟩ := r1
      subst e1
      cases w with
      | lst o2 ys =>
        obtain ⟨a2, ds2, k2, e2, eh2, r2, _⟩ := r2
        cases e2
        rw [eh] at eh2
        cases eh2
        have l : xs.length = ys.length := by rw [← r.length, ← r2.length]
        have e' : (if xs.length = ys.length then eqVL (eqV n) xs ys else some false) = some b := e
        rw [if_pos l] at e'
        exact eqVL_refl r r2 (fun r1 r2 e => eqV_refl n r1 r2 e) e'
      | dic o2 ks vs =>
        obtain ⟨a2, ds2, k2, kk, e2, eh2, _⟩ := r2
        cases e2
        rw [eh] at eh2; cases eh2
      | ins o2 c ns vs => cases e
      | lck ys => cases e
      | _ => exfalso; first | (obtain ⟨e2, _⟩ := r2; cases e2; done) | (obtain ⟨_, e2, _⟩ := r2; cases e2; done)
    | dic o ks vs =>
      obtain ⟨a, ds, k, kk, e1, eh, _⟩ := r1
      subst e1
      cases w with
      | lst o2 ys =>
        obtain ⟨a2, ds2, k2, e2, eh2, r2, _⟩ := r2
        cases e2
        rw [eh] at eh2; cases eh2
      | dic o2 ks vs => cases e
      | ins o2 c ns vs => cases e
      | lck ys => cases e
      | _ => exfalso; first | (obtain ⟨e2, _⟩ := r2; cases e2; done) | (obtain ⟨_, e2, _⟩ := r2; cases e2; done)
    | ins o c ns vs => cases w <;> cases e
theorem eq_ok : ∀ (n : Nat) {v w : V} {d e : D} {f g : Cnt} {b : Bool}, Rep Z h v d f → Rep Z h w e g → eqV n v w = some b → eqD h n d e = some b
  | 0, v, w, d, e, f, g, b, r1, r2, q => by cases q
  | n + 1, v, w, d, e, f, g, b, r1, r2, q => by
    have obj : ∀ {a : Nat} {o : O}, h[a]? = some o → o.plain = true → (h[a]?.map O.plain) = some true := fun e p => by rw [e]; exact congrArg some p
    cases v with
    | lck xs => cases w <;> cases q
    | ins o c ns vs => cases w <;> cases q
    | tup xs =>
      obtain ⟨ds, e1, a⟩ := r1
      subst e1
      cases w with
      | tup ys =>
        obtain ⟨es, e2, c⟩ := r2
        subst e2
        have q' : ((eqVL (eqV n) xs ys).map fun b => b && xs.length == ys.length) = some b := q
        show ((eqL (eqD h n) ds es).map fun b => b && ds.length == es.length) = some b
        cases z : eqVL (eqV n) xs ys with
        | none => rw [z] at q'; cases q'
        | some b2 =>
          rw [z] at q'
          rw [eqVL_len a c (fun r1 r2 e => eq_ok n r1 r2 e) z, a.length, c.length]
          exact q'
      | lst o2 ys =>
        obtain ⟨a2, ds2, k2, e2, eh2, r2, _⟩ := r2
        subst e2
        show (if (h[a2]?.map O.plain) = some true then some false else none) = _
        rw [if_pos (obj eh2 rfl)]; exact q
      | dic o2 ks vs =>
        obtain ⟨a2, ds2, k2, kk, e2, eh2, _⟩ := r2
        subst e2
        show (if (h[a2]?.map O.plain) = some true then some false else none) = _
        rw [if_pos (obj eh2 rfl)]; exact q
      | ins o2 c ns vs => cases q
      | lck ys => cases q
      | _ => obtain ⟨e2, _⟩ := r2; subst e2; exact q
    | lst o xs =>
      obtain ⟨a, ds, k, e1, eh, r, _⟩ := id r1
      subst e1
      cases w with
      | lst o2 ys =>
        obtain ⟨a2, ds2, k2, e2, eh2, r3, _⟩ := id r2
        subst e2
        show (if a = a2 then (if (h[a]?.map O.plain) = some true then some true else none) else eqRef (eqD h n) h a a2) = _
        by_cases c : a = a2
        · rw [if_pos c, if_pos (obj eh rfl)]
          subst c
          rw [eqV_refl (n + 1) r1 r2 q]
        · rw [if_neg c]
          unfold eqRef
          rw [eh, eh2]
          have q' : (if xs.length = ys.length then eqVL (eqV n) xs ys else some false) = some b := q
          show (if ds.length = ds2.length then eqL (eqD h n) ds ds2 else some false) = _
          rw [r.length, r3.length]
          by_cases l : xs.length = ys.length
          · rw [if_pos l] at q' ⊢
            exact eqVL_len r r3 (fun r1 r2 e => eq_ok n r1 r2 e) q'
          · rw [if_neg l] at q' ⊢; exact q'
      | dic o2 ks vs =>
        obtain ⟨a2, ds2, k2, kk, e2, eh2, _⟩ := r2
        subst e2
        show (if a = a2 then (if (h[a]?.map O.plain) = some true then some true else none) else eqRef (eqD h n) h a a2) = _
        have c : a ≠ a2 := fun z => by subst z; rw [eh] at eh2; cases eh2
        rw [if_neg c]
        unfold eqRef
        rw [eh, eh2]
        exact q
      | tup ys =>
        obtain ⟨es, e2, c⟩ := r2
        subst e2
        show (if (h[a]?.map O.plain) = some true then some false else none) = _
        rw [if_pos (obj eh rfl)]; exact q
      | ins o2 c ns vs => cases q
      | lck ys => cases q
      | _ =>
        obtain ⟨e2, _⟩ := r2; subst e2
        show (if (h[a]?.map O.plain) = some true then some false else none) = _
        rw [if_pos (obj eh rfl)]; exact q
    | dic o ks vs =>
      obtain ⟨a, ds, k, kk, e1, eh, _⟩ := r1
      subst e1
      cases w with
      | lst o2 ys =>
        obtain ⟨a2, ds2, k2, e2, eh2, r3, _⟩ := r2
        subst e2
        show (if a = a2 then (if (h[a]?.map O.plain) = some true then some true else none) else eqRef (eqD h n) h a a2) = _
        have c : a ≠ a2 := fun z => by subst z; rw [eh] at eh2; cases eh2
        rw [if_neg c]
        unfold eqRef
        rw [eh, eh2]
        exact q
      | dic o2 ks vs => cases q
      | tup ys =>
        obtain ⟨es, e2, c⟩ := r2
        subst e2
        show (if (h[a]?.map O.plain) = some true then some false else none) = _
        rw [if_pos (obj eh rfl)]; exact q
      | ins o2 c ns vs => cases q
      | lck ys => cases q
      | _ =>
        obtain ⟨e2, _⟩ := r2; subst e2
        show (if (h[a]?.map O.plain) = some true then some false else none) = _
        rw [if_pos (obj eh rfl)]; exact q
    | _ =>
      obtain ⟨e1, _⟩ := r1
      subst e1
      cases w with
      | lst o2 ys =>
        obtain ⟨a2, ds2, k2, e2, eh2, r3, _⟩ := r2
        subst e2
        show (if (h[a2]?.map O.plain) = some true then some false else none) = _
        rw [if_pos (obj eh2 rfl)]; exact q
      | dic o2 ks vs =>
        obtain ⟨a2, ds2, k2, kk, e2, eh2, _⟩ := r2
        subst e2
        show (if (h[a2]?.map O.plain) = some true then some false else none) = _
        rw [if_pos (obj eh2 rfl)]; exact q
      | tup ys =>
        obtain ⟨es, e2, c⟩ := r2
        subst e2
        exact q
      | ins o2 c ns vs => cases q
      | lck ys => cases q
      | _ => obtain ⟨e2, _⟩ := r2; subst e2; exact q
theorem any_ok {v : V} {d : D} (r : Rep Z h v d f) : ∀ {ys : List V} {es : List D} {g : Cnt} {b : Bool}, RepL Z h ys es g → anyV v ys = some b → anyD h d es = some b
  | [], es, g, b, q, e => by rw [q.1]; exact e
  | y :: ys, es, g, b, ⟨d2, es', g1, g2, ee, b1, b2, s2⟩, e => by
    rw [ee]
    have e' : (match eqV deep y v, anyV v ys with
      | some a, some b => some (a || b)
      | _, _ => none) = some b := e
    show (match eqD h deep d2 d, anyD h d es' with
      | some a, some b => some (a || b)
      | _, _ => none) = _
    cases q1 : eqV deep y v with
    | none => rw [q1] at e'; cases e'
    | some c1 =>
      cases q2 : anyV v ys with
      | none => rw [q1, q2] at e'; cases e'
      | some c2 =>
        rw [q1, q2] at e'
        rw [eq_ok _ b1 r q1, any_ok r b2 q2]
        exact e'
end
end VX
end

section
set_option Elab.async false
set_option linter.all false
set_option maxRecDepth 100000
set_option maxHeartbeats 1000000
/-! VX4: operations. -/
namespace VX
open PySem IX
section
variable {Z Z' Z2 : Nat → Prop} {h h' h2 : Hh} {F G f g : Cnt}
/-! ### dicts -/
theorem key_ok {v : V} {d : D} (r : Rep Z h v d f) : keyD d = keyV v := by
  cases v with
  | tup xs => obtain ⟨ds, e, _⟩ := r; rw [e]; rfl
  | lck xs => obtain ⟨ds, e, _⟩ := r; rw [e]; rfl
  | lst o xs => obtain ⟨a, ds, g, e, _⟩ := r; rw [e]; rfl
  | dic o ks vs => obtain ⟨a, ds, g, k, e, _⟩ := r; rw [e]; rfl
  | ins o c ns vs => obtain ⟨a, ds, g, e, _⟩ := r; rw [e]; rfl
  | _ => obtain ⟨e, _⟩ := r; rw [e]; rfl
theorem place_some {v : V} {d : D} (r : Rep Z h v d f) : ∀ {ks : List V} {kvs : List (D × D)} {k : Cnt} {j : Nat}, RepL Z h ks (kvs.map (·.1)) k → placeV v ks = some j → ∃ k' x, kvs[j]? = some (k', x) ∧ lookD d kvs = some x ∧ keyD k' = keyD d
  | [], _, _, j, _, e => by cases e
  | u :: ks, kvs, k, j, ⟨d0, es, f1, f2, ed, r1, r2, s⟩, e => by
    cases kvs with
    | nil => cases ed
    | cons p kvs =>
      obtain ⟨rfl, rfl⟩ := List.cons.inj ed
      have e' : (if keyV u = keyV v then some 0 else (placeV v ks).map (· + 1)) = some j := e
      show ∃ k' x, _ ∧ (if keyD p.1 = keyD d then some p.2 else lookD d kvs) = some x ∧ _
      rw [← key_ok r, ← key_ok r1] at e'
      by_cases c : keyD p.1 = keyD d
      · rw [if_pos c] at e'
        cases e'
        exact ⟨p.1, p.2, rfl, by rw [if_pos c], c⟩
      · rw [if_neg c] at e'
        cases q : placeV v ks with
        | none => rw [q] at e'; cases e'
        | some i =>
          rw [q] at e'
          cases e'
          obtain ⟨k', x, h1, h2, h3⟩ := place_some r r2 q
          exact ⟨k', x, by simpa using h1, by rw [if_neg c]; exact h2, h3⟩
theorem place_none {v : V} {d : D} (r : Rep Z h v d f) : ∀ {ks : List V} {kvs : List (D × D)} {k : Cnt}, RepL Z h ks (kvs.map (·.1)) k → placeV v ks = none → lookD d kvs = none ∧ ∀ p ∈ kvs, keyD p.1 ≠ keyD d
  | [], kvs, _, r2, e => by
    have : kvs = [] := List.map_eq_nil_iff.mp r2.1
    subst this
    exact ⟨rfl, fun p hp => nomatch hp⟩
  | u :: ks, kvs, k, ⟨d0, es, f1, f2, ed, r1, r2, s⟩, e => by
    cases kvs with
    | nil => cases ed
    | cons p kvs =>
      obtain ⟨rfl, rfl⟩ := List.cons.inj ed
      have e' : (if keyV u = keyV v then some 0 else (placeV v ks).map (· + 1)) = none := e
      rw [← key_ok r, ← key_ok r1] at e'
      by_cases c : keyD p.1 = keyD d
      · rw [if_pos c] at e'; cases e'
      · rw [if_neg c] at e'
        have q : placeV v ks = none := by
          cases q : placeV v ks with
          | none => rfl
          | some i => rw [q] at e'; cases e'
        obtain ⟨h1, h2⟩ := place_none r r2 q
        refine ⟨?_, fun p' hp => ?_⟩
        · show (if keyD p.1 = keyD d then some p.2 else lookD d kvs) = none
          rw [if_neg c]; exact h1
        · rcases List.mem_cons.mp hp with rfl | hp
          · exact c
          · exact h2 p' hp
/-- d[k] = v -/
theorem put_some {k v : D} : ∀ {kvs : List (D × D)} {j : Nat} {k' x : D}, (kvs.map fun p => keyD p.1).Nodup → kvs[j]? = some (k', x) → keyD k' = keyD k → putD k v kvs = kvs.set j (k', v) := fun {kvs j k' x} nd e c => by
  have a : (kvs.any fun p => decide (keyD p.1 = keyD k)) = true := by
    rw [List.any_eq_true]
    exact ⟨(k', x), List.mem_of_getElem? e, decide_eq_true c⟩
  unfold putD
  rw [if_pos a]
  clear a
  induction kvs generalizing j with
  | nil => simp at e
  | cons p kvs ih =>
    rw [List.map_cons, List.nodup_cons] at nd
    cases j with
    | zero =>
      simp only [List.getElem?_cons_zero, Option.some.injEq] at e
      subst e
      rw [List.map_cons, if_pos c, List.set_cons_zero]
      congr 1
      have : ∀ q ∈ kvs, ¬ keyD q.1 = keyD k := fun q hq z => nd.1 (List.mem_map.mpr ⟨q, hq, z.trans c.symm⟩)
      clear ih nd
      induction kvs with
      | nil => rfl
      | cons q kvs ih => rw [List.map_cons, if_neg (this q (List.mem_cons_self ..)), ih fun r hr => this r (List.mem_cons_of_mem _ hr)]
    | succ j =>
      simp only [List.getElem?_cons_succ] at e
      have ne : ¬ keyD p.1 = keyD k := fun z => nd.1 (List.mem_map.mpr ⟨(k', x), List.mem_of_getElem? e, c.trans z.symm⟩)
      rw [List.map_cons, if_neg ne, List.set_cons_succ, ih nd.2 e]
theorem put_none {k v : D} {kvs : List (D × D)} (n : ∀ p ∈ kvs, keyD p.1 ≠ keyD k) : putD k v kvs = kvs ++ [(k, v)] := by
  unfold putD
  rw [if_neg]
  rw [List.any_eq_true]
  rintro ⟨p, hp, z⟩
  exact n p hp (of_decide_eq_true z)
/-! ### operators -/
theorem scal_i {v : V} {i : Int} {d : D} (e : v = .int i) (r : Rep Z h v d f) : d = .int i := by subst e; exact r.1
theorem items_ok {v : V} {d : D} {xs : List V} (r : Rep Z h v d f) (e : itemsV v = some xs) : ∃ ds g, listD d h = some ds ∧ RepL Z h xs ds g := by
  cases v with
  | lck ys => cases e; obtain ⟨ds, e, r, _⟩ := r; rw [e]; exact ⟨ds, _, rfl, r⟩
  | lst o ys =>
    cases e
    obtain ⟨a, ds, g, e, eh, r, _⟩ := r
    refine ⟨ds, g, ?_, r⟩
    rw [e]; show h[a]?.bind O.seq? = _
    rw [eh]; rfl
  | _ => cases e
theorem strV_ok {x : Str} {r : V} (e : strV x = some r) : Nw Z h r (strD x h) := by
  unfold strV at e
  unfold strD
  by_cases c : x.length ≤ line
  · rw [if_pos c] at e ⊢; cases e; exact .str
  · rw [if_neg c] at e; cases e
theorem flat_rep : ∀ {n : Nat} {xs : List V} {ds : List D} {k : Cnt}, RepL Z h xs ds k → isZ k → RepL Z h (List.replicate n xs).flatten (List.replicate n ds).flatten (fun _ => 0)
  | 0, xs, ds, k, r, z => ⟨rfl, fun _ => rfl⟩
  | n + 1, xs, ds, k, r, z => by
    rw [List.replicate_succ, List.replicate_succ, List.flatten_cons, List.flatten_cons]
    exact (r.append (flat_rep r z)).cnt fun b => by rw [z b]
theorem add_ok (hZ : ∀ a, Z a → a < h.length) {v w r : V} {d e : D} (e0 : addV v w = some r) (rv : Rep Z h v d f) (rw_ : Rep Z h w e g) : Nw Z h r (addD d e h) := by
  have byL : ∀ {v w : V} {d e : D} {f g : Cnt}, Rep Z h v d f → Rep Z h w e g → (match itemsV v, itemsV w with
    | some xs, some ys => if xs.length + ys.length ≤ line ∧ (V.fzL xs && V.fzL ys) = true then some (V.lst true (xs ++ ys)) else none
    | _, _ => none) = some r → (addD d e h = match listD d h, listD e h with
    | some xs, some ys => if xs.length + ys.length ≤ line then R.new (.lst (xs ++ ys)) h else .bad
    | _, _ => .bad) → Nw Z h r (addD d e h) := by
    intro v w d e f g rv rw_ e0 e1
    cases q1 : itemsV v with
    | none => rw [q1] at e0; cases e0
    | some xs =>
      cases q2 : itemsV w with
      | none => rw [q1, q2] at e0; cases e0
      | some ys =>
        rw [q1, q2] at e0
        obtain ⟨ds, k1, h1, r1⟩ := items_ok rv q1
        obtain ⟨es, k2, h2, r2⟩ := items_ok rw_ q2
        rw [e1, h1, h2]
        dsimp only at e0 ⊢
        by_cases c : xs.length + ys.length ≤ line ∧ (V.fzL xs && V.fzL ys) = true
        · rw [if_pos c] at e0
          rw [if_pos (by rw [r1.length, r2.length]; exact c.1)]
          cases e0
          have c2 := c.2
          rw [Bool.and_eq_true] at c2
          exact .lst hZ (r1.append r2) fun b => by rw [r1.fz0 c2.1 b, r2.fz0 c2.2 b]
        · rw [if_neg c] at e0; cases e0
  cases v with
  | int i =>
    obtain ⟨e1, _⟩ := id rv
    subst e1
    cases w with
    | int j => obtain ⟨e2, _⟩ := rw_; subst e2; cases e0; exact .int
    | lck ys => cases e0
    | lst o ys => cases e0
    | _ => cases e0
  | str i =>
    obtain ⟨e1, _⟩ := id rv
    subst e1
    cases w with
    | str j => obtain ⟨e2, _⟩ := rw_; subst e2; exact strV_ok e0
    | lck ys => cases e0
    | lst o ys => cases e0
    | _ => cases e0
  | tup xs =>
    obtain ⟨ds, e1, r1⟩ := id rv
    subst e1
    cases w with
    | tup ys =>
      obtain ⟨es, e2, r2⟩ := rw_
      subst e2
      have e' : (if xs.length + ys.length ≤ line ∧ (V.fzL xs && V.fzL ys) = true then some (V.tup (xs ++ ys)) else none) = some r := e0
      show Nw Z h r (if ds.length + es.length ≤ line then R.ok (.tup (ds ++ es)) h else .bad)
      by_cases c : xs.length + ys.length ≤ line ∧ (V.fzL xs && V.fzL ys) = true
      · rw [if_pos c] at e'
        rw [if_pos (by rw [r1.length, r2.length]; exact c.1)]
        cases e'
        have c2 := c.2
        rw [Bool.and_eq_true] at c2
        exact .same ⟨_, rfl, r1.append r2⟩ fun b => by rw [r1.fz0 c2.1 b, r2.fz0 c2.2 b]
      · rw [if_neg c] at e'; cases e'
    | lck ys => cases e0
    | lst o ys => cases e0
    | _ => cases e0
  | lck xs =>
    obtain ⟨ds, e1, r1, _⟩ := id rv
    subst e1
    cases w with
    | lck ys => exact byL rv rw_ e0 rfl
    | lst o ys => obtain ⟨a, es, k, e2, _⟩ := id rw_; subst e2; exact byL rv rw_ e0 rfl
    | _ => cases e0
  | lst o xs =>
    obtain ⟨a, ds, k, e1, _⟩ := id rv
    subst e1
    cases w with
    | lck ys => obtain ⟨es, e2, _⟩ := id rw_; subst e2; exact byL rv rw_ e0 rfl
    | lst o ys => obtain ⟨a, es, k, e2, _⟩ := id rw_; subst e2; exact byL rv rw_ e0 rfl
    | _ => cases e0
  | _ => cases w <;> cases e0
theorem ints_ok {v w r : V} {d e : D} {p : Int → Int → Option V} (e0 : (match v, w with
    | .int i, .int j => p i j
    | _, _ => none) = some r) (rv : Rep Z h v d f) (rw_ : Rep Z h w e g) : ∃ i j, d = .int i ∧ e = .int j ∧ p i j = some r := by
  cases v with
  | int i =>
    cases w with
    | int j => obtain ⟨e1, _⟩ := rv; obtain ⟨e2, _⟩ := rw_; exact ⟨i, j, e1, e2, e0⟩
    | _ => cases e0
  | _ => cases e0
theorem mul_ok (hZ : ∀ a, Z a → a < h.length) {v w r : V} {d e : D} (e0 : mulV v w = some r) (rv : Rep Z h v d f) (rw_ : Rep Z h w e g) : Nw Z h r (mulD d e h) := by
  cases v with
  | int i =>
    cases w with
    | int j =>
      obtain ⟨e1, _⟩ := rv; obtain ⟨e2, _⟩ := rw_
      subst e1 e2
      have e' : (if i.natAbs < 2 ^ 64 ∨ j.natAbs < 2 ^ 64 then some (V.int (i * j)) else none) = some r := e0
      show Nw Z h r (if i.natAbs < 2 ^ 64 ∨ j.natAbs < 2 ^ 64 then R.ok (.int (i * j)) h else .bad)
      by_cases c : i.natAbs < 2 ^ 64 ∨ j.natAbs < 2 ^ 64
      · rw [if_pos c] at e' ⊢; cases e'; exact .int
      · rw [if_neg c] at e'; cases e'
    | _ => cases e0
  | lst o xs =>
    cases w with
    | int k =>
      obtain ⟨a, ds, m, e1, eh, r1, _⟩ := rv; obtain ⟨e2, _⟩ := rw_
      subst e1 e2
      have e' : (if (-(2 ^ 62) ≤ k ∧ k ≤ 2 ^ 62 ∧ xs.length * k.toNat ≤ line) ∧ V.fzL xs = true then some (V.lst true (List.replicate k.toNat xs).flatten) else none) = some r := e0
      show Nw Z h r (match h[a]? with
        | some (.lst xs) => if -(2 ^ 62) ≤ k ∧ k ≤ 2 ^ 62 ∧ xs.length * k.toNat ≤ line then R.new (.lst (List.replicate k.toNat xs).flatten) h else .bad
        | _ => .bad)
      rw [eh]
      dsimp only
      by_cases c : (-(2 ^ 62) ≤ k ∧ k ≤ 2 ^ 62 ∧ xs.length * k.toNat ≤ line) ∧ V.fzL xs = true
      · rw [if_pos c] at e'
        rw [if_pos (by rw [r1.length]; exact c.1)]
        cases e'
        exact .lst hZ (flat_rep r1 (r1.fz0 c.2)) fun _ => rfl
      · rw [if_neg c] at e'; cases e'
    | _ => cases e0
  | _ => cases w <;> cases e0
theorem in_ok {v w : V} {d e : D} {b : Bool} (e0 : inV v w = some b) (rv : Rep Z h v d f) (rw_ : Rep Z h w e g) : inD d e h = some b := by
  cases w with
  | tup ys => obtain ⟨es, e2, r2⟩ := rw_; subst e2; exact any_ok rv r2 e0
  | str z =>
    obtain ⟨e2, _⟩ := rw_; subst e2
    cases v with
    | str a => obtain ⟨e1, _⟩ := rv; subst e1; exact e0
    | _ => cases e0
  | lst o ys =>
    obtain ⟨a, es, k, e2, eh, r2, _⟩ := rw_; subst e2
    show (match h[a]? with
      | some (.lst ys) => anyD h d ys
      | some (.dic kvs) => if (keyD d).isSome then some (lookD d kvs).isSome else none
      | _ => none) = _
    rw [eh]
    exact any_ok rv r2 e0
  | dic o ks vs =>
    obtain ⟨a, kvs, k, kk, e2, eh, nd, kd, zk, rk, r2, _⟩ := rw_; subst e2
    show (match h[a]? with
      | some (.lst ys) => anyD h d ys
      | some (.dic kvs) => if (keyD d).isSome then some (lookD d kvs).isSome else none
      | _ => none) = _
    rw [eh]
    dsimp only
    rw [key_ok rv]
    have e' : (if (keyV v).isSome = true then some (placeV v ks).isSome else none) = some b := e0
    by_cases c : (keyV v).isSome = true
    · rw [if_pos c] at e' ⊢
      rw [← e']
      cases q : placeV v ks with
      | none => rw [(place_none rv rk q).1]; rfl
      | some j => obtain ⟨k', x, _, h2, _⟩ := place_some rv rk q; rw [h2]; rfl
    · rw [if_neg c] at e'; cases e'
  | _ => cases e0
theorem is_ok {v w : V} {d e : D} {b : Bool} (e0 : isV v w = some b) (rv : Rep Z h v d f) (rw_ : Rep Z h w e g) : isD d e = some b := by
  cases w with
  | non =>
    obtain ⟨e2, _⟩ := rw_; subst e2
    cases v with
    | tup xs => obtain ⟨ds, e, _⟩ := rv; rw [e]; exact e0
    | lck xs => obtain ⟨ds, e, _⟩ := rv; rw [e]; exact e0
    | lst o xs => obtain ⟨a, ds, g, e, _⟩ := rv; rw [e]; exact e0
    | dic o ks vs => obtain ⟨a, ds, g, k, e, _⟩ := rv; rw [e]; exact e0
    | ins o c ns vs => obtain ⟨a, ds, g, e, _⟩ := rv; rw [e]; exact e0
    | _ => obtain ⟨e, _⟩ := rv; rw [e]; exact e0
  | bl b =>
    obtain ⟨e2, _⟩ := rw_; subst e2
    cases v with
    | tup xs => obtain ⟨ds, e, _⟩ := rv; rw [e]; exact e0
    | lck xs => obtain ⟨ds, e, _⟩ := rv; rw [e]; exact e0
    | lst o xs => obtain ⟨a, ds, g, e, _⟩ := rv; rw [e]; exact e0
    | dic o ks vs => obtain ⟨a, ds, g, k, e, _⟩ := rv; rw [e]; exact e0
    | ins o c ns vs => obtain ⟨a, ds, g, e, _⟩ := rv; rw [e]; exact e0
    | _ => obtain ⟨e, _⟩ := rv; rw [e]; exact e0
  | _ => cases v <;> cases e0
theorem isDic_ok {v : V} {d : D} (rv : Rep Z h v d f) : isDic h d = isDicV v := by
  cases v with
  | tup xs => obtain ⟨ds, e, _⟩ := rv; rw [e]; rfl
  | lck xs => obtain ⟨ds, e, _⟩ := rv; rw [e]; rfl
  | lst o xs => obtain ⟨a, ds, g, e, eh, _⟩ := rv; rw [e]; simp only [isDic, eh]; rfl
  | dic o ks vs => obtain ⟨a, ds, g, k, e, eh, _⟩ := rv; rw [e]; simp only [isDic, eh]; rfl
  | ins o c ns vs => obtain ⟨a, ds, g, e, eh, _⟩ := rv; rw [e]; simp only [isDic, eh]; rfl
  | _ => obtain ⟨e, _⟩ := rv; rw [e]; rfl
theorem eqT_ok {v w : V} {d e : D} {b : Bool} (e0 : eqV deep v w = some b) (rv : Rep Z h v d f) (rw_ : Rep Z h w e g) : eqT h d e = some b := by
  have q := eq_ok deep rv rw_ e0
  unfold eqT
  split
  · rename_i a b'
    by_cases c : a = b'
    · rw [if_pos c]
      have nd : isDic h (.ref a) = false := by
        rw [isDic_ok rv]
        cases v with
        | dic o ks vs =>
          cases w with
          | dic o2 ks2 vs2 => cases e0
          | lst o2 ys =>
            obtain ⟨a1, ds, g, k, e, eh, _⟩ := rv
            obtain ⟨a2, ds2, g2, e2, eh2, _⟩ := rw_
            cases e; cases e2
            subst c
            rw [eh] at eh2; cases eh2
          | ins o2 c2 ns vs2 => cases e0
          | lck _ => cases e0
          | tup _ => obtain ⟨_, e2, _⟩ := rw_; cases e2
          | _ => obtain ⟨e2, _⟩ := rw_; cases e2
        | _ => rfl
      rw [nd]
      exact q
    · rw [if_neg c]; exact q
  · exact q
theorem eqKV_ok {ks2 vs2 : List V} {kvs2 : List (D × D)} {k2 g2 : Cnt} (rk2 : RepL Z h ks2 (kvs2.map (·.1)) k2) (rv2 : RepL Z h vs2 (kvs2.map (·.2)) g2) :
    ∀ {ks vs : List V} {kvs : List (D × D)} {k g : Cnt} {b : Bool}, RepL Z h ks (kvs.map (·.1)) k → RepL Z h vs (kvs.map (·.2)) g → eqKVV ks2 vs2 ks vs = some b → eqKV (eqD h deep) kvs2 kvs = some b
  | [], vs, kvs, k, g, b, rk, rv, e => by
    have : kvs = [] := List.map_eq_nil_iff.mp rk.1
    subst this
    cases vs with
    | nil => cases e; rfl
    | cons v vs => cases e
  | u :: ks, vs, kvs, k, g, b, ⟨d0, es, f1, f2, ed, r1, r2, s⟩, rv, e => by
    cases kvs with
    | nil => cases ed
    | cons p kvs =>
      obtain ⟨rfl, rfl⟩ := List.cons.inj ed
      cases vs with
      | nil => cases rv.1
      | cons v vs =>
        obtain ⟨d1, es1, f3, f4, ed1, r3, r4, s1⟩ := rv
        obtain ⟨rfl, rfl⟩ := List.cons.inj ed1
        unfold eqKVV at e
        show (match lookD p.1 kvs2 with
          | none => some false
          | some w => match eqD h deep p.2 w, eqKV (eqD h deep) kvs2 kvs with
            | some a, some b => some (a && b)
            | _, _ => none) = some b
        cases q : placeV u ks2 with
        | none =>
          rw [q] at e
          cases e
          rw [(place_none r1 rk2 q).1]
        | some j =>
          rw [q] at e
          obtain ⟨k', x, h1, h2, _⟩ := place_some r1 rk2 q
          rw [h2]
          cases q2 : vs2[j]? with
          | none => simp only [q2] at e; cases e
          | some w =>
            simp only [q2] at e
            obtain ⟨y, k1, k3, g1, g3, _, _⟩ := rv2.get q2
            rw [List.getElem?_map, h1] at g1
            cases g1
            cases q3 : eqV deep v w with
            | none => rw [q3] at e; cases e
            | some a =>
              cases q4 : eqKVV ks2 vs2 ks vs with
              | none => rw [q3, q4] at e; cases e
              | some c =>
                rw [q3, q4] at e
                cases e
                have z1 : eqD h deep p.2 x = some a := eq_ok deep r3 g3 q3
                dsimp only
                rw [z1, eqKV_ok rk2 rv2 r2 r4 q4]
theorem neX_ok {v w : V} {d e : D} {b : Bool} (nd : isDicV v = false ∨ isDicV w = false) (e0 : (if isDicV v || isDicV w then none else (eqV deep v w).map (!·)) = some b) (rv : Rep Z h v d f) (rw_ : Rep Z h w e g) : neTD h d e = some b := by
  have z : neTD h d e = neT h d e := by
    unfold neTD
    have key : ∀ {v : V} {d : D} {f : Cnt}, Rep Z h v d f → isDicV v = false → dicD h d = none := fun {v d f} r q => by
      rw [← isDic_ok r] at q
      cases d with
      | ref a =>
        simp only [isDic, dicD] at q ⊢
        cases eo : h[a]? with
        | none => rfl
        | some o =>
          rw [eo] at q
          cases o with
          | dic _ => cases q
          | _ => rfl
      | _ => rfl
    rcases nd with nd | nd
    · rw [key rv nd]
    · rw [key rw_ nd]
      cases dicD h d <;> rfl
  rw [z]
  unfold neT
  rw [isDic_ok rv, isDic_ok rw_]
  by_cases c : (isDicV v || isDicV w) = true
  · rw [if_pos c] at e0; cases e0
  · rw [if_neg c] at e0 ⊢
    cases q : eqV deep v w with
    | none => rw [q] at e0; cases e0
    | some b' => rw [q] at e0; rw [eqT_ok q rv rw_]; exact e0
theorem ne_ok {v w : V} {d e : D} {b : Bool} (e0 : neV v w = some b) (rv : Rep Z h v d f) (rw_ : Rep Z h w e g) : neTD h d e = some b := by
  cases v with
  | dic o ks vs =>
    cases w with
    | dic o2 ks2 vs2 =>
      obtain ⟨a, kvs, m, kk, e1, eh, nd, kd, zk, rk, r1, ow⟩ := rv
      obtain ⟨a2, kvs2, m2, kk2, e2, eh2, nd2, kd2, zk2, rk2, r2, ow2⟩ := rw_
      subst e1 e2
      have q1 : dicD h (.ref a) = some kvs := by simp only [dicD, eh]
      have q2 : dicD h (.ref a2) = some kvs2 := by simp only [dicD, eh2]
      unfold neTD
      rw [q1, q2]
      have l1 := rk.length
      have l2 := rk2.length
      rw [List.length_map] at l1 l2
      have e0' : (if ks.length = ks2.length then eqKVV ks2 vs2 ks vs else some false).map (!·) = some b := e0
      show (if kvs.length = kvs2.length then eqKV (eqD h deep) kvs2 kvs else some false).map (!·) = some b
      rw [l1, l2]
      by_cases c : ks.length = ks2.length
      · rw [if_pos c] at e0' ⊢
        cases q : eqKVV ks2 vs2 ks vs with
        | none => rw [q] at e0'; cases e0'
        | some b' => rw [q] at e0'; rw [eqKV_ok rk2 r2 rk r1 q]; exact e0'
      · rw [if_neg c] at e0' ⊢; exact e0'
    | _ => exact neX_ok (.inr rfl) (by exact e0) rv rw_
  | _ => exact neX_ok (.inl rfl) (by cases w <;> exact e0) rv rw_
theorem eqTD_ok {v w : V} {d e : D} {b : Bool} (e0 : eqV deep v w = some b) (rv : Rep Z h v d f) (rw_ : Rep Z h w e g) : eqTD h d e = some b := by
  have key : ∀ {v : V} {d : D} {f : Cnt}, Rep Z h v d f → isDicV v = false → dicD h d = none := fun {v d f} r q => by
    rw [← isDic_ok r] at q
    cases d with
    | ref a =>
      simp only [isDic, dicD] at q ⊢
      cases eo : h[a]? with
      | none => rfl
      | some o =>
        rw [eo] at q
        cases o with
        | dic _ => cases q
        | _ => rfl
    | _ => rfl
  have nd : isDicV v = false ∨ isDicV w = false := by
    cases v with
    | dic o ks vs =>
      cases w with
      | dic o2 ks2 vs2 => cases e0
      | _ => exact .inr rfl
    | _ => exact .inl rfl
  have q := eqT_ok e0 rv rw_
  unfold eqTD
  rcases nd with nd | nd
  · rw [key rv nd]; exact q
  · rw [key rw_ nd]
    cases dicD h d <;> exact q
theorem bin_ok (hZ : ∀ a, Z a → a < h.length) {o : Op} {v w r : V} {d e : D} (e0 : binV o v w = some r) (rv : Rep Z h v d f) (rw_ : Rep Z h w e g) : Nw Z h r (binop o d e h) := by
  have cmp : ∀ {p : Int → Int → Bool}, cmpV p v w = some r → Nw Z h r (cmpD p d e h) := fun {p} e0 => by
    obtain ⟨i, j, rfl, rfl, q⟩ := ints_ok (p := fun i j => some (.bl (p i j))) (by unfold cmpV at e0; exact e0) rv rw_
    cases q; exact .bl
  have opt : ∀ {m : Option Bool} {m' : Option Bool}, m.map V.bl = some r → (∀ b, m = some b → m' = some b) → Nw Z h r (bl! m' h) := fun {m m'} e k => by
    cases q : m with
    | none => rw [q] at e; cases e
    | some b => rw [q] at e; cases e; rw [k b q]; exact .bl
  have optn : ∀ {m : Option Bool} {m' : Option Bool}, m.map (fun b => V.bl (!b)) = some r → (∀ b, m = some b → m' = some b) → Nw Z h r (neD m' h) := fun {m m'} e k => by
    cases q : m with
    | none => rw [q] at e; cases e
    | some b => rw [q] at e; cases e; rw [k b q]; exact .bl
  cases o with
  | add => exact add_ok hZ e0 rv rw_
  | sub => obtain ⟨i, j, rfl, rfl, q⟩ := ints_ok (p := fun i j => some (.int (i - j))) e0 rv rw_; cases q; exact .int
  | mul => exact mul_ok hZ e0 rv rw_
  | fdiv =>
    obtain ⟨i, j, rfl, rfl, q⟩ := ints_ok (p := fun i j => if 0 < j ∧ j < 2 ^ 1000 then some (V.int (i / j)) else none) e0 rv rw_
    show Nw Z h r (if 0 < j ∧ j < 2 ^ 1000 then R.ok (.int (i / j)) h else .bad)
    by_cases c : 0 < j ∧ j < 2 ^ 1000
    · rw [if_pos c] at q ⊢; cases q; exact .int
    · rw [if_neg c] at q; cases q
  | mod =>
    obtain ⟨i, j, rfl, rfl, q⟩ := ints_ok (p := fun i j => if 0 < j then some (V.int (i % j)) else none) e0 rv rw_
    show Nw Z h r (if 0 < j then R.ok (.int (i % j)) h else .bad)
    by_cases c : 0 < j
    · rw [if_pos c] at q ⊢; cases q; exact .int
    · rw [if_neg c] at q; cases q
  | pow =>
    obtain ⟨i, j, rfl, rfl, q⟩ := ints_ok (p := fun i j => if 0 ≤ j ∧ j ≤ 1000000 ∧ i.natAbs < 2 ^ 64 then some (V.int (i ^ j.toNat)) else none) e0 rv rw_
    show Nw Z h r (if 0 ≤ j ∧ j ≤ 1000000 ∧ i.natAbs < 2 ^ 64 then R.ok (.int (i ^ j.toNat)) h else .bad)
    by_cases c : 0 ≤ j ∧ j ≤ 1000000 ∧ i.natAbs < 2 ^ 64
    · rw [if_pos c] at q ⊢; cases q; exact .int
    · rw [if_neg c] at q; cases q
  | eq => exact opt e0 fun b q => eqTD_ok q rv rw_
  | ne => exact opt e0 fun b q => ne_ok q rv rw_
  | lt => exact cmp e0
  | le => exact cmp e0
  | gt => exact cmp e0
  | ge => exact cmp e0
  | isin => exact opt e0 fun b q => in_ok q rv rw_
  | notin => exact optn e0 fun b q => in_ok q rv rw_
  | is_ => exact opt e0 fun b q => is_ok q rv rw_
  | isnot => exact optn e0 fun b q => is_ok q rv rw_
theorem truth_ok {v : V} {d : D} {b : Bool} (e0 : truthV v = some b) (rv : Rep Z h v d f) : truth d h = some b := by
  have em : ∀ {xs : List V} {ds : List D} {k : Cnt}, RepL Z h xs ds k → ds.isEmpty = xs.isEmpty := fun {xs ds k} r => by
    have := r.length
    cases xs <;> cases ds <;> simp_all
  cases v with
  | tup xs => obtain ⟨ds, e, r⟩ := rv; rw [e]; show some (!ds.isEmpty) = _; rw [em r]; exact e0
  | lck xs => obtain ⟨ds, e, r, _⟩ := rv; rw [e]; show some (!ds.isEmpty) = _; rw [em r]; exact e0
  | lst o xs => obtain ⟨a, ds, g, e, eh, r, _⟩ := rv; rw [e]; simp only [truth, eh]; rw [em r]; exact e0
  | dic o ks vs =>
    obtain ⟨a, kvs, g, k, e, eh, _, _, _, rk, _⟩ := rv
    rw [e]; simp only [truth, eh]
    have := em rk
    rw [← e0]
    show some (!kvs.isEmpty) = some (!ks.isEmpty)
    rw [← this]
    cases kvs <;> rfl
  | ins o c ns vs => cases e0
  | _ => obtain ⟨e, _⟩ := rv; rw [e]; exact e0
/-- an item: it, and where it stands -/
def Itm (Z : Nat → Prop) (h : Hh) (d : D) (f : Cnt) (j : Nat) (u : V) (r : R D) : Prop := ∃ (x : D) (k : Cnt), r = .ok x h ∧ Rep Z h u x k ∧ (∀ b, k b ≤ f b) ∧ (u.fz = true ∨ (kidsD h d)[j]? = some x)
theorem seqAt_ok {xs : List V} {ds : List D} {i : Int} {j : Nat} {u : V} (e0 : seqAt xs i = some (j, u)) (r : RepL Z h xs ds g) : ∃ x k, L2.atI ds i = some x ∧ ds[j]? = some x ∧ Rep Z h u x k ∧ ∀ b, k b ≤ g b := by
  unfold seqAt at e0
  unfold L2.atI
  rw [r.length]
  cases q : L2.ixN xs.length i with
  | none => rw [q] at e0; cases e0
  | some n =>
    rw [q] at e0
    have e' : (xs[n]?.map fun v => (n, v)) = some (j, u) := e0
    cases q2 : xs[n]? with
    | none => rw [q2] at e'; cases e'
    | some v =>
      rw [q2] at e'
      cases e'
      obtain ⟨x, k, m, h1, h2, h3, _⟩ := r.get q2
      exact ⟨x, k, h1, h1, h2, fun b => by have := h3 b; omega⟩
theorem idx_ok {v w u : V} {d e : D} {j : Nat} (e0 : idxV v w = some (j, u)) (rv : Rep Z h v d f) (rw_ : Rep Z h w e g) : Itm Z h d f j u (idxD d e h) := by
  cases v with
  | tup xs =>
    cases w with
    | int i =>
      obtain ⟨ds, e1, r1⟩ := rv; obtain ⟨e2, _⟩ := rw_
      subst e1 e2
      obtain ⟨x, k, h1, h2, h3, h4⟩ := seqAt_ok e0 r1
      refine ⟨x, k, ?_, h3, h4, .inr h2⟩
      show (match L2.atI ds i with
        | some v => R.ok v h
        | none => .bad) = _
      rw [h1]
    | _ => cases e0
  | lck xs =>
    cases w with
    | int i =>
      obtain ⟨ds, e1, r1, z⟩ := rv; obtain ⟨e2, _⟩ := rw_
      subst e1 e2
      obtain ⟨x, k, h1, h2, h3, h4⟩ := seqAt_ok e0 r1
      refine ⟨x, k, ?_, h3, h4, .inl (h3.z_fz (isZ_le z h4))⟩
      show (match L2.atI ds i with
        | some v => R.ok v h
        | none => .bad) = _
      rw [h1]
    | _ => cases e0
  | str z =>
    cases w with
    | int i =>
      obtain ⟨e1, z1⟩ := rv; obtain ⟨e2, _⟩ := rw_
      subst e1 e2
      have e' : (match L2.atI z.cps.toList i with
        | some c => some (0, V.str ⟨#[c]⟩)
        | none => none) = some (j, u) := e0
      show Itm Z h _ f j u (match L2.atI z.cps.toList i with
        | some c => R.ok (.str ⟨#[c]⟩) h
        | none => .bad)
      cases q : L2.atI z.cps.toList i with
      | none => rw [q] at e'; cases e'
      | some c => rw [q] at e'; cases e'; exact ⟨_, fun _ => 0, rfl, ⟨rfl, fun _ => rfl⟩, fun b => Nat.zero_le _, .inl rfl⟩
    | _ => cases e0
  | lst o xs =>
    cases w with
    | int i =>
      obtain ⟨a, ds, m, e1, eh, r1, ow⟩ := rv; obtain ⟨e2, _⟩ := rw_
      subst e1 e2
      obtain ⟨x, k, h1, h2, h3, h4⟩ := seqAt_ok e0 r1
      refine ⟨x, k, ?_, h3, fun b => ?_, .inr (by simp only [kidsD, eh]; exact h2)⟩
      · show (match h[a]? with
          | some (.lst xs) => match D.int i with
            | .int i => match L2.atI xs i with
              | some v => R.ok v h
              | none => .bad
            | _ => .bad
          | some (.dic kvs) => if (keyD (.int i)).isSome then match lookD (.int i) kvs with
              | some v => .ok v h
              | none => .bad
              else .bad
          | _ => .bad) = _
        rw [eh]
        dsimp only
        rw [h1]
      · cases o with
        | true => have := (show ∀ b, f b = (if b = a then 1 else 0) + m b from ow) b; have := h4 b; omega
        | false => have := (show Z a ∧ isZ f ∧ isZ m from ow).2.2 b; have := h4 b; omega
    | _ => cases e0
  | dic o ks vs =>
    obtain ⟨a, kvs, m, kk, e1, eh, nd, kd, zk, rk, r1, ow⟩ := rv
    subst e1
    have e' : (if (keyV w).isSome = true then match placeV w ks with
        | some j => vs[j]?.map fun v => (j, v)
        | none => none
      else none) = some (j, u) := e0
    have hD : idxD (.ref a) e h = if (keyD e).isSome then match lookD e kvs with
        | some v => .ok v h
        | none => .bad
        else .bad := by
      show (match h[a]? with
          | some (.lst xs) => match e with
            | .int i => match L2.atI xs i with
              | some v => R.ok v h
              | none => .bad
            | _ => .bad
          | some (.dic kvs) => if (keyD e).isSome then match lookD e kvs with
              | some v => .ok v h
              | none => .bad
              else .bad
          | _ => .bad) = _
      rw [eh]
    rw [hD, key_ok rw_]
    by_cases c : (keyV w).isSome = true
    · rw [if_pos c] at e' ⊢
      cases q : placeV w ks with
      | none => rw [q] at e'; cases e'
      | some n =>
        rw [q] at e'
        obtain ⟨k', x, h1, h2, _⟩ := place_some rw_ rk q
        cases q2 : vs[n]? with
        | none => simp only [q2, Option.map_none] at e'; cases e'
        | some u' =>
          simp only [q2, Option.map_some, Option.some.injEq, Prod.mk.injEq] at e'
          obtain ⟨rfl, rfl⟩ := e'
          obtain ⟨y, k1, k2, g1, g2, g3, _⟩ := r1.get q2
          rw [List.getElem?_map, h1] at g1
          cases g1
          refine ⟨x, k1, by rw [h2], g2, fun b => ?_, .inr (by simp only [kidsD, eh, List.getElem?_map, h1]; rfl)⟩
          cases o with
          | true => have := (show ∀ b, f b = (if b = a then 1 else 0) + m b from ow) b; have := g3 b; omega
          | false => have := (show Z a ∧ isZ f ∧ isZ m from ow).2.2 b; have := g3 b; omega
    · rw [if_neg c] at e'; cases e'
  | _ => cases e0
theorem fldAt_ok {n : Str} : ∀ {fs : List (Str × D)} {j : Nat}, fldAt n (fs.map (·.1)) = some j → ∃ x, fs[j]? = some (n, x) ∧ fs.lookup n = some x ∧ ∀ v, putF n v fs = fs.set j (n, v)
  | [], j, e => by cases e
  | p :: fs, j, e => by
    have e' : (if p.1 = n then some 0 else (fldAt n (fs.map (·.1))).map (· + 1)) = some j := e
    by_cases c : p.1 = n
    · rw [if_pos c] at e'
      cases e'
      subst c
      exact ⟨p.2, rfl, by rw [List.lookup_cons]; simp, fun v => by show (if p.1 = p.1 then (p.1, v) :: fs else _) = _; rw [if_pos rfl]; rfl⟩
    · rw [if_neg c] at e'
      cases q : fldAt n (fs.map (·.1)) with
      | none => rw [q] at e'; cases e'
      | some i =>
        rw [q] at e'
        cases e'
        obtain ⟨x, h1, h2, h3⟩ := fldAt_ok q
        refine ⟨x, by simpa using h1, ?_, fun v => ?_⟩
        · rw [List.lookup_cons]
          have : (n == p.1) = false := by
            cases z : (n == p.1) with
            | false => rfl
            | true => exact absurd (eq_of_beq z).symm c
          rw [this]; exact h2
        · show (if p.1 = n then _ else p :: putF n v fs) = _
          rw [if_neg c, h3]; rfl
theorem fldAt_no {n : Str} : ∀ {fs : List (Str × D)}, fldAt n (fs.map (·.1)) = none → ∀ v, putF n v fs = fs ++ [(n, v)]
  | [], e, v => rfl
  | p :: fs, e, v => by
    have e' : (if p.1 = n then some 0 else (fldAt n (fs.map (·.1))).map (· + 1)) = none := e
    by_cases c : p.1 = n
    · rw [if_pos c] at e'; cases e'
    · rw [if_neg c] at e'
      have q : fldAt n (fs.map (·.1)) = none := by
        cases q : fldAt n (fs.map (·.1)) with
        | none => rfl
        | some i => rw [q] at e'; cases e'
      show (if p.1 = n then _ else p :: putF n v fs) = _
      rw [if_neg c, fldAt_no q]; rfl
theorem fld_ok {v u : V} {d : D} {j : Nat} {n : Str} (e0 : fldV v n = some (j, u)) (rv : Rep Z h v d f) : Itm Z h d f j u (fldD d n h) := by
  cases v with
  | ins o c ns vs =>
    obtain ⟨a, fs, m, e1, eh, en, r1, ow⟩ := rv
    subst e1 en
    have e' : (match fldAt n (fs.map (·.1)) with
      | some j => vs[j]?.map fun v => (j, v)
      | none => none) = some (j, u) := e0
    cases q : fldAt n (fs.map (·.1)) with
    | none => rw [q] at e'; cases e'
    | some i =>
      rw [q] at e'
      obtain ⟨x, h1, h2, _⟩ := fldAt_ok q
      cases q2 : vs[i]? with
      | none => simp only [q2, Option.map_none] at e'; cases e'
      | some u' =>
        simp only [q2, Option.map_some, Option.some.injEq, Prod.mk.injEq] at e'
        obtain ⟨rfl, rfl⟩ := e'
        obtain ⟨y, k1, k2, g1, g2, g3, _⟩ := r1.get q2
        rw [List.getElem?_map, h1] at g1
        cases g1
        refine ⟨x, k1, ?_, g2, fun b => ?_, .inr (by simp only [kidsD, eh, List.getElem?_map, h1]; rfl)⟩
        · show (match h[a]? with
            | some (.ins _ fs) => match fs.lookup n with
              | some v => R.ok v h
              | none => .bad
            | _ => .bad) = _
          rw [eh]; dsimp only; rw [h2]
        cases o with
        | true => have := (show ∀ b, f b = (if b = a then 1 else 0) + m b from ow) b; have := g3 b; omega
        | false => have := (show Z a ∧ isZ f ∧ isZ m from ow).2.2 b; have := g3 b; omega
  | _ => cases e0
theorem cut_rep {xs : List V} {ds : List D} {k : Cnt} (r : RepL Z h xs ds k) (z : isZ k) (lo hi : Option Int) : RepL Z h (cutV xs lo hi) (cutD ds lo hi) (fun _ => 0) := by
  unfold cutV cutD
  rw [r.length]
  exact (r.drop z _).take (fun _ => rfl) _
theorem slc_ok (hZ : ∀ a, Z a → a < h.length) {v r : V} {d : D} {lo hi : Option Int} (e0 : slcV v lo hi = some r) (rv : Rep Z h v d f) : Nw Z h r (slcD d lo hi h) := by
  cases v with
  | tup xs =>
    obtain ⟨ds, e1, r1⟩ := rv
    subst e1
    have e' : (if V.fzL xs = true then some (V.tup (cutV xs lo hi)) else none) = some r := e0
    by_cases c : V.fzL xs = true
    · rw [if_pos c] at e'; cases e'
      exact .same ⟨_, rfl, cut_rep r1 (r1.fz0 c) lo hi⟩ fun _ => rfl
    · rw [if_neg c] at e'; cases e'
  | str z => obtain ⟨e1, _⟩ := rv; subst e1; cases e0; exact .str
  | lck xs =>
    obtain ⟨ds, e1, r1, z⟩ := rv
    subst e1
    have e' : (if V.fzL xs = true then some (V.lst true (cutV xs lo hi)) else none) = some r := e0
    by_cases c : V.fzL xs = true
    · rw [if_pos c] at e'; cases e'
      exact .lst hZ (cut_rep r1 (r1.fz0 c) lo hi) fun _ => rfl
    · rw [if_neg c] at e'; cases e'
  | lst o xs =>
    obtain ⟨a, ds, m, e1, eh, r1, _⟩ := rv
    subst e1
    have e' : (if V.fzL xs = true then some (V.lst true (cutV xs lo hi)) else none) = some r := e0
    by_cases c : V.fzL xs = true
    · rw [if_pos c] at e'; cases e'
      show Nw Z h _ (match listD (.ref a) h with
        | some xs => R.new (.lst (cutD xs lo hi)) h
        | none => .bad)
      rw [show listD (.ref a) h = some ds by show h[a]?.bind O.seq? = _; rw [eh]; rfl]
      exact .lst hZ (cut_rep r1 (r1.fz0 c) lo hi) fun _ => rfl
    · rw [if_neg c] at e'; cases e'
  | _ => cases e0
theorem rev_ok (hZ : ∀ a, Z a → a < h.length) {v r : V} {d : D} (e0 : revV v = some r) (rv : Rep Z h v d f) : Nw Z h r (revD d h) := by
  cases v with
  | tup xs =>
    obtain ⟨ds, e1, r1⟩ := rv
    subst e1
    have e' : (if V.fzL xs = true then some (V.tup xs.reverse) else none) = some r := e0
    by_cases c : V.fzL xs = true
    · rw [if_pos c] at e'; cases e'
      exact .same ⟨_, rfl, r1.rev (r1.fz0 c)⟩ fun _ => rfl
    · rw [if_neg c] at e'; cases e'
  | lck xs =>
    obtain ⟨ds, e1, r1, z⟩ := rv
    subst e1
    have e' : (if V.fzL xs = true then some (V.lst true xs.reverse) else none) = some r := e0
    by_cases c : V.fzL xs = true
    · rw [if_pos c] at e'; cases e'
      exact .lst hZ (r1.rev (r1.fz0 c)) fun _ => rfl
    · rw [if_neg c] at e'; cases e'
  | lst o xs =>
    obtain ⟨a, ds, m, e1, eh, r1, _⟩ := rv
    subst e1
    have e' : (if V.fzL xs = true then some (V.lst true xs.reverse) else none) = some r := e0
    by_cases c : V.fzL xs = true
    · rw [if_pos c] at e'; cases e'
      show Nw Z h _ (match listD (.ref a) h with
        | some xs => R.new (.lst xs.reverse) h
        | none => .bad)
      rw [show listD (.ref a) h = some ds by show h[a]?.bind O.seq? = _; rw [eh]; rfl]
      exact .lst hZ (r1.rev (r1.fz0 c)) fun _ => rfl
    · rw [if_neg c] at e'; cases e'
  | _ => cases e0
theorem isTy_ok {v : V} {d : D} {t : Ty} {b : Bool} (e0 : isTyV v t = some b) (rv : Rep Z h v d f) : isTy d h t = some b := by
  cases v with
  | tup xs => obtain ⟨ds, e, _⟩ := rv; rw [e]; exact e0
  | lck xs => obtain ⟨ds, e, _⟩ := rv; rw [e]; exact e0
  | lst o xs => obtain ⟨a, ds, g, e, eh, _⟩ := rv; rw [e]; simp only [isTy, eh]; exact e0
  | dic o ks vs => obtain ⟨a, ds, g, k, e, eh, _⟩ := rv; rw [e]; simp only [isTy, eh]; exact e0
  | ins o c ns vs => cases e0
  | _ => obtain ⟨e, _⟩ := rv; rw [e]; exact e0
theorem isAny_ok {v : V} {d : D} (rv : Rep Z h v d f) : ∀ {ts : List Ty} {b : Bool}, isAnyV v ts = some b → isAny d h ts = some b
  | [], b, e => e
  | t :: ts, b, e => by
    have e' : (match isTyV v t, isAnyV v ts with
      | some a, some b => some (a || b)
      | _, _ => none) = some b := e
    show (match isTy d h t, isAny d h ts with
      | some a, some b => some (a || b)
      | _, _ => none) = _
    cases q1 : isTyV v t with
    | none => rw [q1] at e'; cases e'
    | some c1 =>
      cases q2 : isAnyV v ts with
      | none => rw [q1, q2] at e'; cases e'
      | some c2 =>
        rw [q1, q2] at e'
        rw [isTy_ok q1 rv, isAny_ok rv q2]
        exact e'
theorem all_ok : ∀ {xs : List V} {ds : List D} {k : Cnt} {b : Bool}, RepL Z h xs ds k → allV xs = some b → allBl ds = some b
  | [], ds, k, b, r, e => by rw [r.1]; exact e
  | x :: xs, ds, k, b, ⟨d, es, f1, f2, ed, r1, r2, s⟩, e => by
    cases x with
    | bl c =>
      obtain ⟨e1, _⟩ := r1
      subst ed e1
      have e' : (allV xs).map (fun d => c && d) = some b := e
      show (allBl es).map (fun d => c && d) = _
      cases q : allV xs with
      | none => rw [q] at e'; cases e'
      | some b' => rw [q] at e'; rw [all_ok r2 q]; exact e'
    | _ => cases e
theorem strs_ok : ∀ {xs : List V} {ds : List D} {k : Cnt} {b : List Str}, RepL Z h xs ds k → strsV xs = some b → strsD ds = some b
  | [], ds, k, b, r, e => by rw [r.1]; exact e
  | x :: xs, ds, k, b, ⟨d, es, f1, f2, ed, r1, r2, s⟩, e => by
    cases x with
    | str c =>
      obtain ⟨e1, _⟩ := r1
      subst ed e1
      have e' : (strsV xs).map (fun d => c :: d) = some b := e
      show (strsD es).map (fun d => c :: d) = _
      cases q : strsV xs with
      | none => rw [q] at e'; cases e'
      | some b' => rw [q] at e'; rw [strs_ok r2 q]; exact e'
    | _ => cases e
theorem intsL_ok : ∀ {xs : List V} {ds : List D} {k : Cnt} {b : List Int}, RepL Z h xs ds k → intsV xs = some b → intsD ds = some b
  | [], ds, k, b, r, e => by rw [r.1]; exact e
  | x :: xs, ds, k, b, ⟨d, es, f1, f2, ed, r1, r2, s⟩, e => by
    cases x with
    | int c =>
      obtain ⟨e1, _⟩ := r1
      subst ed e1
      have e' : (intsV xs).map (fun d => c :: d) = some b := e
      show (intsD es).map (fun d => c :: d) = _
      cases q : intsV xs with
      | none => rw [q] at e'; cases e'
      | some b' => rw [q] at e'; rw [intsL_ok r2 q]; exact e'
    | _ => cases e
theorem intsL_no : ∀ {xs : List V} {ds : List D} {k : Cnt}, RepL Z h xs ds k → intsV xs = none → intsD ds = none
  | [], ds, k, r, e => by cases e
  | x :: xs, ds, k, ⟨d, es, f1, f2, ed, r1, r2, s⟩, e => by
    subst ed
    cases x with
    | int c =>
      obtain ⟨e1, _⟩ := r1
      subst e1
      have e' : (intsV xs).map (fun d => c :: d) = none := e
      show (intsD es).map (fun d => c :: d) = _
      cases q : intsV xs with
      | none => rw [intsL_no r2 q]; rfl
      | some b' => rw [q] at e'; cases e'
    | non => obtain ⟨e1, _⟩ := r1; subst e1; rfl
    | bl _ => obtain ⟨e1, _⟩ := r1; subst e1; rfl
    | str _ => obtain ⟨e1, _⟩ := r1; subst e1; rfl
    | tup _ => obtain ⟨ds, e1, _⟩ := r1; subst e1; rfl
    | lck _ => obtain ⟨ds, e1, _⟩ := r1; subst e1; rfl
    | lst _ _ => obtain ⟨a, ds, k, e1, _⟩ := r1; subst e1; rfl
    | dic _ _ _ => obtain ⟨a, kvs, k, kk, e1, _⟩ := r1; subst e1; rfl
    | ins _ _ _ _ => obtain ⟨a, fs, k, e1, _⟩ := r1; subst e1; rfl
theorem ints_rep : ∀ ns : List Int, RepL Z h (ns.map V.int) (ns.map D.int) (fun _ => 0)
  | [] => ⟨rfl, fun _ => rfl⟩
  | n :: ns => ⟨_, _, fun _ => 0, fun _ => 0, rfl, ⟨rfl, fun _ => rfl⟩, ints_rep ns, fun _ => rfl⟩
theorem strs_rep : ∀ ys : List Str, RepL Z h (ys.map V.str) (ys.map D.str) (fun _ => 0)
  | [] => ⟨rfl, fun _ => rfl⟩
  | y :: r => ⟨.str y, _, fun _ => 0, fun _ => 0, rfl, ⟨rfl, fun _ => rfl⟩, strs_rep r, fun _ => rfl⟩
theorem listD_of {v : V} {d : D} {xs : List V} (r : Rep Z h v d f) (e : itemsV v = some xs) (c : V.fzL xs = true) : ∃ ds, listD d h = some ds ∧ RepL Z h xs ds (fun _ => 0) := by
  obtain ⟨ds, g, h1, h2⟩ := items_ok r e
  exact ⟨ds, h1, h2.cnt fun b => (h2.fz0 c b).symm⟩
end
end VX
end

section
set_option Elab.async false
set_option linter.all false
set_option maxRecDepth 100000
set_option maxHeartbeats 2000000
/-! VX5: built-in functions, methods, stores. -/
namespace VX
open PySem IX
section
variable {Z Z' Z2 : Nat → Prop} {h h' h2 : Hh} {F G f g : Cnt}
theorem RepL.l0 {ds : List D} (r : RepL Z h [] ds f) : ds = [] := r.1
theorem RepL.l1 {x : V} {ds : List D} (r : RepL Z h [x] ds f) : ∃ d, ds = [d] ∧ Rep Z h x d f := by
  obtain ⟨d, es, f1, f2, ed, r1, r2, s⟩ := r
  obtain ⟨e, z⟩ := r2
  subst ed e
  exact ⟨d, rfl, r1.cnt fun b => by rw [s b, z b]; rfl⟩
theorem RepL.l2 {x y : V} {ds : List D} (r : RepL Z h [x, y] ds f) : ∃ d e f1 f2, ds = [d, e] ∧ Rep Z h x d f1 ∧ Rep Z h y e f2 ∧ ∀ b, f b = f1 b + f2 b := by
  obtain ⟨d, es, f1, f2, ed, r1, r2, s⟩ := r
  obtain ⟨e, e2, r3⟩ := r2.l1
  subst ed e2
  exact ⟨d, e, f1, f2, rfl, r1, r3, s⟩
theorem bi_ok (hZ : ∀ a, Z a → a < h.length) {b : Bi} {vs : List V} {r : V} {ds : List D} (e0 : biV b vs = some r) (rv : RepL Z h vs ds f) : Nw Z h r (biD b ds h) := by
  have lstN : ∀ {xs : List V} {ds : List D}, RepL Z h xs ds (fun _ => 0) → Nw Z h (.lst true xs) (R.new (.lst ds) h) := fun r => .lst hZ r fun _ => rfl
  rcases vs with _ | ⟨x, _ | ⟨y, _ | ⟨z, vs⟩⟩⟩
  · rw [rv.l0]
    cases b <;> cases e0
  · obtain ⟨d, e1, r1⟩ := rv.l1
    subst e1
    cases b with
    | len =>
      cases x with
      | str s => obtain ⟨e, _⟩ := r1; subst e; cases e0; exact .int
      | tup xs => obtain ⟨ds, e, r⟩ := r1; subst e; cases e0; rw [← r.length]; exact .int
      | lck xs => obtain ⟨ds, e, r, _⟩ := r1; subst e; cases e0; rw [← r.length]; exact .int
      | lst o xs => obtain ⟨a, ds, k, e, eh, r, _⟩ := r1; subst e; cases e0; rw [← r.length]; simp only [biD, eh]; exact .int
      | dic o ks vs => obtain ⟨a, ds, k, kk, e, eh, _, _, _, rk, _⟩ := r1; subst e; cases e0; simp only [biD, eh]; rw [← rk.length, List.length_map]; exact .int
      | _ => cases e0
    | int =>
      cases x with
      | int s => obtain ⟨e, _⟩ := r1; subst e; cases e0; exact .int
      | bl s => obtain ⟨e, _⟩ := r1; subst e; cases e0; exact .int
      | str s =>
        obtain ⟨e, _⟩ := r1; subst e
        have e' : (match PySem.intText? s with
          | some n => if s.length ≤ 640 then some (V.int n) else none
          | none => none) = some r := e0
        show Nw Z h r (match PySem.intText? s with
          | some n => if s.length ≤ 640 then R.ok (.int n) h else .bad
          | none => .bad)
        cases q : PySem.intText? s with
        | none => rw [q] at e'; cases e'
        | some n =>
          rw [q] at e'
          dsimp only at e' ⊢
          by_cases c : s.length ≤ 640
          · rw [if_pos c] at e' ⊢; cases e'; exact .int
          · rw [if_neg c] at e'; cases e'
      | _ => cases e0
    | str =>
      cases x with
      | int i =>
        obtain ⟨e, _⟩ := r1; subst e
        have e' : (if i.natAbs.log2 < 1920 then strV (toString i) else none) = some r := e0
        show Nw Z h r (if i.natAbs.log2 < 1920 then strD (toString i) h else .bad)
        by_cases c : i.natAbs.log2 < 1920
        · rw [if_pos c] at e' ⊢; exact strV_ok e'
        · rw [if_neg c] at e'; cases e'
      | str s => obtain ⟨e, _⟩ := r1; subst e; cases e0; exact .str
      | _ => cases e0
    | list =>
      cases x with
      | tup xs =>
        obtain ⟨ds, e, r⟩ := r1; subst e
        have e' : (if V.fzL xs = true then some (V.lst true xs) else none) = some _ := e0
        by_cases c : V.fzL xs = true
        · rw [if_pos c] at e'; cases e'; exact lstN (r.cnt fun b => (r.fz0 c b).symm)
        · rw [if_neg c] at e'; cases e'
      | lck xs =>
        obtain ⟨ds, e, r, _⟩ := r1; subst e
        have e' : (if V.fzL xs = true then some (V.lst true xs) else none) = some _ := e0
        by_cases c : V.fzL xs = true
        · rw [if_pos c] at e'; cases e'; exact lstN (r.cnt fun b => (r.fz0 c b).symm)
        · rw [if_neg c] at e'; cases e'
      | lst o xs =>
        obtain ⟨a, ds, k, e, eh, r, _⟩ := r1; subst e
        have e' : (if V.fzL xs = true then some (V.lst true xs) else none) = some _ := e0
        by_cases c : V.fzL xs = true
        · rw [if_pos c] at e'; cases e'
          show Nw Z h _ (match listD (.ref a) h with
            | some xs => R.new (.lst xs) h
            | none => .bad)
          rw [show listD (.ref a) h = some ds by show h[a]?.bind O.seq? = _; rw [eh]; rfl]
          exact lstN (r.cnt fun b => (r.fz0 c b).symm)
        · rw [if_neg c] at e'; cases e'
      | _ => cases e0
    | tuple =>
      cases x with
      | tup xs =>
        obtain ⟨ds, e, r⟩ := r1; subst e
        have e' : (if V.fzL xs = true then some (V.tup xs) else none) = some _ := e0
        by_cases c : V.fzL xs = true
        · rw [if_pos c] at e'; cases e'; exact .same ⟨_, rfl, r⟩ (r.fz0 c)
        · rw [if_neg c] at e'; cases e'
      | lck xs =>
        obtain ⟨ds, e, r, _⟩ := r1; subst e
        have e' : (if V.fzL xs = true then some (V.tup xs) else none) = some _ := e0
        by_cases c : V.fzL xs = true
        · rw [if_pos c] at e'; cases e'; exact .same ⟨_, rfl, r⟩ (r.fz0 c)
        · rw [if_neg c] at e'; cases e'
      | lst o xs =>
        obtain ⟨a, ds, k, e, eh, r, _⟩ := r1; subst e
        have e' : (if V.fzL xs = true then some (V.tup xs) else none) = some _ := e0
        by_cases c : V.fzL xs = true
        · rw [if_pos c] at e'; cases e'
          show Nw Z h _ (match listD (.ref a) h with
            | some xs => R.ok (.tup xs) h
            | none => .bad)
          rw [show listD (.ref a) h = some ds by show h[a]?.bind O.seq? = _; rw [eh]; rfl]
          exact .same ⟨_, rfl, r⟩ (r.fz0 c)
        · rw [if_neg c] at e'; cases e'
      | _ => cases e0
    | all =>
      cases x with
      | lst o xs =>
        obtain ⟨a, ds, k, e, eh, r, _⟩ := r1; subst e
        simp only [biD, eh]
        have e' : (allV xs).map V.bl = some _ := e0
        cases q : allV xs with
        | none => rw [q] at e'; cases e'
        | some b => rw [q] at e'; cases e'; rw [all_ok r q]; exact .bl
      | _ => cases e0
    | sorted =>
      cases x with
      | lst o xs =>
        obtain ⟨a, ds, k, e, eh, r, _⟩ := r1; subst e
        simp only [biD, eh]
        have e' : (match strsV xs with
          | some ys => if ys.length < 64 then some (V.lst true ((sortS ys).map V.str)) else none
          | none => none) = some _ := e0
        cases q : strsV xs with
        | none => rw [q] at e'; cases e'
        | some ys =>
          rw [q] at e'
          rw [strs_ok r q]
          dsimp only at e' ⊢
          by_cases c : ys.length < 64
          · rw [if_pos c] at e' ⊢; cases e'; exact lstN (strs_rep _)
          · rw [if_neg c] at e'; cases e'
      | _ => cases e0
    | sortset =>
      have go : ∀ (xs : List V) (ds : List D) (k : Cnt), RepL Z h xs ds k → ssV xs = some r → Nw Z h r (ssD ds h) := fun xs ds k rp e' => by
        unfold ssV at e'
        unfold ssD
        cases q : intsV xs with
        | none =>
          rw [q] at e'
          rw [intsL_no rp q]
          dsimp only at e' ⊢
          cases q2 : strsV xs with
          | none => rw [q2] at e'; cases e'
          | some ys =>
            rw [q2] at e'
            rw [strs_ok rp q2]
            dsimp only at e' ⊢
            by_cases c : ys.length < 4000
            · rw [if_pos c] at e' ⊢; cases e'; exact lstN (strs_rep _)
            · rw [if_neg c] at e'; cases e'
        | some ys =>
          rw [q] at e'
          rw [intsL_ok rp q]
          dsimp only at e' ⊢
          by_cases c : ys.length < 64
          · rw [if_pos c] at e' ⊢; cases e'; exact lstN (ints_rep _)
          · rw [if_neg c] at e'; cases e'
      cases x with
      | tup xs =>
        obtain ⟨ds, e, rp⟩ := r1; subst e
        exact go xs ds _ rp e0
      | lst o xs =>
        obtain ⟨a, ds, k, e, eh, rp, _⟩ := r1; subst e
        simp only [biD, eh]
        exact go xs ds _ rp e0
      | _ => cases e0
    | dict =>
      cases x with
      | dic o ks vs =>
        obtain ⟨a, kvs, k, kk, e, eh, nd, kd, zk, rk, r, _⟩ := r1; subst e
        have e' : (if V.fzL vs = true then some (V.dic true ks vs) else none) = some _ := e0
        by_cases c : V.fzL vs = true
        · rw [if_pos c] at e'; cases e'
          simp only [biD, eh]
          exact .dic hZ nd kd rk zk r (r.fz0 c)
        · rw [if_neg c] at e'; cases e'
      | _ => cases e0
    | _ => cases x <;> cases e0
  · obtain ⟨d, e, f1, f2, ed, r1, r2, s⟩ := rv.l2
    subst ed
    cases b with
    | max =>
      cases x with
      | int i =>
        cases y with
        | int j => obtain ⟨e1, _⟩ := r1; obtain ⟨e2, _⟩ := r2; subst e1 e2; cases e0; exact .int
        | _ => cases e0
      | _ => cases e0
    | min =>
      cases x with
      | int i =>
        cases y with
        | int j => obtain ⟨e1, _⟩ := r1; obtain ⟨e2, _⟩ := r2; subst e1 e2; cases e0; exact .int
        | _ => cases e0
      | _ => cases e0
    | _ => cases x <;> cases e0
  · cases b <;> cases x <;> first | (cases e0; done) | (cases y <;> cases e0; done)
/-! ### methods -/
/-- what is told, and the receiver anew -/
def MeOk (Z : Nat → Prop) (h : Hh) (F : Cnt) (d : D) (r : V) (o : Option V) (m : R D) : Prop := match o with
  | none => Nw Z h r m
  | some v' => ∃ x h' k f', m = .ok x h' ∧ Stp Z h F Z h' ∧ Rep Z h' r x k ∧ Rep Z h' v' d f' ∧ Good Z h' (fun b => k b + f' b + F b)
/-- the object at a, owned, is changed -/
theorem wr_stp {a : Nat} {o : O} (gd : Good Z h (fun b => f b + F b)) (one : 0 < f a) : Stp Z h F Z (h.set a o) := ⟨fun _ z => z, fun x q => by
  rw [List.getElem?_set_ne]
  rintro rfl
  rcases q with q | q
  · have := gd.fz _ q; (try dsimp only at this); omega
  · have := gd.one a; (try dsimp only at this); omega, by rw [List.length_set]; exact Nat.le_refl _⟩
theorem wr_good {a : Nat} {o : O} {T : Cnt} (gd : Good Z h T) : Good Z (h.set a o) T := ⟨gd.one, gd.fz, fun x q => gd.lt x (by rw [List.length_set] at q; exact q)⟩
/-- the others' items over a write -/
theorem wr_rep {a : Nat} {o : O} {xs : List V} {ds : List D} {k : Cnt} (gd : Good Z h G) (r : RepL Z h xs ds k) (le : ∀ b, k b + (if b = a then 1 else 0) ≤ G b) : RepL Z (h.set a o) xs ds k := r.frame (fun _ z => z) fun x q => by
  rw [List.getElem?_set_ne]
  rintro rfl
  have l := le a
  rw [if_pos rfl] at l
  have o1 := gd.one a
  rcases q with q | q
  · have := gd.fz _ q; omega
  · omega
theorem me_ok (hZ : ∀ a, Z a → a < h.length) {m : Me} {v r : V} {o : Option V} {ws : List V} {d : D} {es : List D} (e0 : meV m v ws = some (r, o)) (rv : Rep Z h v d f) (rw_ : RepL Z h ws es g) (gd : m.stores = true → Good Z h (fun b => f b + g b + F b)) (gd2 : Good Z h (fun b => f b + F b)) : meTy m d h = true ∧ MeOk Z h F d r o (meD m d es h) := by
  have str1 : ∀ {x : Str} {r : V} {o : Option V}, (strV x).map (fun v => (v, (none : Option V))) = some (r, o) → MeOk Z h F d r o (strD x h) := fun {x r o} e => by
    cases q : strV x with
    | none => rw [q] at e; cases e
    | some v => rw [q] at e; cases e; exact strV_ok q
  cases m with
  | split =>
    cases v with
    | str a =>
      obtain ⟨e1, _⟩ := rv; subst e1
      refine ⟨rfl, ?_⟩
      rcases ws with _ | ⟨x, _ | ⟨y, ws⟩⟩
      · cases e0
      · obtain ⟨d, e1, r1⟩ := rw_.l1
        subst e1
        cases x with
        | str b =>
          obtain ⟨e1, _⟩ := r1; subst e1
          have e' : (if b.length ≠ 0 ∧ a.length + 2 ≤ line ∧ (∀ y ∈ Txt.split a b, y.length ≤ line) then some (V.lst true ((Txt.split a b).map V.str), (none : Option V)) else none) = some (r, o) := e0
          show MeOk Z h F _ r o (if b.length ≠ 0 ∧ a.length + 2 ≤ line ∧ (∀ y ∈ Txt.split a b, y.length ≤ line) then R.new (.lst ((Txt.split a b).map D.str)) h else .bad)
          by_cases c : b.length ≠ 0 ∧ a.length + 2 ≤ line ∧ (∀ y ∈ Txt.split a b, y.length ≤ line)
          · rw [if_pos c] at e' ⊢; cases e'; exact .lst hZ (strs_rep _) fun _ => rfl
          · rw [if_neg c] at e'; cases e'
        | _ => cases e0
      · cases x <;> cases e0
    | _ => cases e0
  | join =>
    cases v with
    | str a =>
      obtain ⟨e1, _⟩ := rv; subst e1
      refine ⟨rfl, ?_⟩
      rcases ws with _ | ⟨x, _ | ⟨y, ws⟩⟩
      · cases e0
      · obtain ⟨d, e1, r1⟩ := rw_.l1
        subst e1
        cases x with
        | lst ow xs =>
          obtain ⟨l, ds, k, e1, eh, r1, _⟩ := r1; subst e1
          have e' : (match strsV xs with
            | some ys => if (ys.map (·.length)).sum + ys.length * a.length ≤ line then (strV (Txt.join a ys)).map fun v => (v, (none : Option V)) else none
            | none => none) = some (r, o) := e0
          simp only [meD, eh]
          cases q : strsV xs with
          | none => rw [q] at e'; cases e'
          | some ys =>
            rw [q] at e'
            rw [strs_ok r1 q]
            dsimp only at e' ⊢
            by_cases c : (ys.map (·.length)).sum + ys.length * a.length ≤ line
            · rw [if_pos c] at e' ⊢; exact str1 e'
            · rw [if_neg c] at e'; cases e'
        | _ => cases e0
      · cases x <;> cases e0
    | _ => cases e0
  | upper =>
    cases v with
    | str a =>
      obtain ⟨e1, _⟩ := rv; subst e1
      refine ⟨rfl, ?_⟩
      rcases ws with _ | ⟨x, ws⟩
      · rw [rw_.l0]
        have e' : (if a.length ≤ 5592405 then (strV (Txt.upper a)).map fun v => (v, (none : Option V)) else none) = some (r, o) := e0
        show MeOk Z h F _ r o (if a.length ≤ 5592405 then strD (Txt.upper a) h else .bad)
        by_cases c : a.length ≤ 5592405
        · rw [if_pos c] at e' ⊢; exact str1 e'
        · rw [if_neg c] at e'; cases e'
      · cases e0
    | _ => cases e0
  | append =>
    have gd := gd rfl
    cases v with
    | lst ow xs =>
      cases ow with
      | false => cases ws <;> cases e0
      | true =>
      rcases ws with _ | ⟨y, _ | ⟨z, ws⟩⟩
      · cases e0
      · obtain ⟨l, ds, k, e1, eh, r1, ow⟩ := rv
        obtain ⟨e, e2, r2⟩ := rw_.l1
        subst e1 e2
        have ow' : ∀ b, f b = (if b = l then 1 else 0) + k b := ow
        refine ⟨by simp only [meTy, eh], ?_⟩
        have e' : (if xs.length < line then some (V.non, some (V.lst true (xs ++ [y]))) else none) = some (r, o) := e0
        by_cases c : xs.length < line
        · rw [if_pos c] at e'
          cases e'
          have hl : l < h.length := by
            rcases Nat.lt_or_ge l h.length with q | q
            · exact q
            · have := (gd.lt l q).1; have := ow' l; rw [if_pos rfl] at this; omega
          refine ⟨.non, h.set l (.lst (ds ++ [e])), fun _ => 0, fun b => f b + g b, ?_, wr_stp gd (by have := ow' l; rw [if_pos rfl] at this; omega), ⟨rfl, fun _ => rfl⟩, ⟨l, ds ++ [e], fun b => k b + g b, rfl, by rw [List.getElem?_set_self hl], wr_rep gd (r1.append (RepL.one r2)) (fun b => by have := ow' b; (try dsimp only); omega), fun b => by have := ow' b; (try dsimp only); omega⟩, wr_good (gd.le fun b => by (try dsimp only); omega)⟩
          simp only [meD, eh]
          rw [if_pos (by rw [r1.length]; exact c)]
        · rw [if_neg c] at e'; cases e'
      · cases e0
    | _ => cases e0
  | insert =>
    have gd := gd rfl
    cases v with
    | lst ow xs =>
      cases ow with
      | false => rcases ws with _ | ⟨i, _ | ⟨y, _ | ⟨z, ws⟩⟩⟩ <;> first | (cases e0; done) | (cases i <;> cases e0; done)
      | true =>
      rcases ws with _ | ⟨i, _ | ⟨y, _ | ⟨z, ws⟩⟩⟩
      · cases e0
      · cases i <;> cases e0
      · obtain ⟨l, ds, k, e1, eh, r1, ow⟩ := rv
        obtain ⟨di, e, f1, f2, e2, ri, r2, s⟩ := rw_.l2
        subst e1 e2
        have ow' : ∀ b, f b = (if b = l then 1 else 0) + k b := ow
        refine ⟨by simp only [meTy, eh], ?_⟩
        cases i with
        | int i =>
          obtain ⟨e1, z1⟩ := ri
          subst e1
          have e' : (if xs.length < line ∧ 0 ≤ i ∧ i < 2 ^ 63 then some (V.non, some (V.lst true (xs.take i.toNat ++ [y] ++ xs.drop i.toNat))) else none) = some (r, o) := e0
          by_cases c : xs.length < line ∧ 0 ≤ i ∧ i < 2 ^ 63
          · rw [if_pos c] at e'
            cases e'
            have hl : l < h.length := by
              rcases Nat.lt_or_ge l h.length with q | q
              · exact q
              · have := (gd.lt l q).1; have := ow' l; rw [if_pos rfl] at this; omega
            refine ⟨.non, h.set l (.lst (ds.take i.toNat ++ [e] ++ ds.drop i.toNat)), fun _ => 0, fun b => f b + g b, ?_, wr_stp gd (by have := ow' l; rw [if_pos rfl] at this; omega), ⟨rfl, fun _ => rfl⟩, ⟨l, _, fun b => k b + f2 b, rfl, by rw [List.getElem?_set_self hl], wr_rep gd (r1.insert r2 i.toNat) (fun b => by have := ow' b; have := s b; (try dsimp only); omega), fun b => by have := ow' b; have := s b; have := z1 b; (try dsimp only); omega⟩, wr_good (gd.le fun b => by (try dsimp only); omega)⟩
            simp only [meD, eh]
            rw [if_pos (by rw [r1.length]; exact c)]
          · rw [if_neg c] at e'; cases e'
        | _ => cases e0
      · cases i <;> cases e0
    | _ => cases e0
  | get =>
    cases v with
    | dic ow ks vs =>
      obtain ⟨l, kvs, k, kk, e1, eh, nd, kd, zk, rk, r1, _⟩ := rv
      subst e1
      refine ⟨by simp only [meTy, eh], ?_⟩
      rcases ws with _ | ⟨key, _ | ⟨y, _ | ⟨z, ws⟩⟩⟩
      · cases e0
      · obtain ⟨e, e2, r2⟩ := rw_.l1
        subst e2
        have e' : (if (keyV key).isSome = true then match placeV key ks with
            | some j => match vs[j]? with
              | some v => if v.fz = true then some (v, (none : Option V)) else none
              | none => none
            | none => some (.non, none)
          else none) = some (r, o) := e0
        simp only [meD, eh]
        rw [key_ok r2]
        by_cases c : (keyV key).isSome = true
        · rw [if_pos c] at e' ⊢
          cases q : placeV key ks with
          | none => rw [q] at e'; cases e'; rw [(place_none r2 rk q).1]; exact .non
          | some j =>
            rw [q] at e'
            obtain ⟨k', x, h1, h2, _⟩ := place_some r2 rk q
            cases q2 : vs[j]? with
            | none => simp only [q2] at e'; cases e'
            | some u =>
              simp only [q2] at e'
              obtain ⟨x', k1, k2, g1, g2, g3, _⟩ := r1.get q2
              rw [List.getElem?_map, h1] at g1
              cases g1
              by_cases c2 : u.fz = true
              · rw [if_pos c2] at e'; cases e'; rw [h2]; exact .same g2 (g2.fz0 c2)
              · rw [if_neg c2] at e'; cases e'
        · rw [if_neg c] at e'; cases e'
      · obtain ⟨e, e3, f1, f2, e2, r2, r3, s⟩ := rw_.l2
        subst e2
        have e' : (if (keyV key).isSome = true then match placeV key ks with
            | some j => match vs[j]? with
              | some v => if v.fz = true then some (v, (none : Option V)) else none
              | none => none
            | none => if y.fz = true then some (y, none) else none
          else none) = some (r, o) := e0
        simp only [meD, eh]
        rw [key_ok r2]
        by_cases c : (keyV key).isSome = true
        · rw [if_pos c] at e' ⊢
          cases q : placeV key ks with
          | none =>
            rw [q] at e'
            rw [(place_none r2 rk q).1]
            by_cases c2 : y.fz = true
            · simp only [if_pos c2] at e'; cases e'; exact .same r3 (r3.fz0 c2)
            · simp only [if_neg c2] at e'; cases e'
          | some j =>
            rw [q] at e'
            obtain ⟨k', x, h1, h2, _⟩ := place_some r2 rk q
            cases q2 : vs[j]? with
            | none => simp only [q2] at e'; cases e'
            | some u =>
              simp only [q2] at e'
              obtain ⟨x', k1, k2, g1, g2, g3, _⟩ := r1.get q2
              rw [List.getElem?_map, h1] at g1
              cases g1
              by_cases c2 : u.fz = true
              · rw [if_pos c2] at e'; cases e'; rw [h2]; exact .same g2 (g2.fz0 c2)
              · rw [if_neg c2] at e'; cases e'
        · rw [if_neg c] at e'; cases e'
      · cases e0
    | _ => rcases ws with _ | ⟨key, _ | ⟨y, _ | ⟨z, ws⟩⟩⟩ <;> cases e0
  | clear =>
    have gd := gd2
    rcases ws with _ | ⟨x, ws⟩
    · rw [rw_.l0]
      cases v with
      | dic ow ks vs =>
        cases ow with
        | false => cases e0
        | true =>
          obtain ⟨l, ds, k, kk, e1, eh, nd, kd, zk, rk, r1, ow⟩ := rv
          subst e1
          cases e0
          have ow' : ∀ b, f b = (if b = l then 1 else 0) + k b := ow
          have hl : l < h.length := by
            rcases Nat.lt_or_ge l h.length with q | q
            · exact q
            · have := (gd.lt l q).1; have := ow' l; rw [if_pos rfl] at this; omega
          refine ⟨by simp only [meTy, eh], .non, h.set l (.dic []), fun _ => 0, fun b => if b = l then 1 else 0, by simp only [meD, eh], wr_stp gd (by have := ow' l; rw [if_pos rfl] at this; (try dsimp only); omega), ⟨rfl, fun _ => rfl⟩, ⟨l, [], fun _ => 0, fun _ => 0, rfl, by rw [List.getElem?_set_self hl], by simp, by simp, fun _ => rfl, ⟨rfl, fun _ => rfl⟩, ⟨rfl, fun _ => rfl⟩, fun b => rfl⟩, wr_good (gd.le fun b => by have := ow' b; (try dsimp only); omega)⟩
      | _ => cases e0
    · cases v <;> first | (cases e0; done) | (rename_i o _; cases o <;> cases e0; done) | (rename_i o _ _; cases o <;> cases e0; done)
  | _ => cases v <;> first | (cases e0; done) | (rename_i o _; cases o <;> cases e0; done) | (rename_i o _ _; cases o <;> cases e0; done)
/-! ### stores -/
theorem RepL.nil_of {ds : List D} (r : RepL Z h [] ds f) : ds = [] := r.1
/-- what is stored to: it stands for the same place -/
def StOk (Z : Nat → Prop) (h : Hh) (F : Cnt) (d : D) (v' : V) (m : R D) : Prop := ∃ x h' f', m = .ok x h' ∧ Stp Z h F Z h' ∧ Rep Z h' v' d f' ∧ Good Z h' (fun b => f' b + F b)
theorem seti_ok {v k w v' : V} {d dk dw : D} {fk fw : Cnt} (e0 : setiV v k w = some v') (rv : Rep Z h v d f) (rk : Rep Z h k dk fk) (rw_ : Rep Z h w dw fw) (gd : Good Z h (fun b => f b + fw b + F b)) : StOk Z h F d v' (setiD d dk dw h) := by
  have lt : ∀ {l : Nat} {m : Cnt}, (∀ b, f b = (if b = l then 1 else 0) + m b) → l < h.length := fun {l m} ow' => by
    rcases Nat.lt_or_ge l h.length with q | q
    · exact q
    · have := (gd.lt l q).1; have := ow' l; rw [if_pos rfl] at this; omega
  cases v with
  | lst ow xs =>
    cases ow with
    | false => cases e0
    | true =>
      obtain ⟨l, ds, m, e1, eh, r1, ow⟩ := rv
      subst e1
      have ow' : ∀ b, f b = (if b = l then 1 else 0) + m b := ow
      cases k with
      | int i =>
        obtain ⟨e1, _⟩ := rk
        subst e1
        have e' : (match L2.ixN xs.length i with
          | some j => some (V.lst true (xs.set j w))
          | none => none) = some v' := e0
        cases q : L2.ixN xs.length i with
        | none => rw [q] at e'; cases e'
        | some j =>
          rw [q] at e'
          cases e'
          have hj : j < xs.length ∨ xs.length ≤ j := Nat.lt_or_ge _ _
          have key : ∃ m' : Cnt, (∀ b, m' b ≤ m b + fw b) ∧ RepL Z h (xs.set j w) (ds.set j dw) m' := by
            rcases hj with hj | hj
            · obtain ⟨x, k1, k2, g1, g2, g3, g4⟩ := r1.get (List.getElem?_eq_getElem hj)
              exact ⟨_, fun b => by have := g3 b; (try dsimp only); omega, g4 _ _ _ rw_⟩
            · refine ⟨m, fun b => by omega, ?_⟩
              rw [List.set_eq_of_length_le hj, List.set_eq_of_length_le (by rw [r1.length]; exact hj)]
              exact r1
          obtain ⟨m', l1, r2⟩ := key
          refine ⟨.non, h.set l (.lst (ds.set j dw)), fun b => (if b = l then 1 else 0) + m' b, ?_, wr_stp (f := fun b => f b + fw b) gd (by have := ow' l; rw [if_pos rfl] at this; (try dsimp only); omega), ⟨l, _, m', rfl, by rw [List.getElem?_set_self (lt ow')], wr_rep gd r2 (fun b => by have := ow' b; have := l1 b; (try dsimp only); omega), fun b => rfl⟩, wr_good (gd.le fun b => by have := ow' b; have := l1 b; (try dsimp only); omega)⟩
          simp only [setiD, eh]
          rw [r1.length, q]
      | _ => cases e0
  | dic ow ks vs =>
    cases ow with
    | false => cases e0
    | true =>
      obtain ⟨l, kvs, m, kk, e1, eh, nd, kd, zk, rks, r1, ow⟩ := rv
      subst e1
      have ow' : ∀ b, f b = (if b = l then 1 else 0) + m b := ow
      have e' : (if (keyV k).isSome = true ∧ ks.length < line ∧ k.fz = true then match placeV k ks with
          | some j => some (V.dic true ks (vs.set j w))
          | none => some (.dic true (ks ++ [k]) (vs ++ [w]))
        else none) = some v' := e0
      by_cases c : (keyV k).isSome = true ∧ ks.length < line ∧ k.fz = true
      · rw [if_pos c] at e'
        have hd : setiD (.ref l) dk dw h = .ok .non (h.set l (.dic (putD dk dw kvs))) := by
          simp only [setiD, eh]
          have l1 := rks.length
          rw [List.length_map] at l1
          rw [if_pos ⟨by rw [key_ok rk]; exact c.1, by rw [l1]; exact c.2.1⟩]
        cases q : placeV k ks with
        | none =>
          rw [q] at e'
          cases e'
          obtain ⟨_, n2⟩ := place_none rk rks q
          rw [put_none n2] at hd
          refine ⟨.non, _, fun b => f b + fw b, hd, wr_stp (f := fun b => f b + fw b) gd (by have := ow' l; rw [if_pos rfl] at this; (try dsimp only); omega), ⟨l, _, fun b => m b + fw b, fun b => kk b + fk b, rfl, by rw [List.getElem?_set_self (lt ow')], ?_, ?_, fun b => by have := zk b; have := rk.fz0 c.2.2 b; (try dsimp only); omega, ?_, ?_, fun b => by have := ow' b; (try dsimp only); omega⟩, wr_good gd⟩
          · rw [List.map_append, List.nodup_append]
            refine ⟨nd, by simp, fun a ha b hb => ?_⟩
            simp only [List.map_cons, List.map_nil, List.mem_singleton] at hb
            subst hb
            obtain ⟨p, hp, e⟩ := List.mem_map.mp ha
            rw [← e]; exact n2 p hp
          · intro p hp
            rcases List.mem_append.mp hp with hp | hp
            · exact kd p hp
            · rw [List.mem_singleton.mp hp]; show (keyD dk).isSome = true; rw [key_ok rk]; exact c.1
          · rw [List.map_append]
            exact wr_rep (G := fun b => f b + fw b + F b) gd (rks.append (RepL.one rk)) (fun b => by have := ow' b; have := zk b; have := rk.fz0 c.2.2 b; (try dsimp only); omega)
          · rw [List.map_append]
            exact wr_rep (G := fun b => f b + fw b + F b) gd (r1.append (RepL.one rw_)) (fun b => by have := ow' b; (try dsimp only); omega)
        | some j =>
          rw [q] at e'
          cases e'
          obtain ⟨k', x, h1, h2, h3⟩ := place_some rk rks q
          rw [put_some nd h1 h3] at hd
          have jl : j < kvs.length := (List.getElem?_eq_some_iff.mp h1).1
          have k1 : (kvs.set j (k', dw)).map (·.1) = kvs.map (·.1) := by
            rw [List.map_set]
            refine List.ext_getElem? fun i => ?_
            by_cases ci : j = i
            · subst ci
              rw [List.getElem?_set_self (by rw [List.length_map]; exact jl), List.getElem?_map, h1]; rfl
            · rw [List.getElem?_set_ne ci]
          have k2 : (kvs.set j (k', dw)).map (fun p => keyD p.1) = kvs.map (fun p => keyD p.1) := by
            have := congrArg (List.map keyD) k1
            rw [List.map_map, List.map_map] at this
            exact this
          have jv : j < vs.length := by
            have := r1.length
            rw [List.length_map] at this; omega
          obtain ⟨x1, m1, m2, g1, g2, g3, g4⟩ := r1.get (List.getElem?_eq_getElem jv)
          refine ⟨.non, _, fun b => (if b = l then 1 else 0) + (fw b + m2 b), hd, wr_stp (f := fun b => f b + fw b) gd (by have := ow' l; rw [if_pos rfl] at this; (try dsimp only); omega), ⟨l, _, fun b => fw b + m2 b, kk, rfl, by rw [List.getElem?_set_self (lt ow')], by rw [k2]; exact nd, ?_, zk, ?_, ?_, fun b => rfl⟩, wr_good (gd.le fun b => by have := ow' b; have := g3 b; (try dsimp only); omega)⟩
          · intro p hp
            have : keyD p.1 ∈ (kvs.set j (k', dw)).map (fun p => keyD p.1) := List.mem_map_of_mem hp
            rw [k2] at this
            obtain ⟨p', hp', e⟩ := List.mem_map.mp this
            rw [← e]; exact kd p' hp'
          · rw [k1]
            exact wr_rep (G := fun b => f b + fw b + F b) gd rks (fun b => by have := ow' b; have := zk b; (try dsimp only); omega)
          · rw [List.map_set]
            exact wr_rep (G := fun b => f b + fw b + F b) gd (g4 _ _ _ rw_) (fun b => by have := ow' b; have := g3 b; (try dsimp only); omega)
      · rw [if_neg c] at e'; cases e'
  | _ => cases e0
theorem setf_ok {v w v' : V} {n : Str} {d dw : D} {fw : Cnt} (e0 : setfV v n w = some v') (rv : Rep Z h v d f) (rw_ : Rep Z h w dw fw) (gd : Good Z h (fun b => f b + fw b + F b)) : StOk Z h F d v' (setfD d n dw h) := by
  cases v with
  | ins ow c ns vs =>
    cases ow with
    | false => cases e0
    | true =>
      obtain ⟨l, fs, m, e1, eh, en, r1, ow⟩ := rv
      subst e1 en
      have ow' : ∀ b, f b = (if b = l then 1 else 0) + m b := ow
      have hl : l < h.length := by
        rcases Nat.lt_or_ge l h.length with q | q
        · exact q
        · have := (gd.lt l q).1; have := ow' l; rw [if_pos rfl] at this; omega
      have e' : (if (fs.map (·.1)).length < 1000 then match fldAt n (fs.map (·.1)) with
          | some j => some (V.ins true c (fs.map (·.1)) (vs.set j w))
          | none => some (.ins true c (fs.map (·.1) ++ [n]) (vs ++ [w]))
        else none) = some v' := e0
      by_cases cl : (fs.map (·.1)).length < 1000
      · rw [if_pos cl] at e'
        have hd : setfD (.ref l) n dw h = .ok .non (h.set l (.ins c (putF n dw fs))) := by
          simp only [setfD, eh]
          rw [List.length_map] at cl
          rw [if_pos cl]
        cases q : fldAt n (fs.map (·.1)) with
        | none =>
          rw [q] at e'
          cases e'
          rw [fldAt_no q] at hd
          refine ⟨.non, _, fun b => f b + fw b, hd, wr_stp (f := fun b => f b + fw b) gd (by have := ow' l; rw [if_pos rfl] at this; (try dsimp only); omega), ⟨l, _, fun b => m b + fw b, rfl, by rw [List.getElem?_set_self hl], by rw [List.map_append]; rfl, ?_, fun b => by have := ow' b; (try dsimp only); omega⟩, wr_good gd⟩
          rw [List.map_append]
          exact wr_rep (G := fun b => f b + fw b + F b) gd (r1.append (RepL.one rw_)) (fun b => by have := ow' b; (try dsimp only); omega)
        | some j =>
          rw [q] at e'
          cases e'
          obtain ⟨x, h1, h2, h3⟩ := fldAt_ok q
          rw [h3] at hd
          have jl : j < fs.length := (List.getElem?_eq_some_iff.mp h1).1
          have k1 : (fs.set j (n, dw)).map (·.1) = fs.map (·.1) := by
            rw [List.map_set]
            refine List.ext_getElem? fun i => ?_
            by_cases ci : j = i
            · subst ci
              rw [List.getElem?_set_self (by rw [List.length_map]; exact jl), List.getElem?_map, h1]; rfl
            · rw [List.getElem?_set_ne ci]
          have jv : j < vs.length := by
            have := r1.length
            rw [List.length_map] at this; omega
          obtain ⟨x1, m1, m2, g1, g2, g3, g4⟩ := r1.get (List.getElem?_eq_getElem jv)
          refine ⟨.non, _, fun b => (if b = l then 1 else 0) + (fw b + m2 b), hd, wr_stp (f := fun b => f b + fw b) gd (by have := ow' l; rw [if_pos rfl] at this; (try dsimp only); omega), ⟨l, _, fun b => fw b + m2 b, rfl, by rw [List.getElem?_set_self hl], k1, ?_, fun b => rfl⟩, wr_good (gd.le fun b => by have := ow' b; have := g3 b; (try dsimp only); omega)⟩
          rw [List.map_set]
          exact wr_rep (G := fun b => f b + fw b + F b) gd (g4 _ _ _ rw_) (fun b => by have := ow' b; have := g3 b; (try dsimp only); omega)
      · rw [if_neg cl] at e'; cases e'
  | _ => cases e0
end
end VX
end

section
set_option Elab.async false
set_option linter.all false
set_option maxRecDepth 100000
set_option maxHeartbeats 2000000
/-! VX6: runs of both kinds held against one another. -/
namespace VX
open PySem IX
def rowF : Option Int → List (Str × D)
  | none => []
  | some i => [("row", .int i)]
abbrev Rl (α β : Type) := (Nat → Prop) → Hh → α → β → Cnt → Prop
/-- what a run without the heap tells, the run over the heap does -/
def OkR {α β : Type} (rel : Rl α β) (Z : Nat → Prop) (h : Hh) (F : Cnt) (τ : St) (m : RV α) (r : R β) : Prop := match m with
  | .ok x σ' => ∃ d h' Z' S f, r = .ok d h' ∧ Stp Z h F Z' h' ∧ SR Z' h' σ' τ S ∧ rel Z' h' x d f ∧ Good Z' h' (fun b => S b + f b + F b)
  | .ex c row σ' => ∃ h' Z' S, r = .ex c (rowF row) h' ∧ Stp Z h F Z' h' ∧ SR Z' h' σ' τ S ∧ Good Z' h' (fun b => S b + F b)
  | .bad => True
def AgR (τ : St) : Rl Ag D := fun Z h x d f => match x with
  | .val v => Rep Z h v d f
  | .plc i p => isZ f ∧ ∃ d0, τ[i]? = some (some d0) ∧ getD h d0 p = some d
def AgRL (τ : St) : Rl (List Ag) (List D) := fun Z h xs ds f => match xs with
  | [] => ds = [] ∧ isZ f
  | x :: r => ∃ d es f1 f2, ds = d :: es ∧ AgR τ Z h x d f1 ∧ AgRL τ Z h r es f2 ∧ ∀ b, f b = f1 b + f2 b
/-- a run from any slots that stand for τ -/
def RunOk {α β : Type} (rel : Rl α β) (τ : St) (m : Sv → RV α) (r : Hh → R β) : Prop := ∀ σ Z h F S, SR Z h σ τ S → Good Z h (fun b => S b + F b) → OkR rel Z h F τ (m σ) (r h)
/-- .. from a world in which others own B -/
def RunAt {α β : Type} (rel : Rl α β) (τ : St) (Z : Nat → Prop) (h : Hh) (B : Cnt) (m : Sv → RV α) (r : R β) : Prop := ∀ σ F S, SR Z h σ τ S → Good Z h (fun b => S b + F b) → (∀ b, B b ≤ F b) → OkR rel Z h F τ (m σ) r
section
variable {α β γ δ : Type} {Z Z' Z2 : Nat → Prop} {h h' h2 : Hh} {F G f g S : Cnt} {τ : St} {σ : Sv}
theorem Good.zlt (gd : Good Z h F) : ∀ a, Z a → a < h.length := fun a z => by
  rcases Nat.lt_or_ge a h.length with q | q
  · exact q
  · exact absurd z (gd.lt a q).2
theorem OkR.imp {rel rel2 : Rl α β} {m : RV α} {r : R β} (o : OkR rel Z h F τ m r) (k : ∀ Z h x d f, rel Z h x d f → ∃ g, rel2 Z h x d g ∧ ∀ b, g b ≤ f b) : OkR rel2 Z h F τ m r := by
  cases m with
  | ok x σ' =>
    obtain ⟨d, h', Z', S, f, e, st, sr, rl, gd⟩ := o
    obtain ⟨g, q, l⟩ := k _ _ _ _ _ rl
    exact ⟨d, h', Z', S, g, e, st, sr, q, gd.le fun b => by have := l b; (try dsimp only); omega⟩
  | ex c row σ' => exact o
  | bad => trivial
theorem OkR.pre {rel : Rl α β} {m : RV α} {r : R β} (st : Stp Z h F Z' h') (o : OkR rel Z' h' F τ m r) : OkR rel Z h F τ m r := by
  cases m with
  | ok x σ' =>
    obtain ⟨d, h2, Z2, S, f, e, st2, sr, rl, gd⟩ := o
    exact ⟨d, h2, Z2, S, f, e, st.trans st2, sr, rl, gd⟩
  | ex c row σ' =>
    obtain ⟨h2, Z2, S, e, st2, sr, gd⟩ := o
    exact ⟨h2, Z2, S, e, st.trans st2, sr, gd⟩
  | bad => trivial
theorem OkR.bind {rel : Rl α β} {rel2 : Rl γ δ} {m : RV α} {r : R β} {k : α → Sv → RV γ} {k2 : β → Hh → R δ} (o : OkR rel Z h F τ m r)
    (q : ∀ x σ' d h' Z' S f, SR Z' h' σ' τ S → rel Z' h' x d f → Good Z' h' (fun b => S b + f b + F b) → OkR rel2 Z' h' F τ (k x σ') (k2 d h')) : OkR rel2 Z h F τ (m.bind k) (r.bind k2) := by
  cases m with
  | ok x σ' =>
    obtain ⟨d, h', Z', S, f, e, st, sr, rl, gd⟩ := o
    subst e
    exact OkR.pre st (q x σ' d h' Z' S f sr rl gd)
  | ex c row σ' =>
    obtain ⟨h', Z', S, e, st, sr, gd⟩ := o
    subst e
    exact ⟨h', Z', S, rfl, st, sr, gd⟩
  | bad => trivial
/-- less is owned by others -/
theorem OkR.le {rel : Rl α β} {m : RV α} {r : R β} (o : OkR rel Z h G τ m r) (l : ∀ b, F b ≤ G b) : OkR rel Z h F τ m r := by
  cases m with
  | ok x σ' =>
    obtain ⟨d, h', Z', S, f, e, st, sr, rl, gd⟩ := o
    exact ⟨d, h', Z', S, f, e, st.le l, sr, rl, gd.le fun b => by have := l b; (try dsimp only); omega⟩
  | ex c row σ' =>
    obtain ⟨h', Z', S, e, st, sr, gd⟩ := o
    exact ⟨h', Z', S, e, st.le l, sr, gd.le fun b => by have := l b; (try dsimp only); omega⟩
  | bad => trivial
theorem OkR.ok {rel : Rl α β} {x : α} {d : β} (sr : SR Z h σ τ S) (rl : rel Z h x d f) (gd : Good Z h (fun b => S b + f b + F b)) : OkR rel Z h F τ (.ok x σ) (.ok d h) := ⟨d, h, Z, S, f, rfl, Stp.refl, sr, rl, gd⟩
theorem good0 (gd : Good Z h (fun b => S b + F b)) : Good Z h (fun b => S b + (fun _ => 0) b + F b) := gd.le fun b => by (try dsimp only); omega
/-- something new or scalar is told -/
theorem nw_ok {v : V} {r : R D} (n : Nw Z h v r) (sr : SR Z h σ τ S) (gd : Good Z h (fun b => S b + F b)) : OkR (AgR τ) Z h F τ (.ok (.val v) σ) r := by
  obtain ⟨x, t, k, e, rp, q⟩ := n
  have st : Stp Z h (fun b => S b + F b) Z (h ++ t) := Good.stpx (f := fun _ => 0) (gd.le fun b => by (try dsimp only); omega) t
  refine ⟨x, h ++ t, Z, S, k, e, st.le fun b => by (try dsimp only); omega, sr.stp st fun b => by (try dsimp only); omega, rp, ⟨fun a => ?_, fun a z => ?_, fun a l => ?_⟩⟩
  · have h1 := q a
    by_cases c : k a = 0
    · have := gd.one a; (try dsimp only at this ⊢); omega
    · have h2 := gd.lt a (h1.2 c).1
      have := h2.1; (try dsimp only at this ⊢); omega
  · have h1 := gd.fz a z
    have h2 := gd.zlt a z
    have h3 := (q a).2
    by_cases c : k a = 0
    · (try dsimp only at h1 ⊢); omega
    · have := (h3 c).1; omega
  · have hl : h.length ≤ a := by rw [List.length_append] at l; omega
    have h1 := gd.lt a hl
    have h3 := (q a).2
    refine ⟨?_, h1.2⟩
    have h1 := h1.1
    by_cases c : k a = 0
    · (try dsimp only at h1 ⊢); omega
    · have := (h3 c).2; omega
theorem toV_ok : ∀ {d : D} {v : V}, toV d = some v → Rep Z h v d (fun _ => 0) := fun {d v} e => by
  have key : ∀ d : D, (∀ v, toV d = some v → Rep Z h v d (fun _ => 0)) := by
    intro d
    refine D.rec (motive_1 := fun d => ∀ v, toV d = some v → Rep Z h v d (fun _ => 0)) (motive_2 := fun ds => ∀ vs, toVL ds = some vs → RepL Z h vs ds (fun _ => 0)) ?_ ?_ ?_ ?_ ?_ ?_ ?_ ?_ ?_ d
    · intro v e; cases e; exact ⟨rfl, fun _ => rfl⟩
    · intro b v e; cases e; exact ⟨rfl, fun _ => rfl⟩
    · intro b v e; cases e; exact ⟨rfl, fun _ => rfl⟩
    · intro b v e; cases e; exact ⟨rfl, fun _ => rfl⟩
    · intro xs ih v e
      have e' : (toVL xs).map V.tup = some v := e
      cases q : toVL xs with
      | none => rw [q] at e'; cases e'
      | some vs => rw [q] at e'; cases e'; exact ⟨xs, rfl, ih vs q⟩
    · intro xs ih v e; cases e
    · intro a v e; cases e
    · intro vs e; cases e; exact ⟨rfl, fun _ => rfl⟩
    · intro x xs i1 i2 vs e
      have e' : (match toV x, toVL xs with
        | some a, some b => some (a :: b)
        | _, _ => none) = some vs := e
      cases q1 : toV x with
      | none => rw [q1] at e'; cases e'
      | some v =>
        cases q2 : toVL xs with
        | none => rw [q1, q2] at e'; cases e'
        | some ws => rw [q1, q2] at e'; cases e'; exact ⟨x, xs, _, _, rfl, i1 v q1, i2 ws q2, fun _ => rfl⟩
  exact key d v e
/-! ### reading -/
theorem rd_plc {i : Nat} {p : List Nat} {v : V} : rd σ (.plc i p) = some v → ∃ v0, slot σ i = some v0 ∧ getP v0 p = some v := fun e => by
  cases p with
  | nil => exact ⟨v, e, rfl⟩
  | cons j p =>
    have e' : ((slot σ i).bind fun v => getP v (j :: p)) = some v := e
    cases q : slot σ i with
    | none => rw [q] at e'; cases e'
    | some v0 => rw [q] at e'; exact ⟨v0, rfl, e'⟩
/-- a place: what stands there, what stands beside -/
theorem plc_ok {i : Nat} {p : List Nat} {v : V} {d : D} (sr : SR Z h σ τ S) (a : AgR τ Z h (.plc i p) d f) (e : rd σ (.plc i p) = some v) : ∃ (v0 : V) (d0 : D) (kv m k : Cnt), slot σ i = some v0 ∧ getP v0 p = some v ∧ τ[i]? = some (some d0) ∧ getD h d0 p = some d ∧ Rep Z h v0 d0 (fun b => kv b + m b) ∧
    Rep Z h v d kv ∧ (∀ b, S b = kv b + m b + k b) ∧ SR Z h (σ.set i none) τ k ∧
    (v.fz = false → ∀ (Z' : Nat → Prop) (h' : Hh) (x' : V) (k' : Cnt), (∀ a, Z a → Z' a) → (∀ a, Z a ∨ m a ≠ 0 → h'[a]? = h[a]?) → Rep Z' h' x' d k' → Rep Z' h' (setP v0 p x') d0 (fun b => k' b + m b)) := by
  obtain ⟨v0, e1, e2⟩ := rd_plc e
  obtain ⟨_, d0, t0, gD⟩ := a
  obtain ⟨d0', g0, k, t0', r0, s0, sr0, _⟩ := sr.get e1
  rw [t0] at t0'
  cases t0'
  obtain ⟨y, kv, m, h1, h2, h3, h4⟩ := r0.path e2
  rw [gD] at h1
  cases h1
  exact ⟨v0, d0, kv, m, k, e1, e2, t0, gD, r0.cnt fun b => (h3 b).symm, h2, fun b => by rw [s0 b, h3 b], sr0, h4⟩
theorem rd_ok {x : Ag} {v : V} {d : D} (sr : SR Z h σ τ S) (a : AgR τ Z h x d f) (e : rd σ x = some v) : ∃ k, Rep Z h v d k ∧ ∀ b, k b ≤ S b + f b := by
  cases x with
  | val w => cases e; exact ⟨f, a, fun b => Nat.le_add_left _ _⟩
  | plc i p =>
    obtain ⟨v0, d0, kv, m, k, _, _, _, _, _, h2, h3, _⟩ := plc_ok sr a e
    exact ⟨kv, h2, fun b => by have := h3 b; omega⟩
/-- a place stored to -/
theorem setAt_ok {i : Nat} {p : List Nat} {v w : V} {d : D} {σ' : Sv} {k' : Cnt} (sr : SR Z h σ τ S) (a : AgR τ Z h (.plc i p) d f) (e : rd σ (.plc i p) = some v) (e2 : setAt σ i p w = some σ')
    (hz : ∀ a, Z a → Z' a) (hk : ∀ kv : Cnt, Rep Z h v d kv → (∀ b, kv b ≤ S b) → (∀ a, Z a ∨ S a - kv a ≠ 0 → h'[a]? = h[a]?) ∧ Rep Z' h' w d k') : ∃ kv S', Rep Z h v d kv ∧ SR Z' h' σ' τ S' ∧ (∀ b, kv b ≤ S b) ∧ ∀ b, S' b ≤ (S b - kv b) + k' b := by
  obtain ⟨v0, d0, kv, m, k, q1, q2, q3, q4, q5, q6, q7, q8, q9⟩ := plc_ok sr a e
  obtain ⟨fr, rw_⟩ := hk kv q6 fun b => by have := q7 b; omega
  have sr' : SR Z' h' (σ.set i none) τ k := q8.frame hz fun a q => fr a (q.imp id fun q => by have := q7 a; omega)
  have il : i < σ.length := by
    have := q1
    unfold slot at this
    rcases Nat.lt_or_ge i σ.length with z | z
    · exact z
    · rw [List.getElem?_eq_none z] at this; cases this
  have ti : τ.set i (some d0) = τ := by
    refine List.ext_getElem? fun j => ?_
    by_cases c : i = j
    · subst c
      rw [q3, List.getElem?_set_self (List.getElem?_eq_some_iff.mp q3).1]
    · rw [List.getElem?_set_ne c]
  cases p with
  | nil =>
    cases e2
    have : d0 = d := Option.some.inj q4
    subst this
    refine ⟨kv, fun b => k' b + k b, q6, ?_, fun b => by have := q7 b; omega, fun b => by have := q7 b; (try dsimp only); omega⟩
    have := sr'.fill rw_ il
    rw [ti] at this
    exact this
  | cons j p =>
    have e' : (match slot σ i with
      | some v => match getP v (j :: p) with
        | some w0 => if w0.fz = true then none else some (σ.set i (some (setP v (j :: p) w)))
        | none => none
      | none => none) = some σ' := e2
    rw [q1] at e'
    dsimp only at e'
    rw [q2] at e'
    dsimp only at e'
    by_cases c : v.fz = true
    · rw [if_pos c] at e'; cases e'
    · rw [if_neg c] at e'
      cases e'
      refine ⟨kv, fun b => (k' b + m b) + k b, q6, ?_, fun b => by have := q7 b; omega, fun b => by have := q7 b; (try dsimp only); omega⟩
      have := sr'.fill (q9 (by simpa using c) Z' h' w k' hz (fun a q => fr a (q.imp id fun q => by have := q7 a; omega)) rw_) il
      rw [ti] at this
      exact this
theorem own_none {mv : Bool} {i : Nat} {p : List Nat} (e : rd σ (.plc i p) = none) : own mv (.plc i p) σ = .bad := by
  show (match rd σ (.plc i p) with
    | some v => if v.fz = true then RV.ok v σ else if mv = true ∧ p = [] then .ok v (σ.set i none) else match setAt σ i p v.freeze with
      | some σ' => .ok v.freeze σ'
      | none => .bad
    | none => .bad) = _
  rw [e]
theorem own_some {mv : Bool} {i : Nat} {p : List Nat} {v : V} (e : rd σ (.plc i p) = some v) : own mv (.plc i p) σ = if v.fz = true then RV.ok v σ else if mv = true ∧ p = [] then .ok v (σ.set i none) else match setAt σ i p v.freeze with
      | some σ' => .ok v.freeze σ'
      | none => .bad := by
  show (match rd σ (.plc i p) with
    | some v => if v.fz = true then RV.ok v σ else if mv = true ∧ p = [] then .ok v (σ.set i none) else match setAt σ i p v.freeze with
      | some σ' => .ok v.freeze σ'
      | none => .bad
    | none => .bad) = _
  rw [e]
/-- taken for good -/
theorem own_ok {mv : Bool} {x : Ag} {d : D} (sr : SR Z h σ τ S) (a : AgR τ Z h x d f) (gd : Good Z h (fun b => S b + f b + F b)) : OkR Rep Z h F τ (own mv x σ) (.ok d h) := by
  cases x with
  | val v => exact .ok sr a gd
  | plc i p =>
    cases e : rd σ (.plc i p) with
    | none => rw [own_none e]; trivial
    | some v =>
      rw [own_some e]
      obtain ⟨v0, d0, kv, m, k, q1, q2, q3, q4, q5, q6, q7, q8, q9⟩ := plc_ok sr a e
      by_cases c : v.fz = true
      · rw [if_pos c]
        have z0 := q6.fz0 c
        exact .ok sr q6 (gd.le fun b => by have := z0 b; (try dsimp only); omega)
      · rw [if_neg c]
        by_cases c2 : mv = true ∧ p = []
        · rw [if_pos c2]
          obtain ⟨_, rfl⟩ := c2
          exact .ok q8 q6 (gd.le fun b => by have := q7 b; (try dsimp only); omega)
        · rw [if_neg c2]
          cases e2 : setAt σ i p v.freeze with
          | none => trivial
          | some σ' =>
            dsimp only
            have big : ∀ kv' : Cnt, Rep Z h v d kv' → (∀ b, kv' b ≤ S b) → (∀ a, Z a ∨ S a - kv' a ≠ 0 → h[a]? = h[a]?) ∧ Rep (fun a => Z a ∨ kv a ≠ 0) h v.freeze d (fun _ => 0) := fun kv' _ _ => ⟨fun _ _ => rfl, q6.frz (fun _ z => .inl z) fun _ z => .inr z⟩
            obtain ⟨v0', d0', kv2, m2, k2, p1, p2, p3, p4, p5, p6, p7, p8, p9⟩ := plc_ok sr a e
            have srZ : ∃ S', SR (fun a => Z a ∨ kv a ≠ 0) h σ' τ S' ∧ ∀ b, S' b + kv b ≤ S b := by
              have sr2 : SR (fun a => Z a ∨ kv a ≠ 0) h (σ.set i none) τ k := q8.frame (fun _ z => .inl z) fun _ _ => rfl
              have il : i < σ.length := by
                have := q1
                unfold slot at this
                rcases Nat.lt_or_ge i σ.length with z | z
                · exact z
                · rw [List.getElem?_eq_none z] at this; cases this
              have ti : τ.set i (some d0) = τ := by
                refine List.ext_getElem? fun j => ?_
                by_cases c : i = j
                · subst c
                  rw [q3, List.getElem?_set_self (List.getElem?_eq_some_iff.mp q3).1]
                · rw [List.getElem?_set_ne c]
              have fz := q6.frz (Z' := fun a => Z a ∨ kv a ≠ 0) (fun _ z => .inl z) fun _ z => .inr z
              have new := sr2.fill (q9 (by simpa using c) (fun a => Z a ∨ kv a ≠ 0) h v.freeze (fun _ => 0) (fun _ z => .inl z) (fun _ _ => rfl) fz) il
              rw [ti] at new
              have es : σ' = σ.set i (some (setP v0 p v.freeze)) := by
                cases p with
                | nil => cases e2; rfl
                | cons j p =>
                  have e' : (match slot σ i with
                    | some v => match getP v (j :: p) with
                      | some w0 => if w0.fz = true then none else some (σ.set i (some (setP v (j :: p) _)))
                      | none => none
                    | none => none) = some σ' := e2
                  rw [q1] at e'
                  dsimp only at e'
                  rw [q2] at e'
                  dsimp only at e'
                  rw [if_neg c] at e'
                  cases e'; rfl
              rw [es]
              exact ⟨_, new, fun b => by have := q7 b; (try dsimp only); omega⟩
            obtain ⟨S', sr', l⟩ := srZ
            have fz := q6.frz (Z' := fun a => Z a ∨ kv a ≠ 0) (fun _ z => .inl z) fun _ z => .inr z
            refine ⟨d, h, _, S', fun _ => 0, rfl, ⟨fun _ z => .inl z, fun _ _ => rfl, Nat.le_refl _⟩, sr', fz, ⟨fun b => ?_, fun b z => ?_, fun b hb => ?_⟩⟩
            · have := l b; have := gd.one b; (try dsimp only at this ⊢); omega
            · rcases z with z | z
              · have := l b; have := gd.fz b z; (try dsimp only at this ⊢); omega
              · have := l b; have := gd.one b; (try dsimp only at this ⊢); omega
            · have h1 := gd.lt b hb
              have := l b
              refine ⟨by have := h1.1; (try dsimp only at this ⊢); omega, fun z => ?_⟩
              rcases z with z | z
              · exact h1.2 z
              · have := h1.1; (try dsimp only at this); omega
theorem pick_ok {x : Ag} {v u : V} {d y : D} {j : Nat} {kv k : Cnt} (sr : SR Z h σ τ S) (a : AgR τ Z h x d f) (e : rd σ x = some v) (gd : Good Z h (fun b => S b + f b + F b))
    (hk : ∀ kv, Rep Z h v d kv → ∃ k, Rep Z h u y k ∧ (∀ b, k b ≤ kv b)) (ho : u.fz = true ∨ (kidsD h d)[j]? = some y) : OkR (AgR τ) Z h F τ (.ok (pick x j u) σ) (.ok y h) := by
  unfold pick
  obtain ⟨kv, rv, lv⟩ := rd_ok sr a e
  obtain ⟨k, ru, lu⟩ := hk kv rv
  by_cases c : u.fz = true
  · rw [if_pos c]
    have z0 := ru.fz0 c
    exact OkR.ok (rel := AgR τ) (f := k) sr ru (gd.le fun b => by have := z0 b; (try dsimp only); omega)
  · rw [if_neg c]
    cases x with
    | val w =>
      cases e
      obtain ⟨k2, ru2, lu2⟩ := hk f a
      exact OkR.ok (rel := AgR τ) (f := k2) sr ru2 (gd.le fun b => by have := lu2 b; (try dsimp only); omega)
    | plc i p =>
      obtain ⟨z, d0, t0, gD⟩ := a
      rcases ho with ho | ho
      · exact absurd ho c
      · exact OkR.ok (rel := AgR τ) (f := fun _ => 0) sr ⟨fun _ => rfl, d0, t0, getD_snoc gD ho⟩ (gd.le fun b => by (try dsimp only); omega)
/-! ### evaluation behind another one -/
theorem getD_ext {t : Hh} : ∀ {p : List Nat} {d e : D}, getD h d p = some e → getD (h ++ t) d p = some e
  | [], d, e, q => q
  | i :: p, d, e, q => by
    have q' : ((kidsD h d)[i]?.bind fun e => getD h e p) = some e := q
    show ((kidsD (h ++ t) d)[i]?.bind fun e => getD (h ++ t) e p) = some e
    cases z : (kidsD h d)[i]? with
    | none => rw [z] at q'; cases q'
    | some y =>
      rw [z] at q'
      have : (kidsD (h ++ t) d)[i]? = some y := by
        cases d with
        | ref a =>
          cases w : h[a]? with
          | none => simp only [kidsD, w] at z; simp at z
          | some o =>
            have w2 : (h ++ t)[a]? = some o := by rw [List.getElem?_append_left (List.getElem?_eq_some_iff.mp w).1]; exact w
            simp only [kidsD, w] at z
            simp only [kidsD, w2]
            exact z
        | tup ds => exact z
        | _ => simp [kidsD] at z
      rw [this]
      exact getD_ext (p := p) q'
theorem kids_of {v : V} {d y : D} {i : Nat} (r : Rep Z h v d f) (e : (kidsD h d)[i]? = some y) : ∃ x, v.kids[i]? = some x := by
  have len : (kidsD h d).length = v.kids.length := by
    cases v with
    | tup xs => obtain ⟨ds, ed, r⟩ := r; rw [ed]; exact r.length
    | lck xs => obtain ⟨ds, ed, _⟩ := r; rw [ed]; rfl
    | lst o xs => obtain ⟨a, ds, g, ed, eh, r, _⟩ := r; rw [ed]; simp only [kidsD, eh]; exact r.length
    | dic o ks vs => obtain ⟨a, ds, g, k, ed, eh, _, _, _, _, r, _⟩ := r; rw [ed]; simp only [kidsD, eh]; exact r.length
    | ins o c ns vs => obtain ⟨a, ds, g, ed, eh, _, r, _⟩ := r; rw [ed]; simp only [kidsD, eh]; exact r.length
    | _ => obtain ⟨ed, _⟩ := r; rw [ed]; rfl
  have := (List.getElem?_eq_some_iff.mp e).1
  exact ⟨_, List.getElem?_eq_getElem (by omega)⟩
theorem getP_of : ∀ {p : List Nat} {v : V} {d e : D} {f : Cnt}, Rep Z h v d f → getD h d p = some e → ∃ w, getP v p = some w
  | [], v, d, e, f, r, q => ⟨v, rfl⟩
  | i :: p, v, d, e, f, r, q => by
    have q' : ((kidsD h d)[i]?.bind fun e => getD h e p) = some e := q
    cases z : (kidsD h d)[i]? with
    | none => rw [z] at q'; cases q'
    | some y =>
      rw [z] at q'
      obtain ⟨x, ex⟩ := kids_of r z
      obtain ⟨y', k, m, h1, h2, _⟩ := r.kids ex
      rw [z] at h1
      cases h1
      obtain ⟨w, ew⟩ := getP_of (p := p) h2 q'
      exact ⟨w, by show (v.kids[i]?.bind fun w => getP w p) = some w; rw [ex]; exact ew⟩
/-- both: what was told first still stands -/
def Two (τ : St) (rel : Rl α β) (x : Ag) (d : D) : Rl α β := fun Z h y e c => ∃ f g, AgR τ Z h x d f ∧ rel Z h y e g ∧ ∀ b, c b = f b + g b
theorem after_ok {rel : Rl α β} {x : Ag} {d : D} {q : Bool} {m : Sv → RV α} {r : Hh → R β} (ho : RunOk rel τ m r) (hq : q = true → ∀ b h h', r h = .ok b h' → ∃ t, h' = h ++ t)
    (sr : SR Z h σ τ S) (a : AgR τ Z h x d f) (gd : Good Z h (fun b => S b + f b + F b)) : OkR (Two τ rel x d) Z h F τ (after x q m σ) (r h) := by
  have plain : (∀ b h', r h = .ok b h' → ∀ Z', (∀ a, Z a → Z' a) → (∀ a, Z a ∨ f a ≠ 0 → h'[a]? = h[a]?) → AgR τ Z' h' x d f) → OkR (Two τ rel x d) Z h F τ (m σ) (r h) := fun k => by
    have o := ho σ Z h (fun b => f b + F b) S sr (gd.le fun b => by (try dsimp only); omega)
    cases e : m σ with
    | ok y σ' =>
      rw [e] at o
      obtain ⟨b, h', Z', S', g, e1, st, sr', rl, gd'⟩ := o
      exact ⟨b, h', Z', S', fun b => f b + g b, e1, st.le fun b => by (try dsimp only); omega, sr', ⟨f, g, k _ _ e1 Z' st.z fun a z => st.keep a (z.imp id fun z => by (try dsimp only); omega), rl, fun _ => rfl⟩, gd'.le fun b => by (try dsimp only); omega⟩
    | ex c row σ' =>
      rw [e] at o
      obtain ⟨h', Z', S', e1, st, sr', gd'⟩ := o
      exact ⟨h', Z', S', e1, st.le fun b => by (try dsimp only); omega, sr', gd'.le fun b => by (try dsimp only); omega⟩
    | bad => trivial
  cases x with
  | val v => exact plain fun b h' _ Z' hz hk => (show Rep Z h v d f from a).frame hz hk
  | plc i p =>
    cases p with
    | nil => exact plain fun b h' _ Z' _ _ => a
    | cons j p =>
      cases q with
      | true =>
        refine plain fun b h' e1 Z' _ _ => ?_
        obtain ⟨t, e2⟩ := hq rfl b h h' e1
        subst e2
        obtain ⟨z, d0, t0, gD⟩ := a
        exact ⟨z, d0, t0, getD_ext gD⟩
      | false =>
        show OkR (Two τ rel (.plc i (j :: p)) d) Z h F τ (lend i m σ) (r h)
        unfold lend
        cases e0 : slot σ i with
        | none => trivial
        | some v0 =>
          dsimp only
          obtain ⟨z, d0, t0, gD⟩ := a
          obtain ⟨d0', g0, k, t0', r0, s0, sr0, _⟩ := sr.get e0
          rw [t0] at t0'
          cases t0'
          obtain ⟨w, ew⟩ := getP_of r0 gD
          have ti : τ.set i (some d0) = τ := by
            refine List.ext_getElem? fun j => ?_
            by_cases c : i = j
            · subst c
              rw [t0, List.getElem?_set_self (List.getElem?_eq_some_iff.mp t0).1]
            · rw [List.getElem?_set_ne c]
          have o := ho (σ.set i none) Z h (fun b => g0 b + F b) k sr0 (gd.le fun b => by have := s0 b; (try dsimp only); omega)
          cases e : m (σ.set i none) with
          | ok y σ' =>
            rw [e] at o
            obtain ⟨b, h', Z', S', g, e1, st, sr', rl, gd'⟩ := o
            obtain ⟨S2, l2, sr2⟩ := sr'.put (r0.stp st fun b => by (try dsimp only); omega) i
            rw [ti] at sr2
            exact ⟨b, h', Z', S2, g, e1, st.le fun b => by (try dsimp only); omega, sr2, ⟨fun _ => 0, g, ⟨fun _ => rfl, d0, t0, by rw [getD_frame r0 ew fun a z => st.keep a (z.imp id fun z => by (try dsimp only); omega)]; exact gD⟩, rl, fun _ => by (try dsimp only); omega⟩, gd'.le fun b => by have := l2 b; (try dsimp only); omega⟩
          | ex c row σ' =>
            rw [e] at o
            obtain ⟨h', Z', S', e1, st, sr', gd'⟩ := o
            obtain ⟨S2, l2, sr2⟩ := sr'.put (r0.stp st fun b => by (try dsimp only); omega) i
            rw [ti] at sr2
            exact ⟨h', Z', S2, e1, st.le fun b => by (try dsimp only); omega, sr2, gd'.le fun b => by have := l2 b; (try dsimp only); omega⟩
          | bad => trivial
/-! ### slots set free for a while -/
theorem one_ok {rel : Rl α β} {i : Nat} {m : Sv → RV α} {r : R β} {B : Cnt} (ho : RunAt rel (τ.set i none) Z h B m r) : RunAt rel τ Z h B (oneV i m) r := fun σ F S sr gd lB => by
  unfold oneV
  have hlen := sr.length
  cases e0 : slot σ i with
  | none =>
    have e1 : ∀ j : Nat, (σ.set i none)[j]? = if j = i then (if i < σ.length then some none else none) else σ[j]? := fun j => by
      by_cases c : j = i
      · subst c
        rw [if_pos rfl]
        by_cases l : j < σ.length
        · rw [if_pos l, List.getElem?_set_self l]
        · rw [if_neg l, List.getElem?_eq_none (by rw [List.length_set]; omega)]
      · rw [if_neg c, List.getElem?_set_ne (Ne.symm c)]
    obtain ⟨k, l, _, h3⟩ := sr.drop i
    have o := ho (σ.set i none) F k (h3 none) (gd.le fun b => by have := l b; (try dsimp only); omega) lB
    have back : ∀ {σ' : Sv} {Z' h' S'}, SR Z' h' σ' (τ.set i none) S' → ∃ S2, (∀ b, S2 b ≤ S' b) ∧ SR Z' h' (σ'.set i none) τ S2 := fun {σ' Z' h' S'} sr' => by
      obtain ⟨k, l, _, h3⟩ := sr'.drop i
      by_cases c : i < τ.length
      · refine ⟨k, l, ?_⟩
        have := h3 (τ[i])
        rw [List.set_set, List.set_getElem_self] at this
        exact this
      · have := h3 none
        rw [List.set_set, List.set_eq_of_length_le (l := τ) (by omega)] at this
        exact ⟨k, l, this⟩
    cases e : m (σ.set i none) with
    | ok y σ' =>
      rw [e] at o
      obtain ⟨b, h', Z', S', g, e1, st, sr', rl, gd'⟩ := o
      obtain ⟨S2, l2, sr2⟩ := back sr'
      exact ⟨b, h', Z', S2, g, e1, st, sr2, rl, gd'.le fun b => by have := l2 b; (try dsimp only); omega⟩
    | ex c row σ' =>
      rw [e] at o
      obtain ⟨h', Z', S', e1, st, sr', gd'⟩ := o
      obtain ⟨S2, l2, sr2⟩ := back sr'
      exact ⟨h', Z', S2, e1, st, sr2, gd'.le fun b => by have := l2 b; (try dsimp only); omega⟩
    | bad => trivial
  | some v0 =>
    obtain ⟨d0, g0, k, t0, r0, s0, sr0, _⟩ := sr.get e0
    have ti : τ.set i (some d0) = τ := by
      refine List.ext_getElem? fun j => ?_
      by_cases c : i = j
      · subst c
        rw [t0, List.getElem?_set_self (List.getElem?_eq_some_iff.mp t0).1]
      · rw [List.getElem?_set_ne c]
    obtain ⟨k', lk, _, h3⟩ := sr0.drop i
    rw [List.set_set] at h3
    have o := ho (σ.set i none) (fun b => g0 b + F b) k' (h3 none) (gd.le fun b => by have := s0 b; have := lk b; (try dsimp only); omega) (fun b => by have := lB b; (try dsimp only); omega)
    have back : ∀ {σ' : Sv} {Z' : Nat → Prop} {h' : Hh} {S' : Cnt}, Stp Z h (fun b => g0 b + F b) Z' h' → SR Z' h' σ' (τ.set i none) S' → ∃ S2, (∀ b, S2 b ≤ g0 b + S' b) ∧ SR Z' h' (σ'.set i (some v0)) τ S2 := fun {σ' Z' h' S'} st sr' => by
      obtain ⟨S2, l2, sr2⟩ := sr'.put (r0.stp st fun b => by (try dsimp only); omega) i
      rw [List.set_set, ti] at sr2
      exact ⟨S2, l2, sr2⟩
    cases e : m (σ.set i none) with
    | ok y σ' =>
      rw [e] at o
      obtain ⟨b, h', Z', S', g, e1, st, sr', rl, gd'⟩ := o
      obtain ⟨S2, l2, sr2⟩ := back st sr'
      exact ⟨b, h', Z', S2, g, e1, st.le fun b => by (try dsimp only); omega, sr2, rl, gd'.le fun b => by have := l2 b; (try dsimp only); omega⟩
    | ex c row σ' =>
      rw [e] at o
      obtain ⟨h', Z', S', e1, st, sr', gd'⟩ := o
      obtain ⟨S2, l2, sr2⟩ := back st sr'
      exact ⟨h', Z', S2, e1, st.le fun b => by (try dsimp only); omega, sr2, gd'.le fun b => by have := l2 b; (try dsimp only); omega⟩
    | bad => trivial
theorem with_ok {rel : Rl α β} {r : R β} {B : Cnt} : ∀ {g : List Nat} {m : Sv → RV α}, RunAt rel (wipeD τ g) Z h B m r → RunAt rel τ Z h B (withV g m) r
  | [], m, ho => ho
  | v :: vs, m, ho => with_ok (g := vs) (one_ok ho)
theorem wipe_ok : ∀ {g : List Nat} {σ : Sv} {τ τ' : St} {S : Cnt}, SR Z h σ τ S → (∀ j : Nat, j ∉ g → τ'[j]? = τ[j]?) → τ'.length = τ.length → ∃ S', (∀ b, S' b ≤ S b) ∧ SR Z h (wipeV σ g) (wipeD τ' g) S'
  | [], σ, τ, τ', S, sr, e, l => by
    have : τ' = τ := List.ext_getElem? fun j => e j (by simp)
    rw [this]
    exact ⟨S, fun _ => Nat.le_refl _, sr⟩
  | v :: vs, σ, τ, τ', S, sr, e, l => by
    obtain ⟨k, lk, _, h3⟩ := sr.drop v
    have comm : ∀ (σ : Sv) (g : List Nat), (wipeV (σ.set v none) g).set v none = (wipeV σ g).set v none := fun σ g => by
      induction g with
      | nil => show (σ.set v none).set v none = _; rw [List.set_set]; rfl
      | cons w g ih =>
        show ((wipeV (σ.set v none) g).set w none).set v none = ((wipeV σ g).set w none).set v none
        by_cases c : w = v
        · subst c; rw [List.set_set, List.set_set, ih]
        · rw [List.set_comm _ _ c, ih, List.set_comm _ _ c]
    have hv : SR Z h (σ.set v none) (τ.set v (τ'[v]?.join)) k := h3 _
    obtain ⟨S', l', sr'⟩ := wipe_ok (g := vs) (τ' := τ') hv (fun j hj => by
      by_cases c : v = j
      · subst c
        by_cases z : v < τ.length
        · rw [List.getElem?_set_self z, List.getElem?_eq_getElem (by omega)]; rfl
        · rw [List.getElem?_eq_none (by omega), List.getElem?_eq_none (by rw [List.length_set]; omega)]
      · rw [List.getElem?_set_ne c]
        exact e j (by simp [hj, Ne.symm c])) (by rw [List.length_set]; exact l)
    obtain ⟨k2, lk2, _, h4⟩ := sr'.drop v
    refine ⟨k2, fun b => by have := lk2 b; have := l' b; have := lk b; omega, ?_⟩
    have := h4 none
    rw [comm] at this
    exact this
end
end VX
end

section
set_option Elab.async false
set_option linter.all false
set_option maxRecDepth 100000
set_option maxHeartbeats 4000000
/-! VX7: expressions: what is told without the heap is told over it. -/
namespace VX
open PySem IX
/-- the defs' calls -/
structure CallsOk (P : PgV) (Q : Pg) : Prop where
  call : ∀ f vs ds Z h F A, RepL Z h vs ds A → Good Z h (fun b => A b + F b) → OkR Rep Z h F (ds.map some) (P.call f vs) (Q.call f ds h)
  meth : P.meth = Q.meth
  init : P.init = Q.init
/-- what comes back where -/
def Held (τ : St) (Z : Nat → Prop) (h : Hh) : List (Option (Nat × List Nat × V)) → List D → Cnt → Prop
  | [], _, M => isZ M
  | none :: is, ds, M => ∃ d es, ds = d :: es ∧ Held τ Z h is es M
  | some (i, p, v0) :: is, ds, M => ∃ (d : D) (es : List D) (d0 : D) (m M' : Cnt), ds = d :: es ∧ Held τ Z h is es M' ∧ (∀ b, M b = m b + M' b) ∧ τ[i]? = some (some d0) ∧
    ∀ (Z' : Nat → Prop) (h' : Hh) (w : V) (k' : Cnt), (∀ a, Z a → Z' a) → (∀ a, Z a ∨ m a ≠ 0 → h'[a]? = h[a]?) → Rep Z' h' w d k' → Rep Z' h' (setP v0 p w) d0 (fun b => k' b + m b)
section
variable {α β γ δ : Type} {Z Z' Z2 : Nat → Prop} {h h' h2 : Hh} {F G f g S : Cnt} {τ : St} {σ : Sv}
theorem set_get {i : Nat} {d0 : D} (t0 : τ[i]? = some (some d0)) : τ.set i (some d0) = τ := by
  refine List.ext_getElem? fun j => ?_
  by_cases c : i = j
  · subst c
    rw [t0, List.getElem?_set_self (List.getElem?_eq_some_iff.mp t0).1]
  · rw [List.getElem?_set_ne c]
theorem take_ok : ∀ {as : List Ag} {ds : List D} {σ : Sv} {S f : Cnt} {vs : List V} {σ1 : Sv} {is : List (Option (Nat × List Nat × V))}, takeA as σ = some (vs, σ1, is) → SR Z h σ τ S → AgRL τ Z h as ds f → ∃ A R M, RepL Z h vs ds A ∧ SR Z h σ1 τ R ∧ Held τ Z h is ds M ∧ ∀ b, A b + R b + M b ≤ S b + f b
  | [], ds, σ, S, f, vs, σ1, is, e, sr, a => by
    cases e
    exact ⟨fun _ => 0, S, fun _ => 0, ⟨a.1, fun _ => rfl⟩, sr, fun _ => rfl, fun b => by (try dsimp only); omega⟩
  | .val v :: r, ds, σ, S, f, vs, σ1, is, e, sr, ⟨d, es, f1, f2, ed, a1, a2, s⟩ => by
    have e' : (takeA r σ).map (fun q => (v :: q.1, q.2.1, none :: q.2.2)) = some (vs, σ1, is) := e
    cases q : takeA r σ with
    | none => rw [q] at e'; cases e'
    | some q3 =>
      rw [q] at e'
      obtain ⟨A, R, M, h1, h2, h3, h4⟩ := take_ok (vs := q3.1) (σ1 := q3.2.1) (is := q3.2.2) q sr a2
      cases e'
      subst ed
      exact ⟨fun b => f1 b + A b, R, M, ⟨d, es, f1, A, rfl, a1, h1, fun _ => rfl⟩, h2, ⟨d, es, rfl, h3⟩, fun b => by have := h4 b; have := s b; (try dsimp only); omega⟩
  | .plc i p :: r, ds, σ, S, f, vs, σ1, is, e, sr, ⟨d, es, f1, f2, ed, a1, a2, s⟩ => by
    subst ed
    have e' : (match rd σ (.plc i p), slot σ i with
      | some v, some v0 => if v.fz = true then (takeA r σ).map fun q => (v :: q.1, q.2.1, none :: q.2.2)
        else (takeA r (σ.set i none)).map fun q => (v :: q.1, q.2.1, some (i, p, v0) :: q.2.2)
      | _, _ => none) = some (vs, σ1, is) := e
    cases q1 : rd σ (.plc i p) with
    | none => rw [q1] at e'; cases e'
    | some v =>
      obtain ⟨v0, d0, kv, m, k, p1, p2, p3, p4, p5, p6, p7, p8, p9⟩ := plc_ok sr a1 q1
      rw [q1, p1] at e'
      dsimp only at e'
      by_cases c : v.fz = true
      · rw [if_pos c] at e'
        cases q : takeA r σ with
        | none => rw [q] at e'; cases e'
        | some q3 =>
          rw [q] at e'
          obtain ⟨A, R, M, h1, h2, h3, h4⟩ := take_ok (vs := q3.1) (σ1 := q3.2.1) (is := q3.2.2) q sr a2
          cases e'
          have z0 := p6.fz0 c
          exact ⟨A, R, M, ⟨d, es, kv, A, rfl, p6, h1, fun b => by have := z0 b; omega⟩, h2, ⟨d, es, rfl, h3⟩, fun b => by have := h4 b; have := s b; omega⟩
      · rw [if_neg c] at e'
        cases q : takeA r (σ.set i none) with
        | none => rw [q] at e'; cases e'
        | some q3 =>
          rw [q] at e'
          obtain ⟨A, R, M, h1, h2, h3, h4⟩ := take_ok (vs := q3.1) (σ1 := q3.2.1) (is := q3.2.2) q p8 a2
          cases e'
          exact ⟨fun b => kv b + A b, R, fun b => m b + M b, ⟨d, es, kv, A, rfl, p6, h1, fun _ => rfl⟩, h2, ⟨d, es, d0, m, M, rfl, h3, fun _ => rfl, p3, p9 (by simpa using c)⟩, fun b => by have := h4 b; have := s b; have := p7 b; (try dsimp only); omega⟩
theorem give_ok (st : Stp Z h F Z' h') : ∀ {is : List (Option (Nat × List Nat × V))} {ds : List D} {fs : List (Option V)} {M A R : Cnt} {σ σ' : Sv}, Held τ Z h is ds M → (∀ b, M b ≤ F b) → SR Z' h' fs (ds.map some) A → SR Z' h' σ τ R → giveA is fs σ = some σ' → ∃ S', SR Z' h' σ' τ S' ∧ ∀ b, S' b ≤ A b + R b + M b
  | [], ds, fs, M, A, R, σ, σ', hd, l, sf, sr, e => by
    have e' : σ = σ' := Option.some.inj (by cases fs <;> exact e)
    subst e'
    exact ⟨R, sr, fun b => by omega⟩
  | none :: is, ds, fs, M, A, R, σ, σ', ⟨d, es, ed, hd⟩, l, sf, sr, e => by
    subst ed
    cases fs with
    | nil => cases e
    | cons w fs =>
      have e' : giveA is fs σ = some σ' := e
      cases w with
      | none =>
        obtain ⟨t, τ', et, sf⟩ := sf
        cases et
        exact give_ok st hd l sf sr e'
      | some w =>
        obtain ⟨t, τ', f1, f2, et, _, sf, s⟩ := sf
        cases et
        obtain ⟨S', h1, h2⟩ := give_ok st hd l sf sr e'
        exact ⟨S', h1, fun b => by have := h2 b; have := s b; omega⟩
  | some (i, p, v0) :: is, ds, fs, M, A, R, σ, σ', ⟨d, es, d0, m, M', ed, hd, sM, t0, hw⟩, l, sf, sr, e => by
    subst ed
    cases fs with
    | nil => cases e
    | cons w fs =>
      cases w with
      | none =>
        obtain ⟨t, τ', et, sf⟩ := sf
        cases et
        cases p with
        | nil =>
          obtain ⟨S', h1, h2⟩ := give_ok st hd (fun b => by have := l b; have := sM b; omega) sf sr (show giveA is fs σ = some σ' from e)
          exact ⟨S', h1, fun b => by have := h2 b; have := sM b; omega⟩
        | cons j p => cases e
      | some w =>
        obtain ⟨t, τ', f1, f2, et, rw_, sf, s⟩ := sf
        cases et
        have new := hw Z' h' w f1 st.z (fun a z => st.keep a (z.imp id fun z => by have := l a; have := sM a; omega)) rw_
        obtain ⟨k, l2, sr2⟩ := sr.put new i
        rw [set_get t0] at sr2
        obtain ⟨S', h1, h2⟩ := give_ok st hd (fun b => by have := l b; have := sM b; omega) sf sr2 (show giveA is fs (σ.set i (some (setP v0 p w))) = some σ' from e)
        exact ⟨S', h1, fun b => by have := h2 b; have := l2 b; have := s b; have := sM b; (try dsimp only at *); omega⟩
theorem gave_ok {is : List (Option (Nat × List Nat × V))} {ds : List D} {A Rc M : Cnt} {m : RV V} {r : R D} (hd : Held τ Z h is ds M) (sr : SR Z h σ τ Rc) (gd : Good Z h (fun b => A b + (Rc b + M b + F b)))
    (o : OkR Rep Z h (fun b => Rc b + M b + F b) (ds.map some) m r) : OkR (AgR τ) Z h F τ (gaveA is σ m) r := by
  cases m with
  | ok v fs =>
    obtain ⟨d, h', Z', S, f, e, st, sf, rp, gd'⟩ := o
    show OkR (AgR τ) Z h F τ (match giveA is fs σ with
      | some σ' => .ok (.val v) σ'
      | none => .bad) r
    cases q : giveA is fs σ with
    | none => trivial
    | some σ' =>
      obtain ⟨S', h1, h2⟩ := give_ok st hd (fun b => by (try dsimp only); omega) sf (sr.stp st fun b => by (try dsimp only); omega) q
      exact ⟨d, h', Z', S', f, e, st.le fun b => by (try dsimp only); omega, h1, rp, gd'.le fun b => by have := h2 b; (try dsimp only); omega⟩
  | ex c row fs =>
    obtain ⟨h', Z', S, e, st, sf, gd'⟩ := o
    show OkR (AgR τ) Z h F τ (match giveA is fs σ with
      | some σ' => .ex c row σ'
      | none => .bad) r
    cases q : giveA is fs σ with
    | none => trivial
    | some σ' =>
      obtain ⟨S', h1, h2⟩ := give_ok st hd (fun b => by (try dsimp only); omega) sf (sr.stp st fun b => by (try dsimp only); omega) q
      exact ⟨h', Z', S', e, st.le fun b => by (try dsimp only); omega, h1, gd'.le fun b => by have := h2 b; (try dsimp only); omega⟩
  | bad => trivial
theorem callA_ok {P : PgV} {Q : Pg} (K : CallsOk P Q) {n : Nat} {as : List Ag} {ds : List D} (sr : SR Z h σ τ S) (a : AgRL τ Z h as ds f) (gd : Good Z h (fun b => S b + f b + F b)) : OkR (AgR τ) Z h F τ (callA P n as σ) (Q.call n ds h) := by
  unfold callA
  cases q : takeA as σ with
  | none => trivial
  | some q3 =>
    obtain ⟨vs, σ1, is⟩ := q3
    obtain ⟨A, R, M, h1, h2, h3, h4⟩ := take_ok q sr a
    have gd2 : Good Z h (fun b => A b + (R b + M b + F b)) := gd.le fun b => by have := h4 b; (try dsimp only); omega
    exact gave_ok h3 h2 gd2 (K.call n vs ds Z h _ A h1 gd2)
theorem mkA_ok {P : PgV} {Q : Pg} (K : CallsOk P Q) {c n : Nat} {as : List Ag} {ds : List D} (sr : SR Z h σ τ S) (a : AgRL τ Z h as ds f) (gd : Good Z h (fun b => S b + f b + F b)) :
    OkR (AgR τ) Z h F τ (mkA P c n as σ) ((Q.call n (.ref h.length :: ds) (h ++ [.ins c []])).bind fun v h2 => match v with
      | .non => .ok (.ref h.length) h2
      | _ => .bad) := by
  unfold mkA
  cases q : takeA as σ with
  | none => trivial
  | some q3 =>
    obtain ⟨vs, σ1, is⟩ := q3
    dsimp only
    obtain ⟨A, R, M, h1, h2, h3, h4⟩ := take_ok q sr a
    have gd2 : Good Z h (fun b => A b + (R b + M b + F b)) := gd.le fun b => by have := h4 b; (try dsimp only); omega
    have st1 : Stp Z h (fun b => A b + (R b + M b + F b)) Z (h ++ [.ins c []]) := Good.stpx (f := fun _ => 0) (gd2.le fun b => by (try dsimp only); omega) _
    refine gave_ok (A := A) h3 h2 gd2 ?_
    have ri : Rep Z (h ++ [.ins c []]) (.ins true c [] []) (.ref h.length) (fun b => if b = h.length then 1 else 0) := ⟨h.length, [], fun _ => 0, rfl, get_end, rfl, ⟨rfl, fun _ => rfl⟩, fun b => rfl⟩
    have gd3 : Good Z (h ++ [.ins c []]) (fun b => ((if b = h.length then 1 else 0) + A b) + (R b + M b + F b)) := by
      refine ⟨fun b => ?_, fun b z => ?_, fun b hb => ?_⟩
      · have h1 := gd2.one b
        by_cases cc : b = h.length
        · have h5 := (gd2.lt b (by omega)).1
          (try dsimp only at *); rw [if_pos cc]; omega
        · (try dsimp only at *); rw [if_neg cc]; omega
      · have h1 := gd2.fz b z
        have h5 := gd2.zlt b z
        (try dsimp only at *); rw [if_neg (by omega)]; omega
      · rw [List.length_append] at hb
        have hb' : h.length + 1 ≤ b := hb
        have h1 := gd2.lt b (by omega)
        refine ⟨?_, h1.2⟩
        have h1 := h1.1
        (try dsimp only at *); rw [if_neg (by omega)]; omega
    have o := K.call n (.ins true c [] [] :: vs) (.ref h.length :: ds) Z (h ++ [.ins c []]) (fun b => R b + M b + F b) _ ⟨_, _, _, A, rfl, ri, h1.stp st1 (fun b => by (try dsimp only); omega), fun _ => rfl⟩ gd3
    have o2 := OkR.pre (st1.le fun b => by (try dsimp only); omega) o
    cases e : P.call n (.ins true c [] [] :: vs) with
    | bad => trivial
    | ex d row fs =>
      rw [e] at o2
      obtain ⟨h', Z', S', e1, st, sf, gd'⟩ := o2
      cases fs with
      | nil => trivial
      | cons w fs =>
        have : ∃ S2, (∀ b, S2 b ≤ S' b) ∧ SR Z' h' fs (ds.map some) S2 := by
          cases w with
          | none => obtain ⟨t, τ', et, sf⟩ := sf; cases et; exact ⟨_, fun _ => Nat.le_refl _, sf⟩
          | some w => obtain ⟨t, τ', f1, f2, et, _, sf, s⟩ := sf; cases et; exact ⟨_, fun b => by have := s b; omega, sf⟩
        obtain ⟨S2, l, sf2⟩ := this
        refine ⟨h', Z', S2, by rw [e1]; rfl, st, sf2, gd'.le fun b => by have := l b; (try dsimp only); omega⟩
    | ok v fs =>
      rw [e] at o2
      obtain ⟨d, h', Z', S', g, e1, st, sf, rp, gd'⟩ := o2
      cases v with
      | non =>
        obtain ⟨ed, _⟩ := rp
        subst ed
        cases fs with
        | nil => trivial
        | cons w fs =>
          cases w with
          | none => trivial
          | some i =>
            obtain ⟨t, τ', f1, f2, et, ri2, sf, s⟩ := sf
            cases et
            show OkR Rep Z h _ _ (.ok (if P.frz c = true then i.freeze else i) fs) _
            by_cases cf : P.frz c = true
            · rw [if_pos cf]
              have fz := ri2.frz (Z' := fun a => Z' a ∨ f1 a ≠ 0) (fun _ z => .inl z) fun _ z => .inr z
              refine ⟨.ref h.length, h', _, f2, fun _ => 0, by rw [e1]; rfl, ⟨fun a z => .inl (st.z a z), st.keep, st.len⟩, sf.frame (fun _ z => .inl z) fun _ _ => rfl, fz, ⟨fun b => ?_, fun b z => ?_, fun b hb => ?_⟩⟩
              · have := gd'.one b; have := s b; (try dsimp only at *); omega
              · rcases z with z | z
                · have := gd'.fz b z; have := s b; (try dsimp only at *); omega
                · have := gd'.one b; have := s b; (try dsimp only at *); omega
              · have h1 := gd'.lt b hb
                have := s b
                refine ⟨by have := h1.1; (try dsimp only at *); omega, fun z => ?_⟩
                rcases z with z | z
                · exact h1.2 z
                · have := h1.1; (try dsimp only at *); omega
            · rw [if_neg cf]
              exact ⟨.ref h.length, h', Z', f2, f1, by rw [e1]; rfl, st, sf, ri2, gd'.le fun b => by have := s b; (try dsimp only); omega⟩
      | _ => trivial
/-! ### quiet runs lay new things only -/
def Xt (h : Hh) (m : R α) : Prop := ∀ x h', m = .ok x h' → ∃ t, h' = h ++ t
theorem Xt.ok {x : α} : Xt h (.ok x h) := fun _ _ e => by cases e; exact ⟨[], (List.append_nil _).symm⟩
theorem Xt.new {o : O} : Xt h (R.new o h) := fun _ _ e => by cases e; exact ⟨_, rfl⟩
theorem Xt.bad : Xt h (R.bad : R α) := fun _ _ e => nomatch e
theorem Xt.bind {m : R α} {k : α → Hh → R β} (a : Xt h m) (b : ∀ x h', Xt h' (k x h')) : Xt h (m.bind k) := fun x h' e => by
  cases m with
  | ok y h1 =>
    obtain ⟨t, e1⟩ := a y h1 rfl
    obtain ⟨t2, e2⟩ := b y h1 x h' e
    exact ⟨t ++ t2, by rw [e2, e1, List.append_assoc]⟩
  | ex c fs h1 => cases e
  | bad => cases e
theorem Xt.ite {c : Prop} [Decidable c] {a b : R α} (x : Xt h a) (y : Xt h b) : Xt h (if c then a else b) := by
  by_cases z : c
  · rw [if_pos z]; exact x
  · rw [if_neg z]; exact y
theorem xt_str {x : Str} : Xt h (strD x h) := .ite .ok .bad
theorem xt_bl {b : Option Bool} : Xt h (bl! b h) := by cases b <;> first | exact .ok | exact .bad
theorem xt_ne {b : Option Bool} : Xt h (neD b h) := by cases b <;> first | exact .ok | exact .bad
theorem xt_cmp {p : Int → Int → Bool} {x y : D} : Xt h (cmpD p x y h) := by unfold cmpD; split <;> first | exact .ok | exact .bad
theorem xt_bin {o : Op} {x y : D} : Xt h (binop o x y h) := by
  cases o with
  | add => show Xt h (addD x y h); unfold addD; split <;> first | exact .ok | exact xt_str | exact .ite .ok .bad | (split <;> first | exact .ite .new .bad | exact .bad)
  | sub => show Xt h (subD x y h); unfold subD; split <;> first | exact .ok | exact .bad
  | mul => show Xt h (mulD x y h); unfold mulD; split <;> first | exact .ite .ok .bad | exact .bad | (split <;> first | exact .ite .new .bad | exact .bad)
  | fdiv => show Xt h (fdivD x y h); unfold fdivD; split <;> first | exact .ite .ok .bad | exact .bad
  | mod => show Xt h (modD x y h); unfold modD; split <;> first | exact .ite .ok .bad | exact .bad
  | pow => show Xt h (powD x y h); unfold powD; split <;> first | exact .ite .ok .bad | exact .bad
  | eq => exact xt_bl
  | ne => exact xt_bl
  | lt => exact xt_cmp
  | le => exact xt_cmp
  | gt => exact xt_cmp
  | ge => exact xt_cmp
  | isin => exact xt_bl
  | notin => exact xt_ne
  | is_ => exact xt_bl
  | isnot => exact xt_ne
theorem xt_idx {x y : D} : Xt h (idxD x y h) := by
  unfold idxD
  repeat' (first | exact .ok | exact .bad | split)
theorem xt_fld {x : D} {n : Str} : Xt h (fldD x n h) := by
  unfold fldD
  repeat' (first | exact .ok | exact .bad | split)
theorem xt_slc {x : D} {l u : Option Int} : Xt h (slcD x l u h) := by
  unfold slcD
  repeat' (first | exact .ok | exact .bad | exact .new | split)
theorem xt_rev {x : D} : Xt h (revD x h) := by
  unfold revD
  repeat' (first | exact .ok | exact .bad | exact .new | split)
theorem xt_pt {e : E} {m : R D} (a : Xt h m) : Xt h (ptOf e m h) := by
  unfold ptOf
  split
  · exact .ok
  · refine a.bind fun x h' => ?_
    cases x <;> first | exact .ok | exact .bad
theorem xt_tr {x : D} {m m2 : R α} {h1 : Hh} (a : Xt h1 m) (b : Xt h1 m2) : Xt h1 (match truth x h1 with
    | some true => m
    | some false => m2
    | none => .bad) := by
  cases truth x h1 with
  | none => exact .bad
  | some c => cases c <;> assumption
section
variable {Q : Pg}
mutual
theorem quiet_ext : ∀ (e : E) (τ : St) (h : Hh), e.quiet = true → Xt h (evalE Q e τ h)
  | .loc i, τ, h, q => by
    show Xt h (match τ[i]? with
      | some (some v) => .ok v h
      | _ => .bad)
    split <;> first | exact .ok | exact .bad
  | .cst d, τ, h, q => .ok
  | .nil, τ, h, q => .bad
  | .cons a b, τ, h, q => .bad
  | .bop o a b, τ, h, q => by
    have q' : (a.quiet && b.quiet) = true := q
    rw [Bool.and_eq_true] at q'
    exact (quiet_ext a τ h q'.1).bind fun x h1 => (quiet_ext b τ h1 q'.2).bind fun y h2 => xt_bin
  | .cmp2 o p a b c, τ, h, q => by
    have q' : (a.quiet && b.quiet && c.quiet) = true := q
    rw [Bool.and_eq_true, Bool.and_eq_true] at q'
    refine (quiet_ext a τ h q'.1.1).bind fun x h1 => (quiet_ext b τ h1 q'.1.2).bind fun y h2 => xt_bin.bind fun z h3 => ?_
    split
    · exact (quiet_ext c τ _ q'.2).bind fun w h4 => xt_bin
    · exact .ok
    · exact .bad
  | .neg a, τ, h, q => (quiet_ext a τ h q).bind fun x h1 => by cases x <;> first | exact .ok | exact .bad
  | .not a, τ, h, q => (quiet_ext a τ h q).bind fun x h1 => by split <;> first | exact .ok | exact .bad
  | .and a b, τ, h, q => by
    have q' : (a.quiet && b.quiet) = true := q
    rw [Bool.and_eq_true] at q'
    exact (quiet_ext a τ h q'.1).bind fun x h1 => xt_tr (quiet_ext b τ h1 q'.2) .ok
  | .or a b, τ, h, q => by
    have q' : (a.quiet && b.quiet) = true := q
    rw [Bool.and_eq_true] at q'
    exact (quiet_ext a τ h q'.1).bind fun x h1 => xt_tr .ok (quiet_ext b τ h1 q'.2)
  | .ite c a b, τ, h, q => by
    have q' : (c.quiet && a.quiet && b.quiet) = true := by
      have q2 : (c.quiet && a.quiet && b.quiet) = true := q
      exact q2
    rw [Bool.and_eq_true, Bool.and_eq_true] at q'
    exact (quiet_ext c τ h q'.1.1).bind fun x h1 => xt_tr (quiet_ext a τ h1 q'.1.2) (quiet_ext b τ h1 q'.2)
  | .tup es, τ, h, q => (quiet_exts es τ h q).bind fun x h1 => .ite .ok .bad
  | .lst es, τ, h, q => (quiet_exts es τ h q).bind fun x h1 => .ite .new .bad
  | .idx a b, τ, h, q => by
    have q' : (a.quiet && b.quiet) = true := q
    rw [Bool.and_eq_true] at q'
    exact (quiet_ext a τ h q'.1).bind fun x h1 => (quiet_ext b τ h1 q'.2).bind fun y h2 => xt_idx
  | .slc a b c, τ, h, q => by
    have q' : (a.quiet && b.quiet && c.quiet) = true := q
    rw [Bool.and_eq_true, Bool.and_eq_true] at q'
    exact (quiet_ext a τ h q'.1.1).bind fun x h1 => (xt_pt (quiet_ext b τ h1 q'.1.2)).bind fun y h2 => (xt_pt (quiet_ext c τ h2 q'.2)).bind fun z h3 => xt_slc
  | .rev a, τ, h, q => (quiet_ext a τ h q).bind fun x h1 => xt_rev
  | .isi a ts, τ, h, q => (quiet_ext a τ h q).bind fun x h1 => xt_bl
  | .fld a n, τ, h, q => (quiet_ext a τ h q).bind fun x h1 => xt_fld
  | .dic _, _, _, q => by cases q
  | .call _ _, _, _, q => by cases q
  | .bi _ _, _, _, q => by cases q
  | .me _ _ _, _, _, q => by cases q
  | .meth _ _ _, _, _, q => by cases q
  | .mk _ _, _, _, q => by cases q
  | .rng1 _, _, _, q => by cases q
  | .rng2 _ _, _, _, q => by cases q
  | .enum _, _, _, q => by cases q
  | .zip _ _, _, _, q => by cases q
  | .lc _ _ _ _ _, _, _, q => by cases q
theorem quiet_exts : ∀ (e : E) (τ : St) (h : Hh), e.quiet = true → Xt h (evalEs Q e τ h)
  | .nil, τ, h, q => .ok
  | .cons a b, τ, h, q => by
    have q' : (a.quiet && b.quiet) = true := q
    rw [Bool.and_eq_true] at q'
    exact (quiet_ext a τ h q'.1).bind fun x h1 => (quiet_exts b τ h1 q'.2).bind fun y h2 => .ok
  | .loc i, τ, h, q => .bad
  | .cst d, τ, h, q => .bad
  | .bop _ _ _, _, _, _ => .bad
  | .cmp2 _ _ _ _ _, _, _, _ => .bad
  | .neg _, _, _, _ => .bad
  | .not _, _, _, _ => .bad
  | .and _ _, _, _, _ => .bad
  | .or _ _, _, _, _ => .bad
  | .ite _ _ _, _, _, _ => .bad
  | .tup _, _, _, _ => .bad
  | .lst _, _, _, _ => .bad
  | .dic _, _, _, _ => .bad
  | .idx _ _, _, _, _ => .bad
  | .slc _ _ _, _, _, _ => .bad
  | .rev _, _, _, _ => .bad
  | .isi _ _, _, _, _ => .bad
  | .call _ _, _, _, _ => .bad
  | .bi _ _, _, _, _ => .bad
  | .me _ _ _, _, _, _ => .bad
  | .meth _ _ _, _, _, _ => .bad
  | .fld _ _, _, _, _ => .bad
  | .mk _ _, _, _, _ => .bad
  | .rng1 _, _, _, _ => .bad
  | .rng2 _ _, _, _, _ => .bad
  | .enum _, _, _, _ => .bad
  | .zip _ _, _, _, _ => .bad
  | .lc _ _ _ _ _, _, _, _ => .bad
end
end
end
end VX
end

section
set_option Elab.async false
set_option linter.all false
set_option maxRecDepth 100000
set_option maxHeartbeats 4000000
/-! VX8: expressions. -/
namespace VX
open PySem IX
/-- what is walked -/
def ItR : Rl (List V) Its := fun Z h xs t f => RepL Z h xs t.xs (fun _ => 0) ∧ t.stands h ∧ ∀ a o, t.keep = some (a, o) → Z a ∨ f a ≠ 0
def OptR : Rl (Option V) (Option D) := fun Z h x d f => match x, d with
  | none, none => True
  | some v, some d => Rep Z h v d f
  | _, _ => False
def PtR : Rl (Option Int) (Option Int) := fun _ _ x d _ => x = d
section
variable {α β γ δ : Type} {Z Z' Z2 : Nat → Prop} {h h' h2 : Hh} {F G f g S : Cnt} {τ : St} {σ : Sv}
theorem RunOk.bind {rel : Rl α β} {rel2 : Rl γ δ} {m : Sv → RV α} {r : Hh → R β} {k : α → Sv → RV γ} {k2 : β → Hh → R δ} (o : RunOk rel τ m r)
    (q : ∀ x d σ Z h F S f, SR Z h σ τ S → rel Z h x d f → Good Z h (fun b => S b + f b + F b) → OkR rel2 Z h F τ (k x σ) (k2 d h)) : RunOk rel2 τ (fun σ => (m σ).bind k) (fun h => (r h).bind k2) := fun σ Z h F S sr gd =>
  (o σ Z h F S sr gd).bind fun x σ' d h' Z' S' f sr' rl gd' => q x d σ' Z' h' F S' f sr' rl gd'
/-- a first operand, then a second one -/
theorem two_ok {rel : Rl α β} {rel2 : Rl γ δ} {m1 : Sv → RV Ag} {r1 : Hh → R D} {m : Sv → RV α} {r : Hh → R β} {q : Bool} {k : Ag → α → Sv → RV γ} {k2 : D → β → Hh → R δ} (o1 : RunOk (AgR τ) τ m1 r1) (o2 : RunOk rel τ m r)
    (hq : q = true → ∀ b h h', r h = .ok b h' → ∃ t, h' = h ++ t)
    (fin : ∀ x d y e σ Z h F S f g, SR Z h σ τ S → AgR τ Z h x d f → rel Z h y e g → Good Z h (fun b => S b + f b + g b + F b) → OkR rel2 Z h F τ (k x y σ) (k2 d e h)) :
    RunOk rel2 τ (fun σ => (m1 σ).bind fun x σ1 => (after x q m σ1).bind fun y σ2 => k x y σ2) (fun h => (r1 h).bind fun d h1 => (r h1).bind fun e h2 => k2 d e h2) :=
  o1.bind fun x d σ Z h F S f sr a gd => (after_ok (F := F) o2 hq sr a gd).bind fun y σ' e h' Z' S' c sr' ⟨f', g', a', rl, s⟩ gd' => fin x d y e σ' Z' h' F S' f' g' sr' a' rl (gd'.le fun b => by have := s b; (try dsimp only); omega)
theorem op2_nw {o : Op} {x y z : Ag} {d e : D} {σ' : Sv} (sr : SR Z h σ τ S) (a : AgR τ Z h x d f) (b : AgR τ Z h y e g) (gd : Good Z h (fun b => S b + f b + g b + F b)) (q : op2 o x y σ = .ok z σ') : σ' = σ ∧ ∃ r, z = .val r ∧ Nw Z h r (binop o d e h) := by
  unfold op2 at q
  cases e1 : rd σ x with
  | none => rw [e1] at q; cases q
  | some v =>
    cases e2 : rd σ y with
    | none => rw [e1, e2] at q; cases q
    | some w =>
      rw [e1, e2] at q
      dsimp only at q
      cases e3 : binV o v w with
      | none => rw [e3] at q; cases q
      | some r =>
        rw [e3] at q
        cases q
        obtain ⟨_, r1, _⟩ := rd_ok sr a e1
        obtain ⟨_, r2, _⟩ := rd_ok sr b e2
        exact ⟨rfl, r, rfl, bin_ok gd.zlt e3 r1 r2⟩
theorem op2_no {o : Op} {x y : Ag} {c : Nat} {row : Option Int} {σ' : Sv} : op2 o x y σ ≠ .ex c row σ' := by
  unfold op2
  split
  · split <;> intro z <;> cases z
  · intro z; cases z
theorem op2_ok {o : Op} {x y : Ag} {d e : D} (sr : SR Z h σ τ S) (a : AgR τ Z h x d f) (b : AgR τ Z h y e g) (gd : Good Z h (fun b => S b + f b + g b + F b)) : OkR (AgR τ) Z h F τ (op2 o x y σ) (binop o d e h) := by
  cases q : op2 o x y σ with
  | ok z σ' =>
    obtain ⟨e1, r, e2, n⟩ := op2_nw sr a b gd q
    subst e1 e2
    exact nw_ok n sr (gd.le fun b => by (try dsimp only); omega)
  | ex c row σ' => exact absurd q op2_no
  | bad => trivial
theorem un1_ok {gf : V → Option V} {x : Ag} {d : D} {r : R D} (sr : SR Z h σ τ S) (a : AgR τ Z h x d f) (gd : Good Z h (fun b => S b + f b + F b)) (k : ∀ v w kv, Rep Z h v d kv → gf v = some w → Nw Z h w r) : OkR (AgR τ) Z h F τ (un1 gf x σ) r := by
  unfold un1
  cases e1 : rd σ x with
  | none => trivial
  | some v =>
    show OkR (AgR τ) Z h F τ (match gf v with
      | some r => .ok (.val r) σ
      | none => .bad) r
    cases e2 : gf v with
    | none => trivial
    | some w =>
      obtain ⟨kv, r1, _⟩ := rd_ok sr a e1
      exact nw_ok (k v w kv r1 e2) sr (gd.le fun b => by (try dsimp only); omega)
theorem AgR.ext {x : Ag} {d : D} {t : Hh} (gd : Good Z h (fun b => f b + F b)) (a : AgR τ Z h x d f) : AgR τ Z (h ++ t) x d f := by
  cases x with
  | val v =>
    have st : Stp Z h f Z (h ++ t) := Good.stpx (f := fun _ => 0) (gd.le fun b => by (try dsimp only); omega) t
    exact (show Rep Z h v d f from a).stp st fun _ => Nat.le_refl _
  | plc i p =>
    obtain ⟨z, d0, t0, gD⟩ := a
    exact ⟨z, d0, t0, getD_ext gD⟩
/-- a test -/
theorem tr_ok {rel : Rl α β} {x : Ag} {d : D} {m1 m2 : RV α} {r1 r2 : R β} (sr : SR Z h σ τ S) (a : AgR τ Z h x d f) (gd : Good Z h (fun b => S b + f b + F b)) (k1 : OkR rel Z h F τ m1 r1) (k2 : OkR rel Z h F τ m2 r2) :
    OkR rel Z h F τ (match (rd σ x).bind truthV with
      | some true => m1
      | some false => m2
      | none => .bad) (match truth d h with
      | some true => r1
      | some false => r2
      | none => .bad) := by
  cases e1 : rd σ x with
  | none => trivial
  | some v =>
    show OkR rel Z h F τ (match truthV v with
      | some true => m1
      | some false => m2
      | none => .bad) _
    cases e2 : truthV v with
    | none => trivial
    | some b =>
      obtain ⟨kv, r, _⟩ := rd_ok sr a e1
      rw [truth_ok e2 r]
      cases b <;> assumption
theorem rds_ok : ∀ {as : List Ag} {ds : List D} {f : Cnt} {vs : List V}, SR Z h σ τ S → AgRL τ Z h as ds f → rds σ as = some vs → ∃ k, RepL Z h vs ds k
  | [], ds, f, vs, sr, a, e => by cases e; exact ⟨fun _ => 0, a.1, fun _ => rfl⟩
  | x :: r, ds, f, vs, sr, ⟨d, es, f1, f2, ed, a1, a2, s⟩, e => by
    have e' : (match rd σ x, rds σ r with
      | some v, some vs => some (v :: vs)
      | _, _ => none) = some vs := e
    cases e1 : rd σ x with
    | none => rw [e1] at e'; cases e'
    | some v =>
      cases e2 : rds σ r with
      | none => rw [e1, e2] at e'; cases e'
      | some ws =>
        rw [e1, e2] at e'
        cases e'
        obtain ⟨k1, r1, _⟩ := rd_ok sr a1 e1
        obtain ⟨k2, r2⟩ := rds_ok sr a2 e2
        exact ⟨_, d, es, k1, k2, ed, r1, r2, fun _ => rfl⟩
theorem AgRL.ext {t : Hh} : ∀ {as : List Ag} {ds : List D} {f : Cnt}, Good Z h (fun b => f b + F b) → AgRL τ Z h as ds f → AgRL τ Z (h ++ t) as ds f
  | [], _, _, _, a => a
  | x :: r, ds, f, gd, ⟨d, es, f1, f2, ed, a1, a2, s⟩ => ⟨d, es, f1, f2, ed, AgR.ext (F := F) (gd.le fun b => by have := s b; (try dsimp only); omega) a1, AgRL.ext (gd.le fun b => by have := s b; (try dsimp only); omega) a2, s⟩
theorem pairs_ok : ∀ {vs : List V} {ds : List D} {f : Cnt} {ks ws : List V}, RepL Z h vs ds f → pairsV vs = some (ks, ws) → ∃ kvs f1 f2, pairs ds = some kvs ∧ RepL Z h ks (kvs.map (·.1)) f1 ∧ RepL Z h ws (kvs.map (·.2)) f2 ∧ ∀ b, f b = f1 b + f2 b
  | [], ds, f, ks, ws, r, e => by
    cases e
    rw [r.1]
    exact ⟨[], fun _ => 0, fun _ => 0, rfl, ⟨rfl, fun _ => rfl⟩, ⟨rfl, fun _ => rfl⟩, fun b => r.2 b⟩
  | [x], ds, f, ks, ws, r, e => by cases e
  | x :: y :: vs, ds, f, ks, ws, ⟨d, es, f1, f2, ed, r1, ⟨d2, es2, f3, f4, ed2, r2, r3, s2⟩, s⟩, e => by
    have e' : (pairsV vs).map (fun q => (x :: q.1, y :: q.2)) = some (ks, ws) := e
    cases q : pairsV vs with
    | none => rw [q] at e'; cases e'
    | some p =>
      rw [q] at e'
      obtain ⟨kvs, g1, g2, h1, h2, h3, h4⟩ := pairs_ok (ks := p.1) (ws := p.2) r3 q
      cases e'
      subst ed ed2
      refine ⟨(d, d2) :: kvs, fun b => f1 b + g1 b, fun b => f3 b + g2 b, ?_, ⟨d, _, f1, g1, rfl, r1, h2, fun _ => rfl⟩, ⟨d2, _, f3, g2, rfl, r2, h3, fun _ => rfl⟩, fun b => by have := s b; have := s2 b; have := h4 b; (try dsimp only); omega⟩
      show (pairs es2).map _ = _
      rw [h1]; rfl
theorem merge_diff : ∀ {ks : List V} {kvs acc : List (D × D)} {f : Cnt}, RepL Z h ks (kvs.map (·.1)) f → diffV ks = true → (∀ p ∈ acc, ∀ q ∈ kvs, keyD p.1 ≠ keyD q.1) → mergeD acc kvs = acc ++ kvs ∧ (kvs.map fun p => keyD p.1).Nodup ∧ ∀ p ∈ kvs, (keyD p.1).isSome = true
  | [], kvs, acc, f, r, e, ne => by
    have : kvs = [] := List.map_eq_nil_iff.mp r.1
    subst this
    exact ⟨(List.append_nil _).symm, by simp, by simp⟩
  | k :: ks, kvs, acc, f, ⟨d, es, f1, f2, ed, r1, r2, s⟩, e, ne => by
    cases kvs with
    | nil => cases ed
    | cons p kvs =>
      obtain ⟨rfl, rfl⟩ := List.cons.inj ed
      have e' : ((keyV k).isSome && (placeV k ks).isNone && diffV ks) = true := e
      rw [Bool.and_eq_true, Bool.and_eq_true] at e'
      have pn : placeV k ks = none := Option.isNone_iff_eq_none.mp e'.1.2
      obtain ⟨_, hn⟩ := place_none r1 r2 pn
      have mg : mergeD acc (p :: kvs) = mergeD (putD p.1 p.2 acc) kvs := rfl
      rw [mg, put_none (fun q hq => ne q hq p (List.mem_cons_self ..))]
      obtain ⟨h1, h2, h3⟩ := merge_diff (acc := acc ++ [(p.1, p.2)]) r2 e'.2 (fun q hq x hx => by
        rcases List.mem_append.mp hq with hq | hq
        · exact ne q hq x (List.mem_cons_of_mem _ hx)
        · rw [List.mem_singleton.mp hq]; exact fun z => hn x hx z.symm)
      refine ⟨by rw [h1, List.append_assoc]; rfl, ?_, fun q hq => ?_⟩
      · rw [List.map_cons, List.nodup_cons]
        exact ⟨fun m => by obtain ⟨x, hx, ex⟩ := List.mem_map.mp m; exact hn x hx ex, h2⟩
      · rcases List.mem_cons.mp hq with rfl | hq
        · rw [key_ok r1]; exact e'.1.1
        · exact h3 q hq
theorem target_ok {gl : List Nat} {tp : Bool} {v : V} {d : D} {σ' : Sv} (sr : SR Z h σ τ S) (r : Rep Z h v d f) (e : targetV gl tp v σ = some σ') : ∃ τ' S', target gl tp d τ h = some τ' ∧ SR Z h σ' τ' S' ∧ (∀ b, S' b ≤ S b + f b) ∧ τ'.length = τ.length ∧ ∀ j : Nat, j ∉ gl → τ'[j]? = τ[j]? := by
  have all : ∀ {is : List Nat} {xs : List V} {ds : List D} {σ σ' : Sv} {τ : St} {S f : Cnt}, SR Z h σ τ S → RepL Z h xs ds f → setAllV is xs σ = some σ' → ∃ τ' S', setAll is ds τ = some τ' ∧ SR Z h σ' τ' S' ∧ (∀ b, S' b ≤ S b + f b) ∧ τ'.length = τ.length ∧ ∀ j : Nat, j ∉ is → τ'[j]? = τ[j]? := by
    intro is
    induction is with
    | nil =>
      intro xs ds σ σ' τ S f sr r e
      cases xs with
      | nil => cases e; rw [r.1]; exact ⟨τ, S, rfl, sr, fun b => by omega, rfl, fun _ _ => rfl⟩
      | cons x xs => cases e
    | cons i is ih =>
      intro xs ds σ σ' τ S f sr r e
      cases xs with
      | nil => cases e
      | cons x xs =>
        obtain ⟨d, es, f1, f2, ed, r1, r2, s⟩ := r
        subst ed
        obtain ⟨k, lk, sr2⟩ := sr.put r1 i
        obtain ⟨τ', S', h1, h2, h3, h4, h5⟩ := ih sr2 r2 e
        refine ⟨τ', S', h1, h2, fun b => by have := h3 b; have := lk b; have := s b; omega, by rw [h4, List.length_set], fun j hj => ?_⟩
        rw [h5 j (fun m => hj (List.mem_cons_of_mem _ m)), List.getElem?_set_ne]
        rintro rfl
        exact hj (List.mem_cons_self ..)
  cases tp with
  | false =>
    match gl, e with
    | [i], e =>
      cases e
      obtain ⟨k, lk, sr2⟩ := sr.put r i
      refine ⟨_, k, rfl, sr2, fun b => by have := lk b; omega, by rw [List.length_set], fun j hj => ?_⟩
      rw [List.getElem?_set_ne]
      rintro rfl
      exact hj (List.mem_cons_self ..)
  | true =>
    cases v with
    | tup xs =>
      obtain ⟨ds, ed, r⟩ := r
      subst ed
      exact all sr r e
    | lst o xs =>
      obtain ⟨a, ds, gg, ed, eh, r, w⟩ := r
      subst ed
      obtain ⟨τ', S', h1, h2, h3, h4⟩ := all sr r e
      refine ⟨τ', S', ?_, h2, fun b => ?_, h4⟩
      · show (match h[a]? with
          | some (.lst xs) => setAll gl xs τ
          | _ => none) = _
        rw [eh]; exact h1
      · have := h3 b
        cases o with
        | true => have := (show ∀ b, f b = (if b = a then 1 else 0) + gg b from w) b; omega
        | false => have := (show Z a ∧ isZ f ∧ isZ gg from w).2.2 b; omega
    | _ => cases e
open Classical in
/-- a comprehension's turns -/
theorem turns_ok {fV : V → Sv → RV (Option V)} {fD : D → Hh → R (Option D)} {t : Its} (hs : ∀ x d Z h F σ S, Rep Z h x d (fun _ => 0) → SR Z h σ τ S → Good Z h (fun b => S b + F b) → OkR OptR Z h F τ (fV x σ) (fD d h)) :
    ∀ (xs : List V) (ds : List D) Z h F σ S, RepL Z h xs ds (fun _ => 0) → t.stands h → (∀ a o, t.keep = some (a, o) → Z a ∨ F a ≠ 0) → SR Z h σ τ S → Good Z h (fun b => S b + F b) → OkR RepL Z h F τ (turnsV fV xs σ) (turns fD t ds h)
  | [], ds, Z, h, F, σ, S, r, st, kp, sr, gd => by
    rw [r.1]
    show OkR RepL Z h F τ (.ok [] σ) (if t.stands h then .ok [] h else .bad)
    rw [if_pos st]
    exact OkR.ok (f := fun _ => 0) sr ⟨rfl, fun _ => rfl⟩ (good0 gd)
  | x :: xs, ds, Z, h, F, σ, S, ⟨d, es, f1, f2, ed, r1, r2, s⟩, st, kp, sr, gd => by
    subst ed
    have z1 : ∀ b, f1 b = 0 := fun b => by have := s b; (try dsimp only at this); omega
    have z2 : ∀ b, f2 b = 0 := fun b => by have := s b; (try dsimp only at this); omega
    show OkR RepL Z h F τ ((fV x σ).bind _) (if t.stands h then (fD d h).bind _ else .bad)
    rw [if_pos st]
    have o := hs x d Z h F σ S (r1.cnt fun b => (z1 b).symm) sr gd
    cases e : fV x σ with
    | bad => trivial
    | ex c row σ' =>
      rw [e] at o
      obtain ⟨h', Z', S', e1, st1, sr', gd'⟩ := o
      exact ⟨h', Z', S', by rw [e1]; rfl, st1, sr', gd'⟩
    | ok y σ' =>
      rw [e] at o
      obtain ⟨dy, h', Z', S', fy, e1, st1, sr', ry, gd'⟩ := o
      rw [e1]
      show OkR RepL Z h F τ ((turnsV fV xs σ').bind _) ((turns fD t es h').bind _)
      refine OkR.pre st1 ?_
      have stands' : t.stands h' := by
        unfold Its.stands at st ⊢
        cases q : t.keep with
        | none => trivial
        | some p =>
          obtain ⟨a, o⟩ := p
          rw [q] at st
          dsimp only at st ⊢
          rw [st1.keep a (kp a o q)]; exact st
      have o2 := turns_ok hs xs es Z' h' (fun b => fy b + F b) σ' S' ((r2.stp st1 fun b => by rw [z2 b]; omega).cnt fun b => (z2 b).symm) stands' (fun a o q => (kp a o q).imp (st1.z a) fun z => by (try dsimp only); omega) sr' (gd'.le fun b => by (try dsimp only); omega)
      cases e2 : turnsV fV xs σ' with
      | bad => trivial
      | ex c row σ2 =>
        rw [e2] at o2
        obtain ⟨h2, Z2, S2, e3, st2, sr2, gd2⟩ := o2
        exact ⟨h2, Z2, S2, by rw [e3]; rfl, st2.le fun b => by (try dsimp only); omega, sr2, gd2.le fun b => by (try dsimp only); omega⟩
      | ok ys σ2 =>
        rw [e2] at o2
        obtain ⟨dys, h2, Z2, S2, fys, e3, st2, sr2, rys, gd2⟩ := o2
        rw [e3]
        cases y with
        | none =>
          cases dy with
          | none => exact ⟨dys, h2, Z2, S2, fys, rfl, st2.le fun b => by (try dsimp only); omega, sr2, rys, gd2.le fun b => by (try dsimp only); omega⟩
          | some dv => exact ry.elim
        | some v =>
          cases dy with
          | none => exact ry.elim
          | some dv =>
            have ry2 := (show Rep Z' h' v dv fy from ry).stp st2 fun b => by (try dsimp only); omega
            exact ⟨dv :: dys, h2, Z2, S2, fun b => fy b + fys b, rfl, st2.le fun b => by (try dsimp only); omega, sr2, ⟨dv, dys, fy, fys, rfl, ry2, rys, fun _ => rfl⟩, gd2.le fun b => by (try dsimp only); omega⟩
theorem range_rep : ∀ (n : Nat) (lo : Int), RepL Z h (rangeV lo n) (rangeL lo n) (fun _ => 0)
  | 0, lo => ⟨rfl, fun _ => rfl⟩
  | n + 1, lo => ⟨_, _, fun _ => 0, fun _ => 0, rfl, ⟨rfl, fun _ => rfl⟩, range_rep n (lo + 1), fun _ => rfl⟩
theorem enum_rep : ∀ {xs : List V} {ds : List D} (k : Nat), RepL Z h xs ds (fun _ => 0) → RepL Z h (enumV k xs) (enumFrom k ds) (fun _ => 0)
  | [], ds, k, r => by rw [r.1]; exact ⟨rfl, fun _ => rfl⟩
  | x :: xs, ds, k, ⟨d, es, f1, f2, ed, r1, r2, s⟩ => by
    subst ed
    refine ⟨_, _, fun _ => 0, fun _ => 0, rfl, ⟨_, rfl, ⟨_, _, fun _ => 0, f1, rfl, ⟨rfl, fun _ => rfl⟩, RepL.one r1, fun b => by have := s b; (try dsimp only at this ⊢); omega⟩⟩, enum_rep (k + 1) (r2.cnt fun b => by have := s b; (try dsimp only at this ⊢); omega), fun _ => rfl⟩
theorem walk_ok {v : V} {d : D} {xs : List V} (r : Rep Z h v d f) (e : walkV v = some xs) (c : V.fzL xs = true) : ∃ ds k, itemsD d h = some (ds, k) ∧ ItR Z h xs ⟨ds, k⟩ f := by
  cases v with
  | tup ys =>
    cases e
    obtain ⟨ds, ed, r⟩ := r
    subst ed
    exact ⟨ds, none, rfl, r.cnt fun b => (r.fz0 c b).symm, trivial, fun a o q => by cases q⟩
  | lck ys =>
    cases e
    obtain ⟨ds, ed, r, _⟩ := r
    subst ed
    exact ⟨ds, none, rfl, r.cnt fun b => (r.fz0 c b).symm, trivial, fun a o q => by cases q⟩
  | str z =>
    cases e
    obtain ⟨ed, _⟩ := r
    subst ed
    refine ⟨_, none, rfl, ?_, trivial, fun a o q => by cases q⟩
    have : ∀ cs : List Nat, RepL Z h (cs.map fun c => V.str ⟨#[c]⟩) (cs.map fun c => D.str ⟨#[c]⟩) (fun _ => 0) := by
      intro cs
      induction cs with
      | nil => exact ⟨rfl, fun _ => rfl⟩
      | cons c cs ih => exact ⟨_, _, fun _ => 0, fun _ => 0, rfl, ⟨rfl, fun _ => rfl⟩, ih, fun _ => rfl⟩
    exact this _
  | lst o ys =>
    cases e
    obtain ⟨a, ds, k, ed, eh, r, w⟩ := r
    subst ed
    refine ⟨ds, some (a, .lst ds), by simp only [itemsD, eh], r.cnt fun b => (r.fz0 c b).symm, eh, fun a' o' q => ?_⟩
    cases q
    cases o with
    | true => exact .inr (by rw [(show ∀ b, f b = (if b = a then 1 else 0) + k b from w) a, if_pos rfl]; omega)
    | false => exact .inl (show Z a ∧ isZ f ∧ isZ k from w).1
  | _ => cases e
theorem enumD_ok {v : V} {d : D} {xs : List V} (r : Rep Z h v d f) (e : itemsV v = some xs) (c : V.fzL xs = true) : ∃ ds k, enumD d h = some (ds, k) ∧ ItR Z h xs ⟨ds, k⟩ f := by
  cases v with
  | lck ys =>
    cases e
    obtain ⟨ds, ed, r, _⟩ := r
    subst ed
    exact ⟨ds, none, rfl, r.cnt fun b => (r.fz0 c b).symm, trivial, fun a o q => by cases q⟩
  | lst o ys =>
    cases e
    obtain ⟨a, ds, k, ed, eh, r, w⟩ := r
    subst ed
    refine ⟨ds, some (a, .lst ds), by simp only [enumD, eh], r.cnt fun b => (r.fz0 c b).symm, eh, fun a' o' q => ?_⟩
    cases q
    cases o with
    | true => exact .inr (by rw [(show ∀ b, f b = (if b = a then 1 else 0) + k b from w) a, if_pos rfl]; omega)
    | false => exact .inl (show Z a ∧ isZ f ∧ isZ k from w).1
  | _ => cases e
theorem pt_ok {e : E} {m : Sv → RV Ag} {r : Hh → R D} (o : RunOk (AgR τ) τ m r) : RunOk PtR τ (fun s => ptV e (m s) s) (fun h => ptOf e (r h) h) := fun σ Z h F S sr gd => by
  have gen : OkR PtR Z h F τ ((m σ).bind fun x σ1 => match rd σ1 x with
    | some (.int i) => .ok (some i) σ1
    | _ => .bad) ((r h).bind fun x h1 => match x with
    | .int i => .ok (some i) h1
    | _ => .bad) := (o σ Z h F S sr gd).bind fun x σ' d h' Z' S' f sr' a gd' => by
      cases e1 : rd σ' x with
      | none => trivial
      | some v =>
        cases v with
        | int i =>
          obtain ⟨k, rp, _⟩ := rd_ok sr' a e1
          obtain ⟨ed, _⟩ := rp
          subst ed
          exact OkR.ok (rel := PtR) (f := fun _ => 0) sr' rfl (gd'.le fun b => by (try dsimp only); omega)
        | _ => trivial
  cases e with
  | nil => exact OkR.ok (rel := PtR) (f := fun _ => 0) sr rfl (good0 gd)
  | _ => exact gen
end
end VX
end

section
set_option Elab.async false
set_option linter.all false
set_option maxRecDepth 100000
set_option maxHeartbeats 4000000
/-! VX9: expressions, all of them. -/
namespace VX
open PySem IX
section
variable {P : PgV} {Q : Pg}
theorem run_bad {α β : Type} {rel : Rl α β} {τ : St} {r : Hh → R β} : RunOk rel τ (fun _ => .bad) r := fun _ _ _ _ _ _ _ => trivial
theorem fz_gd {Z : Nat → Prop} {h : Hh} {S f F : Cnt} (gd : Good Z h (fun b => S b + f b + F b)) : Good Z h (fun b => S b + F b) := gd.le fun b => by (try dsimp only); omega
/-- a list's or tuple's items are taken for good -/
theorem new_lst {Z : Nat → Prop} {h : Hh} {S f F : Cnt} {σ : Sv} {τ : St} {xs : List V} {ds : List D} (sr : SR Z h σ τ S) (r : RepL Z h xs ds f) (gd : Good Z h (fun b => S b + f b + F b)) : OkR (AgR τ) Z h F τ (.ok (.val (.lst true xs)) σ) (R.new (.lst ds) h) := by
  have st : Stp Z h (fun b => S b + f b + F b) Z (h ++ [.lst ds]) := Good.stpx (f := fun _ => 0) (gd.le fun b => by (try dsimp only); omega) _
  refine ⟨.ref h.length, h ++ [.lst ds], Z, S, fun b => (if b = h.length then 1 else 0) + f b, rfl, st.le fun b => by (try dsimp only); omega, sr.stp st fun b => by (try dsimp only); omega, ⟨h.length, ds, f, rfl, get_end, r.stp st fun b => by (try dsimp only); omega, fun b => rfl⟩, ?_⟩
  refine ⟨fun b => ?_, fun b z => ?_, fun b hb => ?_⟩
  · have h1 := gd.one b
    by_cases cc : b = h.length
    · have h5 := (gd.lt b (by omega)).1
      (try dsimp only at *); rw [if_pos cc]; omega
    · (try dsimp only at *); rw [if_neg cc]; omega
  · have h1 := gd.fz b z
    have h5 := gd.zlt b z
    (try dsimp only at *); rw [if_neg (by omega)]; omega
  · rw [List.length_append] at hb
    have hb' : h.length + 1 ≤ b := hb
    have h1 := gd.lt b (by omega)
    refine ⟨?_, h1.2⟩
    have h1 := h1.1
    (try dsimp only at *); rw [if_neg (by omega)]; omega
theorem new_dic {Z : Nat → Prop} {h : Hh} {S f F : Cnt} {σ : Sv} {τ : St} {ks vs : List V} {kvs : List (D × D)} {k : Cnt} (sr : SR Z h σ τ S) (nd : (kvs.map fun p => keyD p.1).Nodup) (kd : ∀ p ∈ kvs, (keyD p.1).isSome = true) (zk : isZ k) (rk : RepL Z h ks (kvs.map (·.1)) k) (r : RepL Z h vs (kvs.map (·.2)) f) (gd : Good Z h (fun b => S b + f b + F b)) : OkR (AgR τ) Z h F τ (.ok (.val (.dic true ks vs)) σ) (R.new (.dic kvs) h) := by
  have st : Stp Z h (fun b => S b + f b + F b) Z (h ++ [.dic kvs]) := Good.stpx (f := fun _ => 0) (gd.le fun b => by (try dsimp only); omega) _
  refine ⟨.ref h.length, h ++ [.dic kvs], Z, S, fun b => (if b = h.length then 1 else 0) + f b, rfl, st.le fun b => by (try dsimp only); omega, sr.stp st fun b => by (try dsimp only); omega, ⟨h.length, kvs, f, k, rfl, get_end, nd, kd, zk, rk.stp st fun b => by have := zk b; omega, r.stp st fun b => by (try dsimp only); omega, fun b => rfl⟩, ?_⟩
  refine ⟨fun b => ?_, fun b z => ?_, fun b hb => ?_⟩
  · have h1 := gd.one b
    by_cases cc : b = h.length
    · have h5 := (gd.lt b (by omega)).1
      (try dsimp only at *); rw [if_pos cc]; omega
    · (try dsimp only at *); rw [if_neg cc]; omega
  · have h1 := gd.fz b z
    have h5 := gd.zlt b z
    (try dsimp only at *); rw [if_neg (by omega)]; omega
  · rw [List.length_append] at hb
    have hb' : h.length + 1 ≤ b := hb
    have h1 := gd.lt b (by omega)
    refine ⟨?_, h1.2⟩
    have h1 := h1.1
    (try dsimp only at *); rw [if_neg (by omega)]; omega
/-- a method's end -/
theorem me_end {Z : Nat → Prop} {h : Hh} {S f g F : Cnt} {σ : Sv} {τ : St} {m : Me} {x : Ag} {d : D} {ws : List V} {es : List D} (sr : SR Z h σ τ S) (a : AgR τ Z h x d f) (rw_ : RepL Z h ws es g) (gd1 : m.stores = true → Good Z h (fun b => S b + f b + g b + F b)) (gd : Good Z h (fun b => S b + f b + F b)) :
    OkR (AgR τ) Z h F τ (meEnd m x ws σ) (meD m d es h) := by
  unfold meEnd
  cases e1 : rd σ x with
  | none => trivial
  | some v =>
    dsimp only
    cases e2 : meV m v ws with
    | none => trivial
    | some q =>
      obtain ⟨r, o⟩ := q
      cases x with
      | val w =>
        cases e1
        have M := (me_ok (F := fun b => S b + F b) gd.zlt e2 a rw_ (fun c => (gd1 c).le fun b => by (try dsimp only); omega) (gd.le fun b => by (try dsimp only); omega)).2
        cases o with
        | none => exact nw_ok M sr (gd.le fun b => by (try dsimp only); omega)
        | some v' =>
          obtain ⟨y, h', k, f', e3, st, r1, r2, gd'⟩ := M
          exact ⟨y, h', Z, S, k, e3, st.le fun b => by (try dsimp only); omega, sr.stp st fun b => by (try dsimp only); omega, r1, gd'.le fun b => by (try dsimp only); omega⟩
      | plc i p =>
        obtain ⟨v0, d0, kv, mm, kk, p1, p2, p3, p4, p5, p6, p7, p8, p9⟩ := plc_ok sr a e1
        have M := (me_ok (F := fun b => mm b + kk b + F b) gd.zlt e2 p6 rw_ (fun c => (gd1 c).le fun b => by have := p7 b; (try dsimp only); omega) (gd.le fun b => by have := p7 b; (try dsimp only); omega)).2
        cases o with
        | none => exact nw_ok M sr (gd.le fun b => by (try dsimp only); omega)
        | some v' =>
          obtain ⟨y, h', k, f', e3, st, r1, r2, gd'⟩ := M
          dsimp only
          cases e4 : setAt σ i p v' with
          | none => trivial
          | some σ3 =>
            dsimp only
            have sr2 : SR Z h' (σ.set i none) τ kk := p8.stp st fun b => by (try dsimp only); omega
            have il : i < σ.length := by
              have := p1
              unfold slot at this
              rcases Nat.lt_or_ge i σ.length with z | z
              · exact z
              · rw [List.getElem?_eq_none z] at this; cases this
            cases p with
            | nil =>
              cases e4
              have : d0 = d := Option.some.inj p4
              subst this
              have new := sr2.fill r2 il
              rw [set_get p3] at new
              exact ⟨y, h', Z, _, k, e3, st.le fun b => by (try dsimp only); omega, new, r1, gd'.le fun b => by (try dsimp only); omega⟩
            | cons j p =>
              have e' : (match slot σ i with
                | some v => match getP v (j :: p) with
                  | some w0 => if w0.fz = true then none else some (σ.set i (some (setP v (j :: p) v')))
                  | none => none
                | none => none) = some σ3 := e4
              rw [p1] at e'
              dsimp only at e'
              rw [p2] at e'
              dsimp only at e'
              by_cases c : v.fz = true
              · rw [if_pos c] at e'; cases e'
              · rw [if_neg c] at e'
                cases e'
                have new := sr2.fill (p9 (by simpa using c) Z h' v' f' (fun _ z => z) (fun a z => st.keep a (z.imp id fun z => by (try dsimp only); omega)) r2) il
                rw [set_get p3] at new
                exact ⟨y, h', Z, _, k, e3, st.le fun b => by (try dsimp only); omega, new, r1, gd'.le fun b => by (try dsimp only); omega⟩
theorem me_ty {Z : Nat → Prop} {h : Hh} {f : Cnt} {m : Me} {v : V} {d : D} (e : meTyV m (some v) = true) (r : Rep Z h v d f) : meTy m d h = true := by
  cases v with
  | str a => obtain ⟨ed, _⟩ := r; subst ed; cases m <;> first | rfl | cases e
  | lst o xs => obtain ⟨a, ds, k, ed, eh, _⟩ := r; subst ed; cases m <;> first | (simp only [meTy, eh]; done) | cases e
  | dic o ks vs => obtain ⟨a, ds, k, kk, ed, eh, _⟩ := r; subst ed; cases m <;> first | (simp only [meTy, eh]; done) | cases e
  | _ => cases m <;> cases e
end
end VX
end

section
set_option Elab.async false
set_option linter.all false
set_option maxRecDepth 100000
set_option maxHeartbeats 4000000
/-! VX10: expressions: the theorem. -/
namespace VX
open PySem IX
section
variable {P : PgV} {Q : Pg}
theorem run_map {α β γ : Type} {rel : Rl α β} {rel2 : Rl γ β} {τ : St} {m : Sv → RV α} {r : Hh → R β} {k : α → Sv → RV γ} (o : RunOk rel τ m r)
    (q : ∀ x d σ Z h F S f, SR Z h σ τ S → rel Z h x d f → Good Z h (fun b => S b + f b + F b) → OkR rel2 Z h F τ (k x σ) (.ok d h)) : RunOk rel2 τ (fun σ => (m σ).bind k) r := fun σ Z h F S sr gd => by
  have := (o σ Z h F S sr gd).bind (k := k) (k2 := fun d h => .ok d h) fun x σ' d h' Z' S' f sr' rl gd' => q x d σ' Z' h' F S' f sr' rl gd'
  have e : (r h).bind (fun d h => .ok d h) = r h := by cases r h <;> rfl
  rw [e] at this
  exact this
theorem rds_run {τ : St} {m : Sv → RV (List Ag)} {r : Hh → R (List D)} (o : RunOk (AgRL τ) τ m r) : RunOk (fun Z h vs ds _ => ∃ k, RepL Z h vs ds k) τ (fun s => (m s).bind fun as s1 => match rds s1 as with
      | some vs => .ok vs s1
      | none => .bad) r := run_map o fun as ds σ Z h F S f sr a gd => by
  cases e : rds σ as with
  | none => trivial
  | some vs => exact OkR.ok (rel := fun Z h vs ds _ => ∃ k, RepL Z h vs ds k) (f := fun _ => 0) sr (rds_ok sr a e) (good0 (fz_gd gd))
theorem it_of {τ : St} {e : E} {m : Sv → RV Ag} {r : Hh → R D} (o : RunOk (AgR τ) τ m r) : RunOk ItR τ (fun σ => (m σ).bind fun x σ1 => (own false x σ1).bind fun v σ2 => match walkV v with
    | some xs => if V.fzL xs = true then .ok xs σ2 else .bad
    | none => .bad) (fun h => (r h).bind fun x h1 => match itemsD x h1 with
    | some (xs, k) => .ok ⟨xs, k⟩ h1
    | none => .bad) := o.bind fun x d σ Z h F S f sr a gd => by
  have o2 := own_ok (mv := false) sr a gd
  cases e : own false x σ with
  | bad => trivial
  | ex c row σ' =>
    rw [e] at o2
    obtain ⟨h', Z', S', e1, _⟩ := o2
    cases e1
  | ok v σ' =>
    rw [e] at o2
    obtain ⟨d', h', Z', S', g, e1, st, sr', rp, gd'⟩ := o2
    cases e1
    show OkR ItR Z h F τ (match walkV v with
      | some xs => if V.fzL xs = true then .ok xs σ' else .bad
      | none => .bad) _
    cases e2 : walkV v with
    | none => trivial
    | some xs =>
      dsimp only
      by_cases c : V.fzL xs = true
      · rw [if_pos c]
        obtain ⟨ds, k, e3, it⟩ := walk_ok rp e2 c
        rw [e3]
        exact OkR.pre st (OkR.ok (rel := ItR) sr' it gd')
      · rw [if_neg c]; trivial
theorem wipeD_get {j : Nat} : ∀ {g : List Nat} {τ : St}, j ∉ g → (wipeD τ g)[j]? = τ[j]?
  | [], τ, _ => rfl
  | v :: vs, τ, h => by
    show ((wipeD τ vs).set v none)[j]? = _
    rw [List.getElem?_set_ne (by rintro rfl; exact h (List.mem_cons_self ..)), wipeD_get fun m => h (List.mem_cons_of_mem _ m)]
theorem wipeD_len : ∀ {g : List Nat} {τ : St}, (wipeD τ g).length = τ.length
  | [], τ => rfl
  | v :: vs, τ => by
    show ((wipeD τ vs).set v none).length = _
    rw [List.length_set, wipeD_len]
theorem wipeC_ok {α β : Type} {rel : Rl α β} {Z : Nat → Prop} {h : Hh} {F : Cnt} {τ τ2 : St} {m : RV α} {r : R β} {g : List Nat} (o : OkR rel Z h F τ2 m r) (e : ∀ j, j ∉ g → τ2[j]? = τ[j]?) (l : τ2.length = τ.length) : OkR rel Z h F (wipeD τ g) (wipeC g m) r := by
  cases m with
  | ok x σ' =>
    obtain ⟨d, h', Z', S, f, e1, st, sr, rl, gd⟩ := o
    obtain ⟨S', l', sr'⟩ := wipe_ok sr (τ' := τ) (fun j hj => (e j hj).symm) l.symm
    exact ⟨d, h', Z', S', f, e1, st, sr', rl, gd.le fun b => by have := l' b; (try dsimp only); omega⟩
  | ex c row σ' => trivial
  | bad => trivial
theorem lc_end {Z : Nat → Prop} {h : Hh} {S f F : Cnt} {σ : Sv} {τ : St} {g : List Nat} {xs : List V} {t : Its} {fV : V → Sv → RV (Option V)} {fD : D → Hh → R (Option D)} (sr : SR Z h σ τ S) (it1 : ItR Z h xs t f) (gd : Good Z h (fun b => S b + f b + F b))
    (hs : ∀ x d Z h F σ S, Rep Z h x d (fun _ => 0) → SR Z h σ (wipeD τ g) S → Good Z h (fun b => S b + F b) → OkR OptR Z h F (wipeD τ g) (fV x σ) (fD d h)) :
    OkR (AgR τ) Z h F τ (match withV g (turnsV fV xs) σ with
      | .ok ys σ2 => .ok (.val (.lst true ys)) σ2
      | _ => .bad) ((turns fD t t.xs h).calm.bind fun ys h5 => R.new (.lst ys) h5) := by
  have o := with_ok (τ := τ) (Z := Z) (h := h) (B := f) (g := g) (rel := RepL) (m := turnsV fV xs) (r := turns fD t t.xs h) (fun σ' F' S' sr' gd' lB => turns_ok hs xs t.xs Z h F' σ' S' it1.1 it1.2.1 (fun a o q => (it1.2.2 a o q).imp id fun z => by have := lB a; omega) sr' gd') σ (fun b => f b + F b) S sr (gd.le fun b => by (try dsimp only); omega) (fun b => by (try dsimp only); omega)
  cases e : withV g (turnsV fV xs) σ with
  | bad => trivial
  | ex c row σ' => trivial
  | ok ys σ' =>
    rw [e] at o
    obtain ⟨d, h', Z', S', k, e1, st, sr', rl, gd'⟩ := o
    rw [e1]
    exact OkR.pre (st.le fun b => by (try dsimp only); omega) (new_lst sr' rl (gd'.le fun b => by (try dsimp only); omega))
mutual
theorem evA_ok (K : CallsOk P Q) : ∀ (e : E) (τ : St), RunOk (AgR τ) τ (evA P e) (evalE Q e τ)
  | .loc i, τ => fun σ Z h F S sr gd => by
    show OkR (AgR τ) Z h F τ (match slot σ i with
      | some _ => .ok (.plc i []) σ
      | none => .bad) (match τ[i]? with
      | some (some v) => .ok v h
      | _ => .bad)
    cases e : slot σ i with
    | none => trivial
    | some v =>
      obtain ⟨d, g, k, t0, _⟩ := sr.get e
      rw [t0]
      exact OkR.ok (rel := AgR τ) (f := fun _ => 0) sr ⟨fun _ => rfl, d, t0, rfl⟩ (good0 gd)
  | .cst d, τ => fun σ Z h F S sr gd => by
    show OkR (AgR τ) Z h F τ (match toV d with
      | some v => .ok (.val v) σ
      | none => .bad) (.ok d h)
    cases e : toV d with
    | none => trivial
    | some v => exact OkR.ok (rel := AgR τ) (f := fun _ => 0) sr (toV_ok e) (good0 gd)
  | .nil, τ => run_bad
  | .cons _ _, τ => run_bad
  | .bop o a b, τ => two_ok (q := b.quiet) (k := fun x y σ2 => op2 o x y σ2) (k2 := fun x y h2 => binop o x y h2) (evA_ok K a τ) (evA_ok K b τ) (fun q x h h' e => quiet_ext b τ h q x h' e) fun x d y e σ Z h F S f g sr a b gd => op2_ok sr a b gd
  | .cmp2 o p a b c, τ => two_ok (q := b.quiet) (k := fun x y σ2 => (op2 o x y σ2).bind fun z σ3 => match z with
      | .val (.bl true) => (after y c.quiet (evA P c) σ3).bind fun w σ4 => op2 p y w σ4
      | .val (.bl false) => .ok (.val (.bl false)) σ3
      | _ => .bad) (k2 := fun x y h2 => (binop o x y h2).bind fun z h3 => match z with
      | .bl true => (evalE Q c τ h3).bind fun w h4 => binop p y w h4
      | .bl false => .ok (.bl false) h3
      | _ => .bad) (evA_ok K a τ) (evA_ok K b τ) (fun q x h h' e => quiet_ext b τ h q x h' e) fun x d y e σ Z h F S f g sr a1 b1 gd => by
    cases q : op2 o x y σ with
    | bad => trivial
    | ex c row σ' => exact absurd q op2_no
    | ok z σ' =>
      obtain ⟨e1, r, e2, n⟩ := op2_nw sr a1 b1 gd q
      subst e1 e2
      cases r with
      | bl bb =>
        obtain ⟨zz, t, k, e3, rz, _⟩ := n
        obtain ⟨ez, _⟩ := rz
        subst ez
        have st : Stp Z h (fun b => S b + g b + F b) Z (h ++ t) := Good.stpx (f := fun _ => 0) (gd.le fun b => by (try dsimp only); omega) t
        have sr2 : SR Z (h ++ t) σ' τ S := sr.stp st fun b => by (try dsimp only); omega
        have b2 : AgR τ Z (h ++ t) y e g := AgR.ext (F := fun b => S b + F b) (gd.le fun b => by (try dsimp only); omega) b1
        have gd2 : Good Z (h ++ t) (fun b => S b + g b + F b) := ⟨fun a => by have := gd.one a; (try dsimp only at *); omega, fun a z => by have := gd.fz a z; (try dsimp only at *); omega, fun a l => by
          have := gd.lt a (by rw [List.length_append] at l; omega)
          exact ⟨by have := this.1; (try dsimp only at *); omega, this.2⟩⟩
        rw [e3]
        refine OkR.pre (st.le fun b => by (try dsimp only); omega) ?_
        cases bb with
        | true => exact (after_ok (F := F) (evA_ok K c τ) (fun q x h h' e => quiet_ext c τ h q x h' e) sr2 b2 gd2).bind fun w σ' dw h' Z' S' cc sr' ⟨f', g', a', rl, s⟩ gd' => op2_ok sr' a' rl (gd'.le fun b => by have := s b; (try dsimp only); omega)
        | false => exact OkR.ok (rel := AgR τ) (f := fun _ => 0) sr2 ⟨rfl, fun _ => rfl⟩ (gd2.le fun b => by (try dsimp only); omega)
      | _ => trivial
  | .neg a, τ => (evA_ok K a τ).bind fun x d σ Z h F S f sr a1 gd => un1_ok sr a1 gd fun v w kv r e => by
    cases v with
    | int i => obtain ⟨ed, _⟩ := r; subst ed; cases e; exact .int
    | _ => cases e
  | .not a, τ => (evA_ok K a τ).bind fun x d σ Z h F S f sr a1 gd => un1_ok sr a1 gd fun v w kv r e => by
    cases q : truthV v with
    | none => rw [q] at e; cases e
    | some b => rw [q] at e; cases e; rw [truth_ok q r]; exact .bl
  | .and a b, τ => (evA_ok K a τ).bind fun x d σ Z h F S f sr a1 gd => tr_ok sr a1 gd (evA_ok K b τ σ Z h F S sr (fz_gd gd)) (OkR.ok (rel := AgR τ) sr a1 gd)
  | .or a b, τ => (evA_ok K a τ).bind fun x d σ Z h F S f sr a1 gd => tr_ok sr a1 gd (OkR.ok (rel := AgR τ) sr a1 gd) (evA_ok K b τ σ Z h F S sr (fz_gd gd))
  | .ite c a b, τ => (evA_ok K c τ).bind fun x d σ Z h F S f sr a1 gd => tr_ok sr a1 gd (evA_ok K a τ σ Z h F S sr (fz_gd gd)) (evA_ok K b τ σ Z h F S sr (fz_gd gd))
  | .tup es, τ => (evOs_ok K es τ).bind fun xs ds σ Z h F S f sr r gd => by
    by_cases c : xs.length ≤ line
    · rw [if_pos c, if_pos (by rw [r.length]; exact c)]
      exact OkR.ok (rel := AgR τ) sr ⟨ds, rfl, r⟩ gd
    · rw [if_neg c]; trivial
  | .lst es, τ => (evOs_ok K es τ).bind fun xs ds σ Z h F S f sr r gd => by
    by_cases c : xs.length ≤ line
    · rw [if_pos c, if_pos (by rw [r.length]; exact c)]
      exact new_lst sr r gd
    · rw [if_neg c]; trivial
  | .dic es, τ => (evOs_ok K es τ).bind fun xs ds σ Z h F S f sr r gd => by
    cases q : pairsV xs with
    | none => trivial
    | some p =>
      obtain ⟨ks, vs⟩ := p
      dsimp only
      obtain ⟨kvs, f1, f2, h1, h2, h3, h4⟩ := pairs_ok r q
      by_cases c : ks.length ≤ 15 ∧ diffV ks = true
      · rw [if_pos c, h1]
        dsimp only
        obtain ⟨m1, m2, m3⟩ := merge_diff (acc := []) h2 c.2 (fun p hp => nomatch hp)
        have kl := h2.length
        rw [List.length_map] at kl
        rw [if_pos ⟨by rw [kl]; exact c.1, List.all_eq_true.mpr m3⟩, m1]
        have zk : isZ f1 := h2.fz0 (by
          have : ∀ ks : List V, diffV ks = true → V.fzL ks = true := by
            intro ks
            induction ks with
            | nil => intro _; rfl
            | cons k ks ih =>
              intro e
              have e' : ((keyV k).isSome && (placeV k ks).isNone && diffV ks) = true := e
              rw [Bool.and_eq_true, Bool.and_eq_true] at e'
              show (k.fz && V.fzL ks) = true
              rw [ih e'.2, Bool.and_true]
              cases k with
              | int _ => rfl
              | str _ => rfl
              | _ => have := e'.1.1; cases this
          exact this ks c.2)
        exact new_dic sr m2 m3 zk h2 h3 (gd.le fun b => by have := h4 b; (try dsimp only); omega)
      · rw [if_neg c]; trivial
  | .idx a b, τ => two_ok (q := b.quiet) (k := fun x y σ2 => match rd σ2 x, rd σ2 y with
    | some v, some w => match idxV v w with
      | some (j, u) => .ok (pick x j u) σ2
      | none => .bad
    | _, _ => .bad) (k2 := fun x y h2 => idxD x y h2) (evA_ok K a τ) (evA_ok K b τ) (fun q x h h' e => quiet_ext b τ h q x h' e) fun x d y e σ Z h F S f g sr a1 b1 gd => by
    cases e1 : rd σ x with
    | none => trivial
    | some v =>
      cases e2 : rd σ y with
      | none => trivial
      | some w =>
        dsimp only
        cases e3 : idxV v w with
        | none => trivial
        | some q =>
          obtain ⟨j, u⟩ := q
          dsimp only
          obtain ⟨kv, rv, _⟩ := rd_ok sr a1 e1
          obtain ⟨kw, rw_, _⟩ := rd_ok sr b1 e2
          obtain ⟨y', k, e4, _, _, ho⟩ := idx_ok e3 rv rw_
          rw [e4]
          refine pick_ok (kv := kv) (k := k) sr a1 e1 (gd.le fun b => by (try dsimp only); omega) (fun kv' rv' => ?_) ho
          obtain ⟨y2, k2, e5, r5, l5, _⟩ := idx_ok e3 rv' rw_
          rw [e4] at e5
          cases e5
          exact ⟨k2, r5, l5⟩
  | .slc a lo hi, τ => by
    have plo := pt_ok (e := lo) (evA_ok K lo τ)
    have phi := pt_ok (e := hi) (evA_ok K hi τ)
    exact two_ok (q := lo.quiet) (rel := PtR) (m := fun s => ptV lo (evA P lo s) s) (r := fun h => ptOf lo (evalE Q lo τ h) h) (k := fun x l σ2 => (after x hi.quiet (fun s => ptV hi (evA P hi s) s) σ2).bind fun u σ3 => un1 (fun v => slcV v l u) x σ3)
      (k2 := fun x l h2 => (ptOf hi (evalE Q hi τ h2) h2).bind fun u h3 => slcD x l u h3) (evA_ok K a τ) plo (fun q x h h' e => xt_pt (quiet_ext lo τ h q) x h' e) fun x d l l' σ Z h F S f g sr a1 b1 gd => by
        have b1 : l = l' := b1
        subst b1
        exact (after_ok (F := F) phi (fun q x h h' e => xt_pt (quiet_ext hi τ h q) x h' e) sr a1 (gd.le fun b => by (try dsimp only); omega)).bind fun u σ' u' h' Z' S' cc sr' ⟨f', g', a', rl, s⟩ gd' => by
          have rl : u = u' := rl
          subst rl
          have gd2 : Good Z' h' (fun b => S' b + f' b + F b) := gd'.le fun b => by have := s b; (try dsimp only); omega
          exact un1_ok sr' a' gd2 fun v w kv r e => slc_ok gd2.zlt e r
  | .rev a, τ => (evA_ok K a τ).bind fun x d σ Z h F S f sr a1 gd => un1_ok sr a1 gd fun v w kv r e => rev_ok gd.zlt e r
  | .isi a ts, τ => (evA_ok K a τ).bind fun x d σ Z h F S f sr a1 gd => un1_ok sr a1 gd fun v w kv r e => by
    cases q : isAnyV v ts with
    | none => rw [q] at e; cases e
    | some b => rw [q] at e; cases e; rw [isAny_ok r q]; exact .bl
  | .call n es, τ => (evAs_ok K es τ).bind fun as ds σ Z h F S f sr a gd => callA_ok K sr a gd
  | .bi b es, τ => (evAs_ok K es τ).bind fun as ds σ Z h F S f sr a gd => by
    cases e : rds σ as with
    | none => trivial
    | some vs =>
      dsimp only
      cases e2 : biV b vs with
      | none => trivial
      | some r =>
        obtain ⟨k, rp⟩ := rds_ok sr a e
        exact nw_ok (bi_ok gd.zlt e2 rp) sr (fz_gd gd)
  | .me m a es, τ => (evA_ok K a τ).bind fun x d σ Z h F S f sr a1 gd => by
    by_cases ct : meTyV m (rd σ x) = true
    case neg => rw [if_neg ct]; trivial
    rw [if_pos ct]
    cases e1 : rd σ x with
    | none => rw [e1] at ct; cases m <;> cases ct
    | some v =>
      rw [e1] at ct
      obtain ⟨kv, rv, _⟩ := rd_ok sr a1 e1
      rw [if_pos (me_ty ct rv)]
      by_cases c : m.stores = true
      · simp only [if_pos c]
        exact (after_ok (F := F) (evOs_ok K es τ) (fun q x h h' e => quiet_exts es τ h q x h' e) sr a1 gd).bind fun ws σ' ds h' Z' S' cc sr' ⟨f', g', a', rl, s⟩ gd' => me_end (F := F) sr' a' rl (fun _ => gd'.le fun b => by have := s b; (try dsimp only); omega) (gd'.le fun b => by have := s b; (try dsimp only); omega)
      · simp only [if_neg c]
        exact (after_ok (F := F) (rds_run (evAs_ok K es τ)) (fun q x h h' e => quiet_exts es τ h q x h' e) sr a1 gd).bind fun ws σ' ds h' Z' S' cc sr' ⟨f', g', a', ⟨kw, rl⟩, s⟩ gd' => me_end (F := F) sr' a' rl (fun z => absurd z c) (gd'.le fun b => by have := s b; (try dsimp only); omega)
  | .meth m a es, τ => (evA_ok K a τ).bind fun x d σ Z h F S f sr a1 gd => by
    cases e1 : rd σ x with
    | none => trivial
    | some v =>
      cases v with
      | ins o c ns vs =>
        obtain ⟨kv, rv, _⟩ := rd_ok sr a1 e1
        obtain ⟨p, fs, k, ed, eh, _⟩ := rv
        subst ed
        dsimp only
        rw [K.meth, eh]
        dsimp only
        cases e2 : Q.meth c m with
        | none => trivial
        | some n =>
          dsimp only
          exact (after_ok (F := F) (evAs_ok K es τ) (fun q x h h' e => quiet_exts es τ h q x h' e) sr a1 gd).bind fun as σ' ds h' Z' S' cc sr' ⟨f', g', a', rl, s⟩ gd' => callA_ok (f := fun b => f' b + g' b) K sr' ⟨.ref p, ds, f', g', rfl, a', rl, fun _ => rfl⟩ (gd'.le fun b => by have := s b; (try dsimp only); omega)
      | _ => trivial
  | .fld a n, τ => (evA_ok K a τ).bind fun x d σ Z h F S f sr a1 gd => by
    cases e1 : rd σ x with
    | none => trivial
    | some v =>
      show OkR (AgR τ) Z h F τ (match fldV v n with
        | some (j, w) => .ok (pick x j w) σ
        | none => .bad) _
      cases e3 : fldV v n with
      | none => trivial
      | some q =>
        obtain ⟨j, u⟩ := q
        dsimp only
        obtain ⟨kv, rv, _⟩ := rd_ok sr a1 e1
        obtain ⟨y', k, e4, _, _, ho⟩ := fld_ok e3 rv
        rw [e4]
        refine pick_ok (kv := kv) (k := k) sr a1 e1 gd (fun kv' rv' => ?_) ho
        obtain ⟨y2, k2, e5, r5, l5, _⟩ := fld_ok e3 rv'
        rw [e4] at e5
        cases e5
        exact ⟨k2, r5, l5⟩
  | .mk c es, τ => (evAs_ok K es τ).bind fun as ds σ Z h F S f sr a gd => by
    rw [K.init]
    cases e : Q.init c with
    | none => trivial
    | some n => exact mkA_ok K sr a gd
  | .rng1 _, τ => run_bad
  | .rng2 _ _, τ => run_bad
  | .enum _, τ => run_bad
  | .zip _ _, τ => run_bad
  | .lc elt gl tp it c, τ => (evIt_ok K it τ _ _ (evA_ok K it τ)).bind fun xs t σ Z h F S f sr it1 gd => by
    by_cases cl : xs.length ≤ line
    case neg => rw [if_neg cl]; trivial
    rw [if_pos cl, if_pos (by rw [it1.1.length]; exact cl)]
    refine lc_end sr it1 gd fun x d Z h F σ S r1 sr gd => ?_
    cases e : targetV gl tp x σ with
    | none => trivial
    | some s2 =>
      obtain ⟨τ2, S2, e2, sr2, l2, n2, k2⟩ := target_ok sr r1 e
      rw [e2]
      dsimp only
      refine wipeC_ok (τ2 := τ2) ?_ (fun j hj => ?_) ?_
      · have gd2 : Good Z h (fun b => S2 b + F b) := gd.le fun b => by have := l2 b; (try dsimp only); omega
        have elts : ∀ σ Z h F S, SR Z h σ τ2 S → Good Z h (fun b => S b + F b) → OkR OptR Z h F τ2 ((evA P elt σ).bind fun y s4 => (own false y s4).bind fun v s5 => .ok (some v) s5) ((evalE Q elt τ2 h).bind fun y h4 => .ok (some y) h4) := fun σ Z h F S sr gd =>
          (evA_ok K elt τ2 σ Z h F S sr gd).bind fun x σ' d h' Z' S' f sr' a gd' => by
            have o2 := own_ok (mv := false) sr' a gd'
            cases e : own false x σ' with
            | bad => trivial
            | ex c row σ2 =>
              rw [e] at o2
              obtain ⟨h', Z', S', e1, _⟩ := o2
              cases e1
            | ok v σ2 =>
              rw [e] at o2
              obtain ⟨d', h2, Z2, S2, g, e1, st, sr2, rp, gd2⟩ := o2
              cases e1
              exact OkR.pre st (OkR.ok (rel := OptR) sr2 rp gd2)
        by_cases cn : c.isNil = true
        · rw [if_pos cn, if_pos cn]
          exact elts s2 Z h F S2 sr2 gd2
        · rw [if_neg cn, if_neg cn]
          exact (evA_ok K c τ2 s2 Z h F S2 sr2 gd2).bind fun z σ' dz h' Z' S' f sr' a gd' => tr_ok sr' a gd' (elts σ' Z' h' F S' sr' (fz_gd gd')) (OkR.ok (rel := OptR) (f := fun _ => 0) sr' trivial (good0 (fz_gd gd')))
      · rw [k2 j hj, wipeD_get hj]
      · rw [n2, wipeD_len]
theorem evAs_ok (K : CallsOk P Q) : ∀ (e : E) (τ : St), RunOk (AgRL τ) τ (evAs P e) (evalEs Q e τ)
  | .nil, τ => fun σ Z h F S sr gd => OkR.ok (rel := AgRL τ) (f := fun _ => 0) sr ⟨rfl, fun _ => rfl⟩ (good0 gd)
  | .cons a b, τ => two_ok (q := b.quiet) (k := fun x xs σ2 => .ok (x :: xs) σ2) (k2 := fun x xs h2 => .ok (x :: xs) h2) (evA_ok K a τ) (evAs_ok K b τ) (fun q x h h' e => quiet_exts b τ h q x h' e) fun x d y e σ Z h F S f g sr a1 b1 gd => OkR.ok (rel := AgRL τ) (f := fun b => f b + g b) sr ⟨d, e, f, g, rfl, a1, b1, fun _ => rfl⟩ (gd.le fun b => by (try dsimp only); omega)
  | .loc i, τ => run_bad
  | .cst d, τ => run_bad
  | .bop _ _ _, τ => run_bad
  | .cmp2 _ _ _ _ _, τ => run_bad
  | .neg _, τ => run_bad
  | .not _, τ => run_bad
  | .and _ _, τ => run_bad
  | .or _ _, τ => run_bad
  | .ite _ _ _, τ => run_bad
  | .tup _, τ => run_bad
  | .lst _, τ => run_bad
  | .dic _, τ => run_bad
  | .idx _ _, τ => run_bad
  | .slc _ _ _, τ => run_bad
  | .rev _, τ => run_bad
  | .isi _ _, τ => run_bad
  | .call _ _, τ => run_bad
  | .bi _ _, τ => run_bad
  | .me _ _ _, τ => run_bad
  | .meth _ _ _, τ => run_bad
  | .fld _ _, τ => run_bad
  | .mk _ _, τ => run_bad
  | .rng1 _, τ => run_bad
  | .rng2 _ _, τ => run_bad
  | .enum _, τ => run_bad
  | .zip _ _, τ => run_bad
  | .lc _ _ _ _ _, τ => run_bad
theorem evOs_ok (K : CallsOk P Q) : ∀ (e : E) (τ : St), RunOk RepL τ (evOs P e) (evalEs Q e τ)
  | .nil, τ => fun σ Z h F S sr gd => OkR.ok (rel := RepL) (f := fun _ => 0) sr ⟨rfl, fun _ => rfl⟩ (good0 gd)
  | .cons a b, τ => (evA_ok K a τ).bind fun x d σ Z h F S f sr a1 gd => by
    have o2 := own_ok (mv := false) sr a1 gd
    cases e : own false x σ with
    | bad => trivial
    | ex c row σ' =>
      rw [e] at o2
      obtain ⟨h', Z', S', e1, _⟩ := o2
      cases e1
    | ok v σ' =>
      rw [e] at o2
      obtain ⟨d', h', Z', S', g, e1, st, sr', rp, gd'⟩ := o2
      cases e1
      have o3 := evOs_ok K b τ σ' Z' h (fun b => g b + F b) S' sr' (gd'.le fun b => by (try dsimp only); omega)
      refine OkR.pre st ?_
      show OkR RepL Z' h F τ ((evOs P b σ').bind _) ((evalEs Q b τ h).bind _)
      cases e3 : evOs P b σ' with
      | bad => trivial
      | ex c row σ2 =>
        rw [e3] at o3
        obtain ⟨h2, Z2, S2, e4, st2, sr2, gd2⟩ := o3
        exact ⟨h2, Z2, S2, by rw [e4]; rfl, st2.le fun b => by (try dsimp only); omega, sr2, gd2.le fun b => by (try dsimp only); omega⟩
      | ok vs σ2 =>
        rw [e3] at o3
        obtain ⟨ds, h2, Z2, S2, g2, e4, st2, sr2, rps, gd2⟩ := o3
        rw [e4]
        exact ⟨d :: ds, h2, Z2, S2, fun b => g b + g2 b, rfl, st2.le fun b => by (try dsimp only); omega, sr2, ⟨d, ds, g, g2, rfl, rp.stp st2 fun b => by (try dsimp only); omega, rps, fun _ => rfl⟩, gd2.le fun b => by (try dsimp only); omega⟩
  | .loc i, τ => run_bad
  | .cst d, τ => run_bad
  | .bop _ _ _, τ => run_bad
  | .cmp2 _ _ _ _ _, τ => run_bad
  | .neg _, τ => run_bad
  | .not _, τ => run_bad
  | .and _ _, τ => run_bad
  | .or _ _, τ => run_bad
  | .ite _ _ _, τ => run_bad
  | .tup _, τ => run_bad
  | .lst _, τ => run_bad
  | .dic _, τ => run_bad
  | .idx _ _, τ => run_bad
  | .slc _ _ _, τ => run_bad
  | .rev _, τ => run_bad
  | .isi _ _, τ => run_bad
  | .call _ _, τ => run_bad
  | .bi _ _, τ => run_bad
  | .me _ _ _, τ => run_bad
  | .meth _ _ _, τ => run_bad
  | .fld _ _, τ => run_bad
  | .mk _ _, τ => run_bad
  | .rng1 _, τ => run_bad
  | .rng2 _ _, τ => run_bad
  | .enum _, τ => run_bad
  | .zip _ _, τ => run_bad
  | .lc _ _ _ _ _, τ => run_bad
theorem evIt_ok (K : CallsOk P Q) : ∀ (e : E) (τ : St) (m : Sv → RV Ag) (r : Hh → R D), RunOk (AgR τ) τ m r → RunOk ItR τ (evIt P e m) (evalItM Q e r τ)
  | .rng1 a, τ, m, r, o => (evA_ok K a τ).bind fun x d σ Z h F S f sr a1 gd => by
    cases e1 : rd σ x with
    | none => trivial
    | some v =>
      cases v with
      | int j =>
        obtain ⟨kv, rv, _⟩ := rd_ok sr a1 e1
        obtain ⟨ed, _⟩ := rv
        subst ed
        dsimp only
        by_cases c : small j = true
        · rw [if_pos c, if_pos c]
          exact OkR.ok (rel := ItR) (f := fun _ => 0) sr ⟨range_rep _ _, trivial, fun a o q => nomatch q⟩ (good0 (fz_gd gd))
        · rw [if_neg c]; trivial
      | _ => trivial
  | .rng2 a b, τ, m, r, o => two_ok (rel2 := ItR) (q := b.quiet) (k := fun x y σ2 => match rd σ2 x, rd σ2 y with
    | some (.int i), some (.int j) => if small i = true ∧ small j = true then .ok (rangeV i (j - i).toNat) σ2 else .bad
    | _, _ => .bad) (k2 := fun (x y : D) (h2 : Hh) => (match x, y with
    | .int i, .int j => if small i = true ∧ small j = true then R.ok (⟨rangeL i (j - i).toNat, none⟩ : Its) h2 else .bad
    | _, _ => .bad : R Its)) (evA_ok K a τ) (evA_ok K b τ) (fun q x h h' e => quiet_ext b τ h q x h' e) fun x d y e σ Z h F S f g sr a1 b1 gd => by
    cases e1 : rd σ x with
    | none => trivial
    | some v =>
      cases v with
      | int i =>
        cases e2 : rd σ y with
        | none => trivial
        | some w =>
          cases w with
          | int j =>
            obtain ⟨kv, rv, _⟩ := rd_ok sr a1 e1
            obtain ⟨kw, rw_, _⟩ := rd_ok sr b1 e2
            obtain ⟨ed, _⟩ := rv
            obtain ⟨ee, _⟩ := rw_
            subst ed ee
            dsimp only
            by_cases c : small i = true ∧ small j = true
            · rw [if_pos c, if_pos c]
              exact OkR.ok (rel := ItR) (f := fun _ => 0) sr ⟨range_rep _ _, trivial, fun a o q => nomatch q⟩ (gd.le fun b => by (try dsimp only); omega)
            · rw [if_neg c]; trivial
          | _ => trivial
      | _ => trivial
  | .enum a, τ, m, r, o => (evA_ok K a τ).bind fun x d σ Z h F S f sr a1 gd => by
    have o2 := own_ok (mv := false) sr a1 gd
    cases e : own false x σ with
    | bad => trivial
    | ex c row σ' =>
      rw [e] at o2
      obtain ⟨h', Z', S', e1, _⟩ := o2
      cases e1
    | ok v σ' =>
      rw [e] at o2
      obtain ⟨d', h', Z', S', g, e1, st, sr', rp, gd'⟩ := o2
      cases e1
      show OkR ItR Z h F τ (match itemsV v with
        | some xs => if V.fzL xs = true then .ok (enumV 0 xs) σ' else .bad
        | none => .bad) _
      cases e2 : itemsV v with
      | none => trivial
      | some xs =>
        dsimp only
        by_cases c : V.fzL xs = true
        · rw [if_pos c]
          obtain ⟨ds, k, e3, it⟩ := enumD_ok rp e2 c
          rw [e3]
          have it2 : ItR Z' h (enumV 0 xs) ⟨enumFrom 0 ds, k⟩ g := ⟨enum_rep 0 it.1, it.2.1, it.2.2⟩
          exact OkR.pre st (OkR.ok (rel := ItR) sr' it2 gd')
        · rw [if_neg c]; trivial
  | .zip _ _, τ, m, r, o => run_bad
  | .loc i, τ, m, r, o => it_of (e := .nil) o
  | .cst d, τ, m, r, o => it_of (e := .nil) o
  | .nil, τ, m, r, o => it_of (e := .nil) o
  | .cons _ _, τ, m, r, o => it_of (e := .nil) o
  | .bop _ _ _, τ, m, r, o => it_of (e := .nil) o
  | .cmp2 _ _ _ _ _, τ, m, r, o => it_of (e := .nil) o
  | .neg _, τ, m, r, o => it_of (e := .nil) o
  | .not _, τ, m, r, o => it_of (e := .nil) o
  | .and _ _, τ, m, r, o => it_of (e := .nil) o
  | .or _ _, τ, m, r, o => it_of (e := .nil) o
  | .ite _ _ _, τ, m, r, o => it_of (e := .nil) o
  | .tup _, τ, m, r, o => it_of (e := .nil) o
  | .lst _, τ, m, r, o => it_of (e := .nil) o
  | .dic _, τ, m, r, o => it_of (e := .nil) o
  | .idx _ _, τ, m, r, o => it_of (e := .nil) o
  | .slc _ _ _, τ, m, r, o => it_of (e := .nil) o
  | .rev _, τ, m, r, o => it_of (e := .nil) o
  | .isi _ _, τ, m, r, o => it_of (e := .nil) o
  | .call _ _, τ, m, r, o => it_of (e := .nil) o
  | .bi _ _, τ, m, r, o => it_of (e := .nil) o
  | .me _ _ _, τ, m, r, o => it_of (e := .nil) o
  | .meth _ _ _, τ, m, r, o => it_of (e := .nil) o
  | .fld _ _, τ, m, r, o => it_of (e := .nil) o
  | .mk _ _, τ, m, r, o => it_of (e := .nil) o
  | .lc _ _ _ _ _, τ, m, r, o => it_of (e := .nil) o
end
end
end VX
end

section
set_option Elab.async false
set_option linter.all false
set_option maxRecDepth 100000
set_option maxHeartbeats 4000000
/-! VX11: statements, defs. -/
namespace VX
open PySem IX
def FlR (Z : Nat → Prop) (h : Hh) (τ : St) (fl : Fv) (g : Cnt) (r : R Fl) : Prop := match fl with
  | .nx => r = .ok (.nx τ) h
  | .bk => r = .ok (.bk τ) h
  | .ct => r = .ok (.ct τ) h
  | .rt v => ∃ d, r = .ok (.rt d) h ∧ Rep Z h v d g
def OkS (Z : Nat → Prop) (h : Hh) (F : Cnt) (τ : St) (A : List Nat) (m : RV Fv) (r : R Fl) : Prop := match m with
  | .ok fl σ' => ∃ τ' h' Z' S g, Stp Z h F Z' h' ∧ SR Z' h' σ' τ' S ∧ τ'.length = τ.length ∧ (∀ j : Nat, j ∉ A → τ'[j]? = τ[j]?) ∧ Good Z' h' (fun b => S b + g b + F b) ∧ FlR Z' h' τ' fl g r
  | .ex c row σ' => ∃ τ' h' Z' S, r = .ex c (rowF row) h' ∧ Stp Z h F Z' h' ∧ SR Z' h' σ' τ' S ∧ τ'.length = τ.length ∧ (∀ j : Nat, j ∉ A → τ'[j]? = τ[j]?) ∧ Good Z' h' (fun b => S b + F b)
  | .bad => True
section
variable {α β γ δ : Type} {Z Z' Z2 : Nat → Prop} {h h' h2 : Hh} {F G f g S : Cnt} {τ τ1 : St} {σ : Sv} {A B : List Nat}
theorem OkS.pre {m : RV Fv} {r : R Fl} (st : Stp Z h F Z' h') (o : OkS Z' h' F τ A m r) : OkS Z h F τ A m r := by
  cases m with
  | ok fl σ' => obtain ⟨τ', h2, Z2, S, g, s2, rest⟩ := o; exact ⟨τ', h2, Z2, S, g, st.trans s2, rest⟩
  | ex c row σ' => obtain ⟨τ', h2, Z2, S, e, s2, rest⟩ := o; exact ⟨τ', h2, Z2, S, e, st.trans s2, rest⟩
  | bad => trivial
theorem OkS.le {m : RV Fv} {r : R Fl} (o : OkS Z h G τ A m r) (l : ∀ b, F b ≤ G b) : OkS Z h F τ A m r := by
  cases m with
  | ok fl σ' => obtain ⟨τ', h2, Z2, S, g, s2, sr, l1, l2, gd, fr⟩ := o; exact ⟨τ', h2, Z2, S, g, s2.le l, sr, l1, l2, gd.le fun b => by have := l b; (try dsimp only); omega, fr⟩
  | ex c row σ' => obtain ⟨τ', h2, Z2, S, e, s2, sr, l1, l2, gd⟩ := o; exact ⟨τ', h2, Z2, S, e, s2.le l, sr, l1, l2, gd.le fun b => by have := l b; (try dsimp only); omega⟩
  | bad => trivial
theorem OkS.more {m : RV Fv} {r : R Fl} (o : OkS Z h F τ A m r) (l : ∀ j, j ∈ A → j ∈ B) : OkS Z h F τ B m r := by
  cases m with
  | ok fl σ' => obtain ⟨τ', h2, Z2, S, g, s2, sr, l1, l2, gd, fr⟩ := o; exact ⟨τ', h2, Z2, S, g, s2, sr, l1, fun j hj => l2 j fun m => hj (l j m), gd, fr⟩
  | ex c row σ' => obtain ⟨τ', h2, Z2, S, e, s2, sr, l1, l2, gd⟩ := o; exact ⟨τ', h2, Z2, S, e, s2, sr, l1, fun j hj => l2 j fun m => hj (l j m), gd⟩
  | bad => trivial
/-- the slots were changed ahead -/
theorem OkS.from {m : RV Fv} {r : R Fl} (o : OkS Z h F τ1 A m r) (l1 : τ1.length = τ.length) (l2 : ∀ j : Nat, j ∉ A → τ1[j]? = τ[j]?) : OkS Z h F τ A m r := by
  cases m with
  | ok fl σ' => obtain ⟨τ', h2, Z2, S, g, s2, sr, k1, k2, gd, fr⟩ := o; exact ⟨τ', h2, Z2, S, g, s2, sr, k1.trans l1, fun j hj => (k2 j hj).trans (l2 j hj), gd, fr⟩
  | ex c row σ' => obtain ⟨τ', h2, Z2, S, e, s2, sr, k1, k2, gd⟩ := o; exact ⟨τ', h2, Z2, S, e, s2, sr, k1.trans l1, fun j hj => (k2 j hj).trans (l2 j hj), gd⟩
  | bad => trivial
theorem OkS.nx (sr : SR Z h σ τ S) (gd : Good Z h (fun b => S b + F b)) : OkS Z h F τ A (.ok .nx σ) (.ok (.nx τ) h) := ⟨τ, h, Z, S, fun _ => 0, Stp.refl, sr, rfl, fun _ _ => rfl, good0 gd, rfl⟩
/-- behind an expression -/
theorem OkR.toS {rel : Rl α β} {m : RV α} {r : R β} {k : α → Sv → RV Fv} {k2 : β → Hh → R Fl} (o : OkR rel Z h F τ m r)
    (q : ∀ x σ' d h' Z' S f, SR Z' h' σ' τ S → rel Z' h' x d f → Good Z' h' (fun b => S b + f b + F b) → OkS Z' h' F τ A (k x σ') (k2 d h')) : OkS Z h F τ A (m.bind k) (r.bind k2) := by
  cases m with
  | ok x σ' =>
    obtain ⟨d, h', Z', S, f, e, st, sr, rl, gd⟩ := o
    subst e
    exact OkS.pre st (q x σ' d h' Z' S f sr rl gd)
  | ex c row σ' =>
    obtain ⟨h', Z', S, e, st, sr, gd⟩ := o
    subst e
    exact ⟨τ, h', Z', S, rfl, st, sr, rfl, fun _ _ => rfl, gd⟩
  | bad => trivial
/-- .. with what stayed -/
theorem OkR.toS2 {rel : Rl α β} {m : RV α} {r : R β} {k : α → Sv → RV Fv} {k2 : β → Hh → R Fl} (o : OkR rel Z h F τ m r)
    (q : ∀ x σ' d h' Z' S f, Stp Z h F Z' h' → SR Z' h' σ' τ S → rel Z' h' x d f → Good Z' h' (fun b => S b + f b + F b) → OkS Z' h' F τ A (k x σ') (k2 d h')) : OkS Z h F τ A (m.bind k) (r.bind k2) := by
  cases m with
  | ok x σ' =>
    obtain ⟨d, h', Z', S, f, e, st, sr, rl, gd⟩ := o
    subst e
    exact OkS.pre st (q x σ' d h' Z' S f st sr rl gd)
  | ex c row σ' =>
    obtain ⟨h', Z', S, e, st, sr, gd⟩ := o
    subst e
    exact ⟨τ, h', Z', S, rfl, st, sr, rfl, fun _ _ => rfl, gd⟩
  | bad => trivial
/-- .. while a value is held -/
theorem OkR.toS3 {rel : Rl α β} {m : RV α} {r : R β} {k : α → Sv → RV Fv} {k2 : β → Hh → R Fl} {v : V} {dv : D} {fv : Cnt} (o : OkR rel Z h (fun b => fv b + F b) τ m r) (rp : Rep Z h v dv fv)
    (q : ∀ x σ' d h' Z' S f, SR Z' h' σ' τ S → rel Z' h' x d f → Rep Z' h' v dv fv → Good Z' h' (fun b => S b + f b + (fv b + F b)) → OkS Z' h' F τ A (k x σ') (k2 d h')) : OkS Z h F τ A (m.bind k) (r.bind k2) := by
  cases m with
  | ok x σ' =>
    obtain ⟨d, h', Z', S, f, e, st, sr, rl, gd⟩ := o
    subst e
    exact OkS.pre (st.le fun b => by (try dsimp only); omega) (q x σ' d h' Z' S f sr rl (rp.stp st fun b => by (try dsimp only); omega) gd)
  | ex c row σ' =>
    obtain ⟨h', Z', S, e, st, sr, gd⟩ := o
    subst e
    exact ⟨τ, h', Z', S, rfl, st.le fun b => by (try dsimp only); omega, sr, rfl, fun _ _ => rfl, gd.le fun b => by (try dsimp only); omega⟩
  | bad => trivial
/-- a statement, then others -/
theorem OkS.bind {m : RV Fv} {r : R Fl} {k : Fv → Sv → RV Fv} {k2 : Fl → Hh → R Fl} (o : OkS Z h F τ A m r)
    (q : ∀ fl σ' τ' h' Z' S g r', FlR Z' h' τ' fl g r' → SR Z' h' σ' τ' S → τ'.length = τ.length → (∀ j : Nat, j ∉ A → τ'[j]? = τ[j]?) → Good Z' h' (fun b => S b + g b + F b) → OkS Z' h' F τ B (k fl σ') (r'.bind k2)) (l : ∀ j, j ∈ A → j ∈ B) : OkS Z h F τ B (m.bind k) (r.bind k2) := by
  cases m with
  | ok fl σ' =>
    obtain ⟨τ', h', Z', S, g, st, sr, l1, l2, gd, fr⟩ := o
    exact OkS.pre st (q fl σ' τ' h' Z' S g r fr sr l1 l2 gd)
  | ex c row σ' =>
    obtain ⟨τ', h', Z', S, e, st, sr, l1, l2, gd⟩ := o
    subst e
    exact ⟨τ', h', Z', S, rfl, st, sr, l1, fun j hj => l2 j fun m => hj (l j m), gd⟩
  | bad => trivial
theorem OkR.ownS {mv : Bool} {x : Ag} {d : D} {k : V → Sv → RV Fv} {r : R Fl} (sr : SR Z h σ τ S) (a : AgR τ Z h x d f) (gd : Good Z h (fun b => S b + f b + F b))
    (q : ∀ v σ' Z' S f, SR Z' h σ' τ S → Rep Z' h v d f → Good Z' h (fun b => S b + f b + F b) → OkS Z' h F τ A (k v σ') r) : OkS Z h F τ A ((own mv x σ).bind k) r := by
  have o2 := own_ok (mv := mv) sr a gd
  cases e : own mv x σ with
  | bad => trivial
  | ex c row σ' =>
    rw [e] at o2
    obtain ⟨h', Z', S', e1, _⟩ := o2
    cases e1
  | ok v σ' =>
    rw [e] at o2
    obtain ⟨d', h', Z', S', g, e1, st, sr', rp, gd'⟩ := o2
    cases e1
    exact OkS.pre st (q v σ' Z' S' g sr' rp gd')
theorem trS_ok {x : Ag} {d : D} {m1 m2 : RV Fv} {r1 r2 : R Fl} (sr : SR Z h σ τ S) (a : AgR τ Z h x d f) (k1 : OkS Z h F τ A m1 r1) (k2 : OkS Z h F τ A m2 r2) :
    OkS Z h F τ A (match (rd σ x).bind truthV with
      | some true => m1
      | some false => m2
      | none => .bad) (match truth d h with
      | some true => r1
      | some false => r2
      | none => .bad) := by
  cases e1 : rd σ x with
  | none => trivial
  | some v =>
    show OkS Z h F τ A (match truthV v with
      | some true => m1
      | some false => m2
      | none => .bad) _
    cases e2 : truthV v with
    | none => trivial
    | some b =>
      obtain ⟨kv, r, _⟩ := rd_ok sr a e1
      rw [truth_ok e2 r]
      cases b <;> assumption
/-- a store to an object's part -/
theorem sto_ok {x : Ag} {d dw : D} {v : V} {fw : Cnt} {gV : V → Option V} {m : R D} (sr : SR Z h σ τ S) (a : AgR τ Z h x d f) (rw_ : Rep Z h v dw fw) (gd : Good Z h (fun b => S b + f b + fw b + F b))
    (hs : ∀ {w w' : V} {kw G : Cnt}, gV w = some w' → Rep Z h w d kw → Good Z h (fun b => kw b + fw b + G b) → w.fz = false ∧ StOk Z h G d w' m) {w : V} (e1 : rd σ x = some w) : OkS Z h F τ A (stoEnd x (gV w) σ) (m.bind fun _ h4 => .ok (.nx τ) h4) := by
  unfold stoEnd
  cases e2 : gV w with
  | none => trivial
  | some w' =>
    dsimp only
    cases x with
    | val w0 =>
      cases e1
      obtain ⟨_, y, h', f', e3, st, rp, gd'⟩ := hs (G := fun b => S b + F b) e2 a (gd.le fun b => by (try dsimp only); omega)
      rw [e3]
      exact OkS.pre (st.le fun b => by (try dsimp only); omega) (OkS.nx (sr.stp st fun b => by (try dsimp only); omega) (gd'.le fun b => by (try dsimp only); omega))
    | plc i p =>
      obtain ⟨v0, d0, kv, mm, kk, p1, p2, p3, p4, p5, p6, p7, p8, p9⟩ := plc_ok sr a e1
      obtain ⟨wf, y, h', f', e3, st, rp, gd'⟩ := hs (G := fun b => mm b + kk b + F b) e2 p6 (gd.le fun b => by have := p7 b; (try dsimp only); omega)
      rw [e3]
      dsimp only
      cases e4 : setAt σ i p w' with
      | none => trivial
      | some σ3 =>
        dsimp only
        have sr2 : SR Z h' (σ.set i none) τ kk := p8.stp st fun b => by (try dsimp only); omega
        have il : i < σ.length := by
          have := p1
          unfold slot at this
          rcases Nat.lt_or_ge i σ.length with z | z
          · exact z
          · rw [List.getElem?_eq_none z] at this; cases this
        cases p with
        | nil =>
          cases e4
          have : d0 = d := Option.some.inj p4
          subst this
          have new := sr2.fill rp il
          rw [set_get p3] at new
          exact OkS.pre (st.le fun b => by (try dsimp only); omega) (OkS.nx new (gd'.le fun b => by (try dsimp only); omega))
        | cons j p =>
          have e' : (match slot σ i with
            | some v => match getP v (j :: p) with
              | some w0 => if w0.fz = true then none else some (σ.set i (some (setP v (j :: p) w')))
              | none => none
            | none => none) = some σ3 := e4
          rw [p1] at e'
          dsimp only at e'
          rw [p2] at e'
          dsimp only at e'
          rw [if_neg (by rw [wf]; exact Bool.false_ne_true)] at e'
          cases e'
          have new := sr2.fill (p9 wf Z h' w' f' (fun _ z => z) (fun a z => st.keep a (z.imp id fun z => by (try dsimp only); omega)) rp) il
          rw [set_get p3] at new
          exact OkS.pre (st.le fun b => by (try dsimp only); omega) (OkS.nx new (gd'.le fun b => by (try dsimp only); omega))
theorem seti_fz {w k v w' : V} (e : setiV w k v = some w') : w.fz = false := by
  cases w with
  | lst o xs => cases o with
    | true => rfl
    | false => cases e
  | dic o ks vs => cases o with
    | true => rfl
    | false => cases e
  | _ => cases e
theorem setf_fz {w v w' : V} {n : Str} (e : setfV w n v = some w') : w.fz = false := by
  cases w with
  | ins o c ns vs => cases o with
    | true => rfl
    | false => cases e
  | _ => cases e
theorem fld_int {v : V} {d : D} {j : Nat} {n : Str} {i : Int} (e : fldV v n = some (j, .int i)) (r : Rep Z h v d f) : fldD d n h = .ok (.int i) h := by
  obtain ⟨y, k, e1, e2, _, _⟩ := fld_ok e r
  obtain ⟨ed, _⟩ := e2
  subst ed
  exact e1
open Classical in
theorem loop_ok {fV : V → Sv → RV Fv} {fD : D → St → Hh → R Fl} {t : Its} (hs : ∀ x d Z h F σ τ S, Rep Z h x d (fun _ => 0) → SR Z h σ τ S → Good Z h (fun b => S b + F b) → OkS Z h F τ A (fV x σ) (fD d τ h)) :
    ∀ (xs : List V) (ds : List D) Z h F σ τ S, RepL Z h xs ds (fun _ => 0) → t.stands h → (∀ a o, t.keep = some (a, o) → Z a ∨ F a ≠ 0) → SR Z h σ τ S → Good Z h (fun b => S b + F b) → OkS Z h F τ A (loopV fV xs σ) (loopF fD t ds τ h)
  | [], ds, Z, h, F, σ, τ, S, r, st, kp, sr, gd => by
    rw [r.1]
    show OkS Z h F τ A (.ok .nx σ) (if t.stands h then .ok (.nx τ) h else .bad)
    rw [if_pos st]
    exact OkS.nx sr gd
  | x :: xs, ds, Z, h, F, σ, τ, S, ⟨d, es, f1, f2, ed, r1, r2, s⟩, st, kp, sr, gd => by
    subst ed
    have z1 : ∀ b, f1 b = 0 := fun b => by have := s b; (try dsimp only at this); omega
    have z2 : ∀ b, f2 b = 0 := fun b => by have := s b; (try dsimp only at this); omega
    have e0 : loopF fD t (d :: es) τ h = (fD d τ h).bind fun fl h1 => match fl with
      | .nx σ1 => loopF fD t es σ1 h1
      | .ct σ1 => loopF fD t es σ1 h1
      | .bk σ1 => .ok (.nx σ1) h1
      | .rt d => .ok (.rt d) h1 := by
      show (if t.stands h then (fD d τ h).bind _ else R.bad) = _
      exact if_pos st
    rw [e0]
    have o := hs x d Z h F σ τ S (r1.cnt fun b => (z1 b).symm) sr gd
    cases e : fV x σ with
    | bad =>
      show OkS Z h F τ A ((fV x σ).bind _) _
      rw [e]; trivial
    | ex c row σ' =>
      rw [e] at o
      obtain ⟨τ', h', Z', S', e1, rest⟩ := o
      show OkS Z h F τ A ((fV x σ).bind _) _
      rw [e, e1]
      exact ⟨τ', h', Z', S', rfl, rest⟩
    | ok fl σ' =>
      rw [e] at o
      obtain ⟨τ', h', Z', S', g, st1, sr', l1, l2, gd', fr⟩ := o
      show OkS Z h F τ A ((fV x σ).bind _) _
      rw [e]
      have stands' : t.stands h' := by
        unfold Its.stands at st ⊢
        cases q : t.keep with
        | none => trivial
        | some p =>
          obtain ⟨a, o⟩ := p
          rw [q] at st
          dsimp only at st ⊢
          rw [st1.keep a (kp a o q)]; exact st
      have next := loop_ok hs xs es Z' h' F σ' τ' S' ((r2.stp st1 fun b => by rw [z2 b]; omega).cnt fun b => (z2 b).symm) stands' (fun a o q => (kp a o q).imp (st1.z a) id) sr' (fz_gd gd')
      cases fl with
      | nx =>
        rw [show fD d τ h = .ok (.nx τ') h' from fr]
        exact OkS.pre st1 (next.from l1 l2)
      | ct =>
        rw [show fD d τ h = .ok (.ct τ') h' from fr]
        exact OkS.pre st1 (next.from l1 l2)
      | bk =>
        rw [show fD d τ h = .ok (.bk τ') h' from fr]
        exact ⟨τ', h', Z', S', fun _ => 0, st1, sr', l1, l2, good0 (fz_gd gd'), rfl⟩
      | rt v =>
        obtain ⟨d', e1, rp⟩ := fr
        rw [e1]
        exact ⟨τ', h', Z', S', g, st1, sr', l1, l2, gd', d', rfl, rp⟩
theorem while_ok {cV : Sv → RV Ag} {bV : Sv → RV Fv} {cD : St → Hh → R D} {bD : St → Hh → R Fl} (hc : ∀ τ, RunOk (AgR τ) τ cV (cD τ)) (hb : ∀ Z h F σ τ S, SR Z h σ τ S → Good Z h (fun b => S b + F b) → OkS Z h F τ A (bV σ) (bD τ h)) :
    ∀ (n : Nat) Z h F σ τ S, SR Z h σ τ S → Good Z h (fun b => S b + F b) → OkS Z h F τ A (whileV cV bV n σ) (whileF cD bD n τ h)
  | 0, Z, h, F, σ, τ, S, sr, gd => trivial
  | n + 1, Z, h, F, σ, τ, S, sr, gd => (hc τ σ Z h F S sr gd).toS fun x σ' d h' Z' S' f sr' a gd' => trS_ok sr' a (by
      refine OkS.bind (A := A) (B := A) (hb Z' h' F σ' τ S' sr' (fz_gd gd')) (fun fl σ1 τ1 h1 Z1 S1 g r' fr sr1 l1 l2 gd1 => ?_) fun _ m => m
      have next := while_ok hc hb n Z1 h1 F σ1 τ1 S1 sr1 (fz_gd gd1)
      cases fl with
      | nx => rw [show r' = .ok (.nx τ1) h1 from fr]; exact next.from l1 l2
      | ct => rw [show r' = .ok (.ct τ1) h1 from fr]; exact next.from l1 l2
      | bk => rw [show r' = .ok (.bk τ1) h1 from fr]; exact ⟨τ1, h1, Z1, S1, fun _ => 0, Stp.refl, sr1, l1, l2, good0 (fz_gd gd1), rfl⟩
      | rt v =>
        obtain ⟨d', e1, rp⟩ := fr
        rw [e1]
        exact ⟨τ1, h1, Z1, S1, g, Stp.refl, sr1, l1, l2, gd1, d', rfl, rp⟩) (OkS.nx sr' (fz_gd gd'))
end
section
variable {P : PgV} {Q : Pg}
theorem exV_ok (K : CallsOk P Q) : ∀ (s : IX.S) (Z : Nat → Prop) (h : Hh) (F : Cnt) (σ : Sv) (τ : St) (S : Cnt), SR Z h σ τ S → Good Z h (fun b => S b + F b) → OkS Z h F τ s.asg (exV P s σ) (exec Q s τ h)
  | .skip, Z, h, F, σ, τ, S, sr, gd => OkS.nx sr gd
  | .seq a b, Z, h, F, σ, τ, S, sr, gd => by
    refine OkS.bind (A := a.asg) (B := a.asg ++ b.asg) (exV_ok K a Z h F σ τ S sr gd) (fun fl σ1 τ1 h1 Z1 S1 g r' fr sr1 l1 l2 gd1 => ?_) fun _ m => List.mem_append_left _ m
    have l2' : ∀ j : Nat, j ∉ a.asg ++ b.asg → τ1[j]? = τ[j]? := fun j hj => l2 j fun m => hj (List.mem_append_left _ m)
    cases fl with
    | nx =>
      rw [show r' = .ok (.nx τ1) h1 from fr]
      exact ((exV_ok K b Z1 h1 F σ1 τ1 S1 sr1 (fz_gd gd1)).more fun _ m => List.mem_append_right _ m).from l1 l2'
    | ct => rw [show r' = .ok (.ct τ1) h1 from fr]; exact ⟨τ1, h1, Z1, S1, fun _ => 0, Stp.refl, sr1, l1, l2', good0 (fz_gd gd1), rfl⟩
    | bk => rw [show r' = .ok (.bk τ1) h1 from fr]; exact ⟨τ1, h1, Z1, S1, fun _ => 0, Stp.refl, sr1, l1, l2', good0 (fz_gd gd1), rfl⟩
    | rt v =>
      obtain ⟨d', e1, rp⟩ := fr
      rw [e1]
      exact ⟨τ1, h1, Z1, S1, g, Stp.refl, sr1, l1, l2', gd1, d', rfl, rp⟩
  | .set i e, Z, h, F, σ, τ, S, sr, gd => (evA_ok K e τ σ Z h F S sr gd).toS fun x σ' d h' Z' S' f sr' a gd' => OkR.ownS sr' a gd' fun v σ2 Z2 S2 f2 sr2 rp gd2 => by
    obtain ⟨k, l, sr3⟩ := sr2.put rp i
    exact ⟨τ.set i (some d), h', Z2, k, fun _ => 0, Stp.refl, sr3, by rw [List.length_set], fun j hj => by rw [List.getElem?_set_ne]; rintro rfl; exact hj (List.mem_cons_self ..), gd2.le fun b => by have := l b; (try dsimp only); omega, rfl⟩
  | .unp is e, Z, h, F, σ, τ, S, sr, gd => (evA_ok K e τ σ Z h F S sr gd).toS fun x σ' d h' Z' S' f sr' a gd' => OkR.ownS sr' a gd' fun v σ2 Z2 S2 f2 sr2 rp gd2 => by
    cases e : targetV is true v σ2 with
    | none => trivial
    | some σ3 =>
      obtain ⟨τ', S3, e1, sr3, l, n, k⟩ := target_ok sr2 rp e
      rw [e1]
      exact ⟨τ', h', Z2, S3, fun _ => 0, Stp.refl, sr3, n, k, gd2.le fun b => by have := l b; (try dsimp only); omega, rfl⟩
  | .exp e, Z, h, F, σ, τ, S, sr, gd => (evA_ok K e τ σ Z h F S sr gd).toS fun x σ' d h' Z' S' f sr' a gd' => OkS.nx sr' (fz_gd gd')
  | .ret e, Z, h, F, σ, τ, S, sr, gd => (evA_ok K e τ σ Z h F S sr gd).toS fun x σ' d h' Z' S' f sr' a gd' => OkR.ownS sr' a gd' fun v σ2 Z2 S2 f2 sr2 rp gd2 => ⟨τ, h', Z2, S2, f2, Stp.refl, sr2, rfl, fun _ _ => rfl, gd2, d, rfl, rp⟩
  | .ite c a b, Z, h, F, σ, τ, S, sr, gd => (evA_ok K c τ σ Z h F S sr gd).toS fun x σ' d h' Z' S' f sr' x1 gd' => trS_ok sr' x1 ((exV_ok K a Z' h' F σ' τ S' sr' (fz_gd gd')).more fun _ m => List.mem_append_left _ m) ((exV_ok K b Z' h' F σ' τ S' sr' (fz_gd gd')).more fun _ m => List.mem_append_right _ m)
  | .whl c b, Z, h, F, σ, τ, S, sr, gd => while_ok (fun τ => evA_ok K c τ) (fun Z h F σ τ S sr gd => exV_ok K b Z h F σ τ S sr gd) rounds Z h F σ τ S sr gd
  | .loop gl tp it b, Z, h, F, σ, τ, S, sr, gd => (evIt_ok K it τ _ _ (evA_ok K it τ) σ Z h F S sr gd).toS fun xs σ' t h' Z' S' f sr' it1 gd' => by
    refine OkS.le (G := fun b => f b + F b) (loop_ok (A := gl ++ b.asg) (fun x d Z h F σ τ S r1 sr gd => ?_) xs t.xs Z' h' (fun b => f b + F b) σ' τ S' it1.1 it1.2.1 (fun a o q => (it1.2.2 a o q).imp id fun z => by (try dsimp only); omega) sr' (gd'.le fun b => by (try dsimp only); omega)) fun b => by (try dsimp only); omega
    cases e : targetV gl tp x σ with
    | none => trivial
    | some s2 =>
      obtain ⟨τ2, S2, e2, sr2, l2, n2, k2⟩ := target_ok sr r1 e
      rw [e2]
      exact ((exV_ok K b Z h F s2 τ2 S2 sr2 (gd.le fun b => by have := l2 b; (try dsimp only); omega)).more fun _ m => List.mem_append_right _ m).from n2 fun j hj => k2 j fun m => hj (List.mem_append_left _ m)
  | .brk, Z, h, F, σ, τ, S, sr, gd => ⟨τ, h, Z, S, fun _ => 0, Stp.refl, sr, rfl, fun _ _ => rfl, good0 gd, rfl⟩
  | .cnt, Z, h, F, σ, τ, S, sr, gd => ⟨τ, h, Z, S, fun _ => 0, Stp.refl, sr, rfl, fun _ _ => rfl, good0 gd, rfl⟩
  | .seti a i e, Z, h, F, σ, τ, S, sr, gd => (evA_ok K e τ σ Z h F S sr gd).toS fun x0 σ0 d0 h0 Z0 S0 f0 sr0 a0 gd0 => OkR.ownS sr0 a0 gd0 fun v σ1 Z1 S1 f1 sr1 rp gd1 =>
    (evA_ok K a τ σ1 Z1 h0 (fun b => f1 b + F b) S1 sr1 (gd1.le fun b => by (try dsimp only); omega)).toS3 rp fun x σ2 dx h2 Z2 S2 f2 sr2 a2 rp2 gd2 =>
      (after_ok (F := fun b => f1 b + F b) (evA_ok K i τ) (fun q x h h' e => quiet_ext i τ h q x h' e) sr2 a2 gd2).toS3 rp2 fun y σ3 dy h3 Z3 S3 cc sr3 ⟨f', g', a', rl, s⟩ rp3 gd3 => by
        cases e1 : rd σ3 x with
        | none => trivial
        | some w =>
          cases e2 : rd σ3 y with
          | none => trivial
          | some k =>
            obtain ⟨kk, rk, _⟩ := rd_ok sr3 rl e2
            exact sto_ok (gV := fun w => setiV w k v) (F := F) sr3 a' rp3 (gd3.le fun b => by have := s b; (try dsimp only); omega) (fun e r g => ⟨seti_fz e, seti_ok e r rk rp3 g⟩) e1
  | .setf a n e, Z, h, F, σ, τ, S, sr, gd => (evA_ok K e τ σ Z h F S sr gd).toS fun x0 σ0 d0 h0 Z0 S0 f0 sr0 a0 gd0 => OkR.ownS sr0 a0 gd0 fun v σ1 Z1 S1 f1 sr1 rp gd1 =>
    (evA_ok K a τ σ1 Z1 h0 (fun b => f1 b + F b) S1 sr1 (gd1.le fun b => by (try dsimp only); omega)).toS3 rp fun x σ2 dx h2 Z2 S2 f2 sr2 a2 rp2 gd2 => by
      cases e1 : rd σ2 x with
      | none => trivial
      | some w => exact sto_ok (gV := fun w => setfV w n v) (F := F) sr2 a2 rp2 (gd2.le fun b => by (try dsimp only); omega) (fun e r g => ⟨setf_fz e, setf_ok e r rp2 g⟩) e1
  | .aug i o e, Z, h, F, σ, τ, S, sr, gd => by
    show OkS Z h F τ [i] (match slot σ i with
      | some _ => (evA P e σ).bind fun y σ1 => (op2 o (.plc i []) y σ1).bind fun z σ2 => match z with
        | .val v => .ok .nx (σ2.set i (some v))
        | _ => .bad
      | none => .bad) (match τ[i]? with
      | some (some v) => (evalE Q e τ h).bind fun y h1 => (binop o v y h1).bind fun z h2 => .ok (.nx (τ.set i (some z))) h2
      | _ => .bad)
    cases e0 : slot σ i with
    | none => trivial
    | some v0 =>
      obtain ⟨d0, g0, k0, t0, _⟩ := sr.get e0
      rw [t0]
      exact (evA_ok K e τ σ Z h F S sr gd).toS fun y σ1 dy h1 Z1 S1 f1 sr1 a1 gd1 => (op2_ok (F := F) (x := .plc i []) (d := d0) (f := fun _ => 0) sr1 ⟨fun _ => rfl, d0, t0, rfl⟩ a1 (gd1.le fun b => by (try dsimp only); omega)).toS fun z σ2 dz h2 Z2 S2 f2 sr2 a2 gd2 => by
        cases z with
        | plc _ _ => trivial
        | val v =>
          obtain ⟨k, l, sr3⟩ := sr2.put (show Rep Z2 h2 v dz f2 from a2) i
          exact ⟨τ.set i (some dz), h2, Z2, k, fun _ => 0, Stp.refl, sr3, by rw [List.length_set], fun j hj => by rw [List.getElem?_set_ne]; rintro rfl; exact hj (List.mem_cons_self ..), gd2.le fun b => by have := l b; (try dsimp only); omega, rfl⟩
  | .augf a n o e, Z, h, F, σ, τ, S, sr, gd => (evA_ok K a τ σ Z h F S sr gd).toS fun x σ1 dx h1 Z1 S1 f1 sr1 a1 gd1 => by
    cases e1 : rd σ1 x with
    | none => trivial
    | some w =>
      show OkS Z1 h1 F τ [] (match fldV w n with
        | some (_, .int i) => (after x e.quiet (evA P e) σ1).bind fun y σ2 => (op2 o (.val (.int i)) y σ2).bind fun z σ3 => match z with
          | .val v => if v.fz = true then match rd σ3 x with
            | some w => stoEnd x (setfV w n v) σ3
            | none => .bad
            else .bad
          | _ => .bad
        | _ => .bad) _
      cases e2 : fldV w n with
      | none => trivial
      | some q =>
        obtain ⟨j, u⟩ := q
        cases u with
        | int i =>
          obtain ⟨kw, rw_, _⟩ := rd_ok sr1 a1 e1
          rw [fld_int e2 rw_]
          exact (after_ok (F := F) (evA_ok K e τ) (fun q x h h' e0 => quiet_ext e τ h q x h' e0) sr1 a1 gd1).toS fun y σ2 dy h2 Z2 S2 cc sr2 ⟨f', g', a', rl, s⟩ gd2 => by
            have gd2' : Good Z2 h2 (fun b => S2 b + (fun _ => 0) b + g' b + (f' b + F b)) := gd2.le fun b => by have := s b; (try dsimp only); omega
            have ai : AgR τ Z2 h2 (.val (.int i)) (.int i) (fun _ => 0) := ⟨rfl, fun _ => rfl⟩
            cases q : op2 o (.val (.int i)) y σ2 with
            | bad => trivial
            | ex c row σ' => exact absurd q op2_no
            | ok z σ3 =>
              obtain ⟨e3, r, e4, nw⟩ := op2_nw (F := fun b => f' b + F b) sr2 ai rl gd2' q
              subst e3 e4
              obtain ⟨zz, t, k, e5, rz, _⟩ := nw
              rw [e5]
              show OkS Z2 h2 F τ [] (if r.fz = true then match rd σ3 x with
                | some w => stoEnd x (setfV w n r) σ3
                | none => .bad
                else .bad) _
              by_cases cf : r.fz = true
              case neg => rw [if_neg cf]; trivial
              rw [if_pos cf]
              have z0 := rz.fz0 cf
              have st : Stp Z2 h2 (fun b => S2 b + f' b + F b) Z2 (h2 ++ t) := Good.stpx (f := fun _ => 0) (gd2'.le fun b => by (try dsimp only); omega) t
              have sr3 : SR Z2 (h2 ++ t) σ3 τ S2 := sr2.stp st fun b => by (try dsimp only); omega
              have a3 : AgR τ Z2 (h2 ++ t) x dx f' := AgR.ext (F := fun b => S2 b + F b) (gd2'.le fun b => by (try dsimp only); omega) a'
              have gd3 : Good Z2 (h2 ++ t) (fun b => S2 b + f' b + k b + F b) := ⟨fun a => by have := gd2'.one a; have := z0 a; (try dsimp only at *); omega, fun a z => by have := gd2'.fz a z; have := z0 a; (try dsimp only at *); omega, fun a l => by
                have hl := gd2'.lt a (by rw [List.length_append] at l; omega)
                have h0 := z0 a
                exact ⟨by have := hl.1; (try dsimp only at *); omega, hl.2⟩⟩
              refine OkS.pre (st.le fun b => by (try dsimp only); omega) ?_
              cases e6 : rd σ3 x with
              | none => trivial
              | some w2 => exact sto_ok (gV := fun w => setfV w n r) (F := F) sr3 a3 rz gd3 (fun e r g => ⟨setf_fz e, setf_ok e r rz g⟩) e6
        | _ => trivial
end
end VX
end

section
set_option Elab.async false
set_option linter.all false
set_option maxRecDepth 100000
set_option maxHeartbeats 4000000
/-! VX12: calls; a law's end. -/
namespace VX
open PySem IX
section
variable {Z Z' Z2 : Nat → Prop} {h h' h2 : Hh} {F G f g S : Cnt}
/-- slots left out -/
theorem SR.mask : ∀ {σ : Sv} {τ : St} {S : Cnt} {σ2 : Sv} {τ2 : St}, SR Z h σ τ S → σ2.length ≤ σ.length → τ2.length = σ2.length → (∀ (k : Nat) (v : V), σ2[k]? = some (some v) → σ[k]? = some (some v) ∧ τ2[k]? = τ[k]?) → ∃ S2, SR Z h σ2 τ2 S2 ∧ ∀ b, S2 b ≤ S b
  | σ, τ, S, [], τ2, sr, l1, l2, m => ⟨fun _ => 0, ⟨List.length_eq_zero_iff.mp l2, fun _ => rfl⟩, fun b => Nat.zero_le _⟩
  | [], τ, S, y :: σ2, τ2, sr, l1, l2, m => by cases l1
  | x :: σ, τ, S, y :: σ2, [], sr, l1, l2, m => by cases l2
  | x :: σ, τ, S, y :: σ2, t2 :: τ2, sr, l1, l2, m => by
    have tl : ∃ t τ' f1 f2, τ = t :: τ' ∧ SR Z h σ τ' f2 ∧ (∀ b, S b = f1 b + f2 b) ∧ ∀ v, x = some v → ∃ d, t = some d ∧ Rep Z h v d f1 := by
      cases x with
      | none => obtain ⟨t, τ', e, r⟩ := sr; exact ⟨t, τ', fun _ => 0, S, e, r, fun b => by (try dsimp only); omega, fun v e => nomatch e⟩
      | some v =>
        obtain ⟨d, τ', f1, f2, e, r1, r2, s⟩ := sr
        exact ⟨some d, τ', f1, f2, e, r2, s, fun v' e => by cases e; exact ⟨d, rfl, r1⟩⟩
    obtain ⟨t, τ', f1, f2, e, r2, s, hx⟩ := tl
    subst e
    obtain ⟨S2, sr2, l3⟩ := SR.mask (σ2 := σ2) (τ2 := τ2) r2 (by simpa using l1) (by simpa using l2) fun k v e => by
      have := m (k + 1) v (by simpa using e)
      simpa using this
    cases y with
    | none => exact ⟨S2, ⟨t2, τ2, rfl, sr2⟩, fun b => by have := s b; have := l3 b; omega⟩
    | some v =>
      obtain ⟨e1, e2⟩ := m 0 v rfl
      have ex : x = some v := by simpa using e1
      obtain ⟨d, et, r1⟩ := hx v ex
      have e2' : t2 = t := by simpa using e2
      subst e2' et
      exact ⟨fun b => f1 b + S2 b, ⟨d, τ2, f1, S2, rfl, r1, sr2, fun _ => rfl⟩, fun b => by have := s b; have := l3 b; (try dsimp only); omega⟩
theorem start_sr : ∀ {vs : List V} {ds : List D} {A : Cnt} (n : Nat), RepL Z h vs ds A → SR Z h (vs.map some ++ List.replicate n none) (ds.map some ++ List.replicate n none) A
  | [], ds, A, n, r => by
    rw [r.1]
    show SR Z h (List.replicate n none) (List.replicate n none) A
    induction n with
    | zero => exact ⟨rfl, r.2⟩
    | succ n ih => exact ⟨none, _, rfl, ih⟩
  | v :: vs, ds, A, n, ⟨d, es, f1, f2, ed, r1, r2, s⟩ => by
    subst ed
    exact ⟨d, _, f1, f2, rfl, r1, start_sr n r2, s⟩
theorem finV_len {d : Def} {σ : Sv} : (finV d σ).length = d.np := by unfold finV; rw [List.length_map, List.length_range]
theorem finV_get {d : Def} {σ : Sv} {k : Nat} {v : V} (e : (finV d σ)[k]? = some (some v)) : k < d.np ∧ k ∉ d.body.asg ∧ σ[k]? = some (some v) := by
  unfold finV at e
  rw [List.getElem?_map] at e
  by_cases c : k < d.np
  · rw [List.getElem?_range c] at e
    have e' : (if d.body.asg.contains k then none else slot σ k) = some v := by simpa using e
    by_cases c2 : d.body.asg.contains k = true
    · rw [if_pos c2] at e'; cases e'
    · rw [if_neg c2] at e'
      refine ⟨c, fun m => c2 (by simpa using m), ?_⟩
      unfold slot at e'
      split at e'
      · rename_i w q; rw [q, e']
      · cases e'
  · rw [List.getElem?_eq_none (by rw [List.length_range]; omega)] at e; cases e
theorem fin_ok {d : Def} {σ : Sv} {τ : St} {ds : List D} (sr : SR Z h σ τ S) (lt : τ.length = (IX.start d ds).length) (hl : ds.length = d.np) (hn : ∀ j : Nat, j ∉ d.body.asg → τ[j]? = (IX.start d ds)[j]?) : ∃ S2, SR Z h (finV d σ) (ds.map some) S2 ∧ ∀ b, S2 b ≤ S b := by
  have lσ := sr.length
  have ls : d.np ≤ (IX.start d ds).length := by unfold IX.start; rw [List.length_append, List.length_map]; omega
  refine sr.mask (by rw [finV_len]; omega) (by rw [List.length_map, finV_len, hl]) fun k v e => ?_
  obtain ⟨c, c2, e2⟩ := finV_get e
  refine ⟨e2, ?_⟩
  rw [hn k c2]
  unfold IX.start
  rw [List.getElem?_append_left (by rw [List.length_map]; omega)]
end
theorem callV_ok (T : Tbl) (fr : Nat → Bool) : ∀ n, CallsOk ⟨callV T fr n, T.meth, T.init, fr⟩ ⟨callF T n, T.meth, T.init⟩
  | 0 => ⟨fun _ _ _ _ _ _ _ _ _ => trivial, rfl, rfl⟩
  | n + 1 => ⟨fun f vs ds Z h F A r gd => by
    show OkR Rep Z h F (ds.map some) (match T.fn f with
      | some d => if vs.length = d.np then leaveV d (exV ⟨callV T fr n, T.meth, T.init, fr⟩ d.body (startV d vs)) else .bad
      | none => .bad) (match T.fn f with
      | some d => if ds.length = d.np then leave h (exec ⟨callF T n, T.meth, T.init⟩ d.body (start d ds) h) else .bad
      | none => .bad)
    cases e : T.fn f with
    | none => trivial
    | some d =>
      dsimp only
      by_cases c : vs.length = d.np
      case neg => rw [if_neg c]; trivial
      have cd : ds.length = d.np := by rw [r.length]; exact c
      rw [if_pos c, if_pos cd]
      have sr : SR Z h (startV d vs) (IX.start d ds) A := by
        unfold startV IX.start
        rw [r.length]
        exact start_sr _ r
      have o := exV_ok (callV_ok T fr n) d.body Z h F _ _ A sr gd
      cases q : exV ⟨callV T fr n, T.meth, T.init, fr⟩ d.body (startV d vs) with
      | bad => trivial
      | ex cc row σ' =>
        rw [q] at o
        obtain ⟨τ', h', Z', S, e1, st, sr', l1, l2, gd'⟩ := o
        rw [e1]
        obtain ⟨S2, sr2, l3⟩ := fin_ok sr' l1 cd l2
        exact ⟨h', Z', S2, rfl, st, sr2, gd'.le fun b => by have := l3 b; (try dsimp only); omega⟩
      | ok fl σ' =>
        rw [q] at o
        obtain ⟨τ', h', Z', S, g, st, sr', l1, l2, gd', fr'⟩ := o
        obtain ⟨S2, sr2, l3⟩ := fin_ok sr' l1 cd l2
        cases fl with
        | nx =>
          rw [show exec ⟨callF T n, T.meth, T.init⟩ d.body (IX.start d ds) h = .ok (.nx τ') h' from fr']
          exact ⟨.non, h', Z', S2, fun _ => 0, rfl, st, sr2, ⟨rfl, fun _ => rfl⟩, gd'.le fun b => by have := l3 b; (try dsimp only); omega⟩
        | rt v =>
          obtain ⟨dv, e1, rp⟩ := fr'
          rw [e1]
          exact ⟨dv, h', Z', S2, g, rfl, st, sr2, rp, gd'.le fun b => by have := l3 b; (try dsimp only); omega⟩
        | bk => trivial
        | ct => trivial, rfl, rfl⟩
/-- a law told without the heap holds over it -/
theorem law_V {T : Tbl} {fr : Nat → Bool} {n f : Nat} (hv : ∀ ns : List Int, ns.length ≤ 63 → ∃ σ, callV T fr n f [.lck (ns.map V.int)] = .ok (.bl true) σ) : ∀ ns : List Int, ns.length ≤ 63 → ∃ h', callF T n f [.lck (ns.map D.int)] [] = .ok (.bl true) h' := fun ns hl => by
  obtain ⟨σ, e⟩ := hv ns hl
  have o := (callV_ok T fr n).call f [.lck (ns.map V.int)] [.lck (ns.map D.int)] (fun _ => False) [] (fun _ => 0) (fun _ => 0) ⟨_, _, fun _ => 0, fun _ => 0, rfl, ⟨_, rfl, ints_rep ns, fun _ => rfl⟩, ⟨rfl, fun _ => rfl⟩, fun _ => rfl⟩ ⟨fun _ => Nat.zero_le _, fun _ z => z.elim, fun _ _ => ⟨rfl, fun z => z⟩⟩
  rw [show (PgV.mk (callV T fr n) T.meth T.init fr).call = callV T fr n from rfl, e] at o
  obtain ⟨d, h', Z', S, g, e1, _, _, rp, _⟩ := o
  obtain ⟨ed, _⟩ := rp
  subst ed
  exact ⟨h', e1⟩
end VX
end

section
set_option Elab.async false
set_option linter.all false
set_option maxRecDepth 100000
set_option maxHeartbeats 4000000
/-! VK1: reckoning without the heap: every step a rule without binders. -/
namespace VX
open PySem IX
section
variable {α β : Type} {P : PgV} {o p : Op} {a b c e : IX.E} {σ σ1 σ2 σ' : Sv} {x y z : Ag} {v w u : V} {vs ws xs ys : List V} {as : List Ag} {i j k n : Nat} {r : Option Int} {q : Bool}
/-! slots -/
@[simp] theorem slot_zero {t : Option V} : slot (t :: σ) 0 = t := by cases t <;> rfl
@[simp] theorem slot_succ {t : Option V} : slot (t :: σ) (i + 1) = slot σ i := by simp [slot]
theorem slot_set (h : i < σ.length) : slot (σ.set i (some v)) i = some v := by simp [slot, h]
@[simp] theorem rd_val : rd σ (.val v) = some v := (rfl)
@[simp] theorem rd_nil : rd σ (.plc i []) = slot σ i := (rfl)
def krd (p : List Nat) (s : Option V) : Option V := s.bind fun v => getP v p
@[simp] theorem rd_deep {p : List Nat} : rd σ (.plc i (j :: p)) = krd (j :: p) (slot σ i) := (rfl)
@[simp] theorem krd_some {p : List Nat} : krd p (some v) = getP v p := (rfl)
@[simp] theorem getP_nil : getP v [] = some v := (rfl)
def kgp (p : List Nat) (s : Option V) : Option V := s.bind fun w => getP w p
@[simp] theorem getP_cons {p : List Nat} : getP v (j :: p) = kgp p v.kids[j]? := (rfl)
@[simp] theorem kgp_some {p : List Nat} : kgp p (some v) = getP v p := (rfl)
@[simp] theorem kids_tup : (V.tup xs).kids = xs := (rfl)
@[simp] theorem kids_lst : (V.lst q xs).kids = xs := (rfl)
@[simp] theorem kids_dic : (V.dic q xs ys).kids = ys := (rfl)
@[simp] theorem kids_ins {ns : List Str} : (V.ins q n ns xs).kids = xs := (rfl)
@[simp] theorem wk_tup : (V.tup xs).withKids ys = .tup ys := (rfl)
@[simp] theorem wk_lst : (V.lst q xs).withKids ys = .lst q ys := (rfl)
@[simp] theorem wk_dic : (V.dic q xs vs).withKids ys = .dic q xs ys := (rfl)
@[simp] theorem wk_ins {ns : List Str} : (V.ins q n ns xs).withKids ys = .ins q n ns ys := (rfl)
@[simp] theorem setP_nil : setP v [] w = w := (rfl)
def ksp (v : V) (i : Nat) (p : List Nat) (w : V) (s : Option V) : V := match s with
  | some k => v.withKids (v.kids.set i (setP k p w))
  | none => v
@[simp] theorem setP_cons' {p : List Nat} : setP v (i :: p) w = ksp v i p w v.kids[i]? := (rfl)
@[simp] theorem ksp_some {p : List Nat} : ksp v i p w (some u) = v.withKids (v.kids.set i (setP u p w)) := (rfl)
@[simp] theorem setAt_nil : setAt σ i [] w = some (σ.set i (some w)) := (rfl)
def ksa1 (σ : Sv) (i : Nat) (p : List Nat) (w : V) (s : Option V) : Option Sv := match s with
  | some v => match getP v p with
    | some w0 => if w0.fz = true then none else some (σ.set i (some (setP v p w)))
    | none => none
  | none => none
def ksa2 (σ : Sv) (i : Nat) (p : List Nat) (w v : V) (s : Option V) : Option Sv := match s with
  | some w0 => if w0.fz = true then none else some (σ.set i (some (setP v p w)))
  | none => none
@[simp] theorem setAt_deep {p : List Nat} : setAt σ i (j :: p) w = ksa1 σ i (j :: p) w (slot σ i) := (rfl)
@[simp] theorem ksa1_some {p : List Nat} : ksa1 σ i p w (some v) = ksa2 σ i p w v (getP v p) := (rfl)
theorem ksa2_some {p : List Nat} (h : u.fz = false) : ksa2 σ i p w v (some u) = some (σ.set i (some (setP v p w))) := by
  show (if u.fz = true then none else _) = _
  rw [h]; rfl
/-! frozen -/
@[simp] theorem fz_non : V.non.fz = true := (rfl)
@[simp] theorem fz_bl {t : Bool} : (V.bl t).fz = true := (rfl)
@[simp] theorem fz_int {t : Int} : (V.int t).fz = true := (rfl)
@[simp] theorem fz_str {t : Str} : (V.str t).fz = true := (rfl)
@[simp] theorem fz_tup : (V.tup xs).fz = V.fzL xs := (rfl)
@[simp] theorem fz_lck : (V.lck xs).fz = V.fzL xs := (rfl)
@[simp] theorem fz_lstT : (V.lst true xs).fz = false := (rfl)
@[simp] theorem fz_lstF : (V.lst false xs).fz = V.fzL xs := (rfl)
@[simp] theorem fz_dicT : (V.dic true xs ys).fz = false := (rfl)
@[simp] theorem fz_dicF : (V.dic false xs ys).fz = (V.fzL xs && V.fzL ys) := (rfl)
@[simp] theorem fz_insT {ns : List Str} : (V.ins true n ns ys).fz = false := (rfl)
@[simp] theorem fz_insF {ns : List Str} : (V.ins false n ns ys).fz = V.fzL ys := (rfl)
@[simp] theorem fzL_nil : V.fzL [] = true := (rfl)
@[simp] theorem fzL_cons : V.fzL (v :: vs) = (v.fz && V.fzL vs) := (rfl)
theorem fzL_app : V.fzL (vs ++ ws) = (V.fzL vs && V.fzL ws) := by
  induction vs with
  | nil => rfl
  | cons v vs ih => show (v.fz && V.fzL (vs ++ ws)) = (v.fz && V.fzL vs && V.fzL ws); rw [ih, Bool.and_assoc]
theorem fzL_all : V.fzL vs = vs.all V.fz := by
  induction vs with
  | nil => rfl
  | cons v vs ih => show (v.fz && V.fzL vs) = _; rw [ih]; rfl
mutual
theorem freeze_fz : ∀ v : V, v.fz = true → v.freeze = v
  | .non, _ => rfl
  | .bl _, _ => rfl
  | .int _, _ => rfl
  | .str _, _ => rfl
  | .tup xs, h => by show V.tup (V.freezeL xs) = _; rw [freezeL_fz xs h]
  | .lck xs, h => by show V.lck (V.freezeL xs) = _; rw [freezeL_fz xs h]
  | .lst true xs, h => by cases h
  | .lst false xs, h => by show V.lst false (V.freezeL xs) = _; rw [freezeL_fz xs h]
  | .dic true ks vs, h => by cases h
  | .dic false ks vs, h => by
    have h' : (V.fzL ks && V.fzL vs) = true := h
    rw [Bool.and_eq_true] at h'
    show V.dic false (V.freezeL ks) (V.freezeL vs) = _; rw [freezeL_fz ks h'.1, freezeL_fz vs h'.2]
  | .ins true c ns vs, h => by cases h
  | .ins false c ns vs, h => by show V.ins false c ns (V.freezeL vs) = _; rw [freezeL_fz vs h]
theorem freezeL_fz : ∀ vs : List V, V.fzL vs = true → V.freezeL vs = vs
  | [], _ => rfl
  | v :: vs, h => by
    have h' : (v.fz && V.fzL vs) = true := h
    rw [Bool.and_eq_true] at h'
    show v.freeze :: V.freezeL vs = _
    rw [freeze_fz v h'.1, freezeL_fz vs h'.2]
end
@[simp] theorem frz_lst : (V.lst q xs).freeze = .lst false (V.freezeL xs) := (rfl)
/-! behind another one -/
@[simp] theorem after_val {m : Sv → RV α} : after (.val v) q m σ = m σ := (rfl)
@[simp] theorem after_nil {m : Sv → RV α} : after (.plc i []) q m σ = m σ := (rfl)
@[simp] theorem after_deepT {m : Sv → RV α} {p : List Nat} : after (.plc i (j :: p)) true m σ = m σ := (rfl)
@[simp] theorem after_deepF {m : Sv → RV α} {p : List Nat} : after (.plc i (j :: p)) false m σ = lend i m σ := (rfl)
@[simp] theorem pick_fz (h : v.fz = true) : pick x j v = .val v := if_pos h
@[simp] theorem pick_val : pick (.val w) j v = .val v := by unfold pick; split <;> rfl
theorem pick_ow {p : List Nat} (h : v.fz = false) : pick (.plc i p) j v = .plc i (p ++ [j]) := by unfold pick; rw [h]; rfl
@[simp] theorem pick_int {t : Int} : pick x j (.int t) = .val (.int t) := (rfl)
@[simp] theorem pick_str {t : Str} : pick x j (.str t) = .val (.str t) := (rfl)
@[simp] theorem pick_bl {t : Bool} : pick x j (.bl t) = .val (.bl t) := (rfl)
@[simp] theorem pick_non : pick x j .non = .val .non := (rfl)
/-! quiet -/
@[simp] theorem qu_loc : (IX.E.loc i).quiet = true := (rfl)
@[simp] theorem qu_cst {d : D} : (IX.E.cst d).quiet = true := (rfl)
@[simp] theorem qu_nil : IX.E.nil.quiet = true := (rfl)
@[simp] theorem qu_cons : (IX.E.cons a b).quiet = (a.quiet && b.quiet) := (rfl)
@[simp] theorem qu_bop : (IX.E.bop o a b).quiet = (a.quiet && b.quiet) := (rfl)
@[simp] theorem qu_neg : (IX.E.neg a).quiet = a.quiet := (rfl)
@[simp] theorem qu_not : (IX.E.not a).quiet = a.quiet := (rfl)
@[simp] theorem qu_tup : (IX.E.tup a).quiet = a.quiet := (rfl)
@[simp] theorem qu_lst : (IX.E.lst a).quiet = a.quiet := (rfl)
@[simp] theorem qu_idx : (IX.E.idx a b).quiet = (a.quiet && b.quiet) := (rfl)
@[simp] theorem qu_fld {f : Str} : (IX.E.fld a f).quiet = a.quiet := (rfl)
@[simp] theorem qu_call : (IX.E.call i a).quiet = false := (rfl)
@[simp] theorem qu_bi {f : Bi} : (IX.E.bi f a).quiet = false := (rfl)
/-! taken for good -/
@[simp] theorem own_val {mv : Bool} : own mv (.val v) σ = .ok v σ := (rfl)
def kow (mv : Bool) (i : Nat) (p : List Nat) (σ : Sv) (s : Option V) : RV V := match s with
  | some v => if v.fz = true then .ok v σ else if mv = true ∧ p = [] then .ok v (σ.set i none) else match setAt σ i p v.freeze with
    | some σ' => .ok v.freeze σ'
    | none => .bad
  | none => .bad
@[simp] theorem own_plc {mv : Bool} {p : List Nat} : own mv (.plc i p) σ = kow mv i p σ (rd σ (.plc i p)) := (rfl)
@[simp] theorem kow_fz {mv : Bool} {p : List Nat} (h : v.fz = true) : kow mv i p σ (some v) = .ok v σ := if_pos h
@[simp] theorem kow_mv (h : v.fz = false) : kow true i [] σ (some v) = .ok v (σ.set i none) := by
  show (if v.fz = true then RV.ok v σ else if true = true ∧ ([] : List Nat) = [] then _ else _) = _
  rw [h, if_neg (by simp), if_pos (by simp)]
@[simp] theorem kow_fr (h : v.fz = false) : kow false i [] σ (some v) = .ok v.freeze (σ.set i (some v.freeze)) := by
  show (if v.fz = true then RV.ok v σ else if false = true ∧ ([] : List Nat) = [] then _ else _) = _
  rw [h, if_neg (by simp), if_neg (by simp)]; rfl
theorem kow_frp {mv : Bool} {p : List Nat} (h : v.fz = false) (e : setAt σ i (j :: p) v.freeze = some σ') : kow mv i (j :: p) σ (some v) = .ok v.freeze σ' := by
  show (if v.fz = true then RV.ok v σ else if mv = true ∧ (j :: p) = [] then _ else match setAt σ i (j :: p) v.freeze with
      | some σ' => RV.ok v.freeze σ'
      | none => .bad) = _
  rw [h, if_neg (by simp), if_neg (by simp), e]
/-! expressions -/
def kl (i : Nat) (σ : Sv) (s : Option V) : RV Ag := match s with
  | some _ => .ok (.plc i []) σ
  | none => .bad
@[simp] theorem ev_loc : evA P (.loc i) σ = kl i σ (slot σ i) := (rfl)
@[simp] theorem kl_ok : kl i σ (some v) = .ok (.plc i []) σ := (rfl)
def kval (s : Option V) (σ : Sv) : RV Ag := match s with
  | some v => .ok (.val v) σ
  | none => .bad
@[simp] theorem kval_ok : kval (some v) σ = .ok (.val v) σ := (rfl)
@[simp] theorem ev_cst {d : D} : evA P (.cst d) σ = kval (toV d) σ := (rfl)
@[simp] theorem toV_non : toV .non = some .non := (rfl)
@[simp] theorem toV_bl {t : Bool} : toV (.bl t) = some (.bl t) := (rfl)
@[simp] theorem toV_int {t : Int} : toV (.int t) = some (.int t) := (rfl)
@[simp] theorem toV_str {t : Str} : toV (.str t) = some (.str t) := (rfl)
def kop (o : Op) (s t : Option V) (σ : Sv) : RV Ag := match s, t with
  | some v, some w => kval (binV o v w) σ
  | _, _ => .bad
theorem op2_eq : op2 o x y σ = kop o (rd σ x) (rd σ y) σ := by
  unfold op2 kop kval
  cases rd σ x <;> cases rd σ y <;> rfl
@[simp] theorem kop_ok : kop o (some v) (some w) σ = kval (binV o v w) σ := (rfl)
def kb1 (P : PgV) (o : Op) (b : IX.E) (m : RV Ag) : RV Ag := m.bind fun x σ1 => (after x b.quiet (evA P b) σ1).bind fun y σ2 => op2 o x y σ2
def kb2 (o : Op) (x : Ag) (m : RV Ag) : RV Ag := m.bind fun y σ2 => op2 o x y σ2
@[simp] theorem ev_bop : evA P (.bop o a b) σ = kb1 P o b (evA P a σ) := (rfl)
@[simp] theorem kb1_ok : kb1 P o b (.ok x σ1) = kb2 o x (after x b.quiet (evA P b) σ1) := (rfl)
@[simp] theorem kb2_ok : kb2 o x (.ok y σ2) = kop o (rd σ2 x) (rd σ2 y) σ2 := op2_eq
def kc1 (P : PgV) (o p : Op) (b c : IX.E) (m : RV Ag) : RV Ag := m.bind fun x σ1 => (after x b.quiet (evA P b) σ1).bind fun y σ2 => (op2 o x y σ2).bind fun z σ3 => match z with
    | .val (.bl true) => (after y c.quiet (evA P c) σ3).bind fun w σ4 => op2 p y w σ4
    | .val (.bl false) => .ok (.val (.bl false)) σ3
    | _ => .bad
def kc2 (P : PgV) (o p : Op) (c : IX.E) (x : Ag) (m : RV Ag) : RV Ag := m.bind fun y σ2 => (op2 o x y σ2).bind fun z σ3 => match z with
    | .val (.bl true) => (after y c.quiet (evA P c) σ3).bind fun w σ4 => op2 p y w σ4
    | .val (.bl false) => .ok (.val (.bl false)) σ3
    | _ => .bad
def kc3 (P : PgV) (p : Op) (c : IX.E) (y : Ag) (m : RV Ag) : RV Ag := m.bind fun z σ3 => match z with
    | .val (.bl true) => (after y c.quiet (evA P c) σ3).bind fun w σ4 => op2 p y w σ4
    | .val (.bl false) => .ok (.val (.bl false)) σ3
    | _ => .bad
@[simp] theorem ev_cmp2 : evA P (.cmp2 o p a b c) σ = kc1 P o p b c (evA P a σ) := (rfl)
@[simp] theorem kc1_ok : kc1 P o p b c (.ok x σ1) = kc2 P o p c x (after x b.quiet (evA P b) σ1) := (rfl)
@[simp] theorem kc2_ok : kc2 P o p c x (.ok y σ1) = kc3 P p c y (kop o (rd σ1 x) (rd σ1 y) σ1) := by rw [← op2_eq]; rfl
@[simp] theorem kc3_tt : kc3 P p c y (.ok (.val (.bl true)) σ) = kb2 p y (after y c.quiet (evA P c) σ) := (rfl)
@[simp] theorem kc3_ff : kc3 P p c y (.ok (.val (.bl false)) σ) = .ok (.val (.bl false)) σ := (rfl)
def kneg (m : RV Ag) : RV Ag := m.bind fun x σ1 => un1 (fun v => match v with
    | .int i => some (.int (-i))
    | _ => none) x σ1
def kneg2 (s : Option V) (σ : Sv) : RV Ag := match s with
  | some (.int i) => .ok (.val (.int (-i))) σ
  | _ => .bad
@[simp] theorem ev_neg : evA P (.neg a) σ = kneg (evA P a σ) := (rfl)
@[simp] theorem kneg_ok : kneg (.ok x σ) = kneg2 (rd σ x) σ := by
  show un1 _ x σ = _
  unfold un1 kneg2
  cases rd σ x with
  | none => rfl
  | some v => cases v <;> rfl
@[simp] theorem kneg2_ok {t : Int} : kneg2 (some (.int t)) σ = .ok (.val (.int (-t))) σ := (rfl)
/-- a truth -/
def ktr (s : Option V) : Option Bool := s.bind truthV
@[simp] theorem ktr_some : ktr (some v) = truthV v := (rfl)
@[simp] theorem tr_non : truthV .non = some false := (rfl)
@[simp] theorem tr_bl {t : Bool} : truthV (.bl t) = some t := (rfl)
@[simp] theorem tr_int {t : Int} : truthV (.int t) = some (t != 0) := (rfl)
@[simp] theorem tr_str {t : Str} : truthV (.str t) = some ((t.length : Int) != 0) := (rfl)
@[simp] theorem tr_tup : truthV (.tup xs) = some (!xs.isEmpty) := (rfl)
@[simp] theorem tr_lck : truthV (.lck xs) = some (!xs.isEmpty) := (rfl)
@[simp] theorem tr_lst : truthV (.lst q xs) = some (!xs.isEmpty) := (rfl)
@[simp] theorem tr_dic : truthV (.dic q xs ys) = some (!xs.isEmpty) := (rfl)
def knot (m : RV Ag) : RV Ag := m.bind fun x σ1 => un1 (fun v => (truthV v).map fun b => .bl (!b)) x σ1
def knot2 (s : Option Bool) (σ : Sv) : RV Ag := match s with
  | some b => .ok (.val (.bl (!b))) σ
  | none => .bad
@[simp] theorem ev_not : evA P (.not a) σ = knot (evA P a σ) := (rfl)
@[simp] theorem knot_ok : knot (.ok x σ) = knot2 (ktr (rd σ x)) σ := by
  show un1 _ x σ = _
  unfold un1 knot2 ktr
  cases rd σ x with
  | none => rfl
  | some v =>
    show (match (truthV v).map (fun b => V.bl (!b)) with
      | some r => RV.ok (Ag.val r) σ
      | none => .bad) = _
    cases q : truthV v with
    | none => simp [q]
    | some b => simp [q]
@[simp] theorem knot2_ok {t : Bool} : knot2 (some t) σ = .ok (.val (.bl (!t))) σ := (rfl)
def kand (P : PgV) (b : IX.E) (m : RV Ag) : RV Ag := m.bind fun x σ1 => match (rd σ1 x).bind truthV with
    | some true => evA P b σ1
    | some false => .ok x σ1
    | none => .bad
def kand2 (P : PgV) (b : IX.E) (x : Ag) (σ : Sv) (s : Option Bool) : RV Ag := match s with
    | some true => evA P b σ
    | some false => .ok x σ
    | none => .bad
@[simp] theorem ev_and : evA P (.and a b) σ = kand P b (evA P a σ) := (rfl)
@[simp] theorem kand_ok : kand P b (.ok x σ) = kand2 P b x σ (ktr (rd σ x)) := (rfl)
@[simp] theorem kand2_tt : kand2 P b x σ (some true) = evA P b σ := (rfl)
@[simp] theorem kand2_ff : kand2 P b x σ (some false) = .ok x σ := (rfl)
def kor (P : PgV) (b : IX.E) (m : RV Ag) : RV Ag := m.bind fun x σ1 => match (rd σ1 x).bind truthV with
    | some true => .ok x σ1
    | some false => evA P b σ1
    | none => .bad
def kor2 (P : PgV) (b : IX.E) (x : Ag) (σ : Sv) (s : Option Bool) : RV Ag := match s with
    | some true => .ok x σ
    | some false => evA P b σ
    | none => .bad
@[simp] theorem ev_or : evA P (.or a b) σ = kor P b (evA P a σ) := (rfl)
@[simp] theorem kor_ok : kor P b (.ok x σ) = kor2 P b x σ (ktr (rd σ x)) := (rfl)
@[simp] theorem kor2_tt : kor2 P b x σ (some true) = .ok x σ := (rfl)
@[simp] theorem kor2_ff : kor2 P b x σ (some false) = evA P b σ := (rfl)
def kite (P : PgV) (a b : IX.E) (m : RV Ag) : RV Ag := m.bind fun x σ1 => match (rd σ1 x).bind truthV with
    | some true => evA P a σ1
    | some false => evA P b σ1
    | none => .bad
def kite2 (P : PgV) (a b : IX.E) (σ : Sv) (s : Option Bool) : RV Ag := match s with
    | some true => evA P a σ
    | some false => evA P b σ
    | none => .bad
@[simp] theorem ev_ite : evA P (.ite c a b) σ = kite P a b (evA P c σ) := (rfl)
@[simp] theorem kite_ok : kite P a b (.ok x σ) = kite2 P a b σ (ktr (rd σ x)) := (rfl)
@[simp] theorem kite2_tt : kite2 P a b σ (some true) = evA P a σ := (rfl)
@[simp] theorem kite2_ff : kite2 P a b σ (some false) = evA P b σ := (rfl)
/-! items taken for good -/
def ko1 (P : PgV) (r : IX.E) (m : RV Ag) : RV (List V) := m.bind fun x σ1 => (own false x σ1).bind fun v σ2 => (evOs P r σ2).bind fun vs σ3 => .ok (v :: vs) σ3
def ko2 (P : PgV) (r : IX.E) (m : RV V) : RV (List V) := m.bind fun v σ2 => (evOs P r σ2).bind fun vs σ3 => .ok (v :: vs) σ3
def ko3 (v : V) (m : RV (List V)) : RV (List V) := m.bind fun vs σ3 => .ok (v :: vs) σ3
@[simp] theorem evos_nil : evOs P .nil σ = .ok [] σ := (rfl)
@[simp] theorem evos_cons : evOs P (.cons a b) σ = ko1 P b (evA P a σ) := (rfl)
@[simp] theorem ko1_ok : ko1 P b (.ok x σ) = ko2 P b (own false x σ) := (rfl)
@[simp] theorem ko2_ok : ko2 P b (.ok v σ) = ko3 v (evOs P b σ) := (rfl)
@[simp] theorem ko3_ok : ko3 v (.ok vs σ) = .ok (v :: vs) σ := (rfl)
def ktup (m : RV (List V)) : RV Ag := m.bind fun xs σ1 => if xs.length ≤ line then .ok (.val (.tup xs)) σ1 else .bad
def klst (m : RV (List V)) : RV Ag := m.bind fun xs σ1 => if xs.length ≤ line then .ok (.val (.lst true xs)) σ1 else .bad
@[simp] theorem ev_tup : evA P (.tup a) σ = ktup (evOs P a σ) := (rfl)
@[simp] theorem ev_lst : evA P (.lst a) σ = klst (evOs P a σ) := (rfl)
theorem ktup_ok (h : xs.length ≤ 16777216) : ktup (.ok xs σ) = .ok (.val (.tup xs)) σ := if_pos h
theorem klst_ok (h : xs.length ≤ 16777216) : klst (.ok xs σ) = .ok (.val (.lst true xs)) σ := if_pos h
@[simp] theorem ktup_s : ktup (.ok xs σ) = if xs.length ≤ 16777216 then .ok (.val (.tup xs)) σ else .bad := (rfl)
@[simp] theorem klst_s : klst (.ok xs σ) = if xs.length ≤ 16777216 then .ok (.val (.lst true xs)) σ else .bad := (rfl)
def kdic (m : RV (List V)) : RV Ag := m.bind fun xs σ1 => match pairsV xs with
    | some (ks, vs) => if ks.length ≤ 15 ∧ diffV ks = true then .ok (.val (.dic true ks vs)) σ1 else .bad
    | none => .bad
@[simp] theorem ev_dic : evA P (.dic a) σ = kdic (evOs P a σ) := (rfl)
theorem kdic_ok {as ks vs : List V} (h : pairsV as = some (ks, vs)) (h2 : ks.length ≤ 15) (h3 : diffV ks = true) : kdic (.ok as σ) = .ok (.val (.dic true ks vs)) σ := by
  show (match pairsV as with
    | some (ks, vs) => if ks.length ≤ 15 ∧ diffV ks = true then RV.ok (Ag.val (V.dic true ks vs)) σ else .bad
    | none => .bad) = _
  rw [h]
  exact if_pos ⟨h2, h3⟩
@[simp] theorem kdic_nil : kdic (.ok [] σ) = .ok (.val (.dic true [] [])) σ := (rfl)
/-! items -/
def kx1 (P : PgV) (b : IX.E) (m : RV Ag) : RV Ag := m.bind fun x σ1 => (after x b.quiet (evA P b) σ1).bind fun y σ2 => match rd σ2 x, rd σ2 y with
    | some v, some w => match idxV v w with
      | some (j, u) => .ok (pick x j u) σ2
      | none => .bad
    | _, _ => .bad
def kx2 (x : Ag) (m : RV Ag) : RV Ag := m.bind fun y σ2 => match rd σ2 x, rd σ2 y with
    | some v, some w => match idxV v w with
      | some (j, u) => .ok (pick x j u) σ2
      | none => .bad
    | _, _ => .bad
def kx3 (x : Ag) (σ : Sv) (s t : Option V) : RV Ag := match s, t with
    | some v, some w => match idxV v w with
      | some (j, u) => .ok (pick x j u) σ
      | none => .bad
    | _, _ => .bad
def kpk (x : Ag) (σ : Sv) (s : Option (Nat × V)) : RV Ag := match s with
  | some (j, u) => .ok (pick x j u) σ
  | none => .bad
@[simp] theorem ev_idx : evA P (.idx a b) σ = kx1 P b (evA P a σ) := (rfl)
@[simp] theorem kx1_ok : kx1 P b (.ok x σ) = kx2 x (after x b.quiet (evA P b) σ) := (rfl)
@[simp] theorem kx2_ok : kx2 x (.ok y σ) = kx3 x σ (rd σ x) (rd σ y) := (rfl)
@[simp] theorem kx3_ok : kx3 x σ (some v) (some w) = kpk x σ (idxV v w) := (rfl)
@[simp] theorem kpk_ok : kpk x σ (some (j, v)) = .ok (pick x j v) σ := (rfl)
def kfl (f : Str) (m : RV Ag) : RV Ag := m.bind fun x σ1 => match (rd σ1 x).bind fun v => fldV v f with
    | some (j, w) => .ok (pick x j w) σ1
    | none => .bad
def kfl2 (f : Str) (s : Option V) : Option (Nat × V) := s.bind fun v => fldV v f
@[simp] theorem ev_fld {f : Str} : evA P (.fld a f) σ = kfl f (evA P a σ) := (rfl)
@[simp] theorem kfl_ok {f : Str} : kfl f (.ok x σ) = kpk x σ (kfl2 f (rd σ x)) := (rfl)
@[simp] theorem kfl2_ok {f : Str} : kfl2 f (some v) = fldV v f := (rfl)
/-! slices -/
def kpt (m : RV Ag) : RV (Option Int) := m.bind fun x σ1 => match rd σ1 x with
    | some (.int i) => .ok (some i) σ1
    | _ => .bad
def kpt2 (σ : Sv) (s : Option V) : RV (Option Int) := match s with
    | some (.int i) => .ok (some i) σ
    | _ => .bad
@[simp] theorem pt_nil {m : RV Ag} : ptV .nil m σ = .ok none σ := (rfl)
theorem pt_some {m : RV Ag} (h : e.isNil = false) : ptV e m σ = kpt m := by
  unfold ptV
  split
  · cases h
  · rfl
@[simp] theorem pt_loc {m : RV Ag} : ptV (.loc i) m σ = kpt m := (rfl)
@[simp] theorem pt_bop {m : RV Ag} : ptV (.bop o a b) m σ = kpt m := (rfl)
@[simp] theorem pt_neg {m : RV Ag} : ptV (.neg a) m σ = kpt m := (rfl)
@[simp] theorem pt_cst {m : RV Ag} {d : D} : ptV (.cst d) m σ = kpt m := (rfl)
@[simp] theorem pt_call {m : RV Ag} : ptV (.call i a) m σ = kpt m := (rfl)
@[simp] theorem pt_bi {m : RV Ag} {f : Bi} : ptV (.bi f a) m σ = kpt m := (rfl)
@[simp] theorem pt_idx {m : RV Ag} : ptV (.idx a b) m σ = kpt m := (rfl)
@[simp] theorem pt_fld {m : RV Ag} {f : Str} : ptV (.fld a f) m σ = kpt m := (rfl)
@[simp] theorem kpt_ok : kpt (.ok x σ) = kpt2 σ (rd σ x) := (rfl)
@[simp] theorem kpt2_ok {t : Int} : kpt2 σ (some (.int t)) = .ok (some t) σ := (rfl)
def kpf (P : PgV) (lo : IX.E) (σ : Sv) : RV (Option Int) := ptV lo (evA P lo σ) σ
@[simp] theorem kpf_eq {lo : IX.E} : kpf P lo σ = ptV lo (evA P lo σ) σ := (rfl)
def ks1 (P : PgV) (lo hi : IX.E) (m : RV Ag) : RV Ag := m.bind fun x σ1 => (after x lo.quiet (fun s => ptV lo (evA P lo s) s) σ1).bind fun l σ2 => (after x hi.quiet (fun s => ptV hi (evA P hi s) s) σ2).bind fun u σ3 =>
    un1 (fun v => slcV v l u) x σ3
def ks2 (P : PgV) (hi : IX.E) (x : Ag) (m : RV (Option Int)) : RV Ag := m.bind fun l σ2 => (after x hi.quiet (fun s => ptV hi (evA P hi s) s) σ2).bind fun u σ3 =>
    un1 (fun v => slcV v l u) x σ3
def ks3 (x : Ag) (l : Option Int) (m : RV (Option Int)) : RV Ag := m.bind fun u σ3 => un1 (fun v => slcV v l u) x σ3
def ks4 (l u : Option Int) (s : Option V) : Option V := s.bind fun v => slcV v l u
@[simp] theorem ev_slc {lo hi : IX.E} : evA P (.slc a lo hi) σ = ks1 P lo hi (evA P a σ) := (rfl)
@[simp] theorem ks1_ok {lo hi : IX.E} : ks1 P lo hi (.ok x σ) = ks2 P hi x (after x lo.quiet (kpf P lo) σ) := (rfl)
@[simp] theorem ks2_ok {hi : IX.E} {l : Option Int} : ks2 P hi x (.ok l σ) = ks3 x l (after x hi.quiet (kpf P hi) σ) := (rfl)
@[simp] theorem ks3_ok {l u : Option Int} : ks3 x l (.ok u σ) = kval (ks4 l u (rd σ x)) σ := by
  show un1 _ x σ = _
  unfold un1 kval ks4
  cases (rd σ x).bind fun v => slcV v l u <;> rfl
@[simp] theorem ks4_ok {l u : Option Int} : ks4 l u (some v) = slcV v l u := (rfl)
def krv (m : RV Ag) : RV Ag := m.bind fun x σ1 => un1 revV x σ1
def krv2 (s : Option V) : Option V := s.bind revV
@[simp] theorem ev_rev : evA P (.rev a) σ = krv (evA P a σ) := (rfl)
@[simp] theorem krv_ok : krv (.ok x σ) = kval (krv2 (rd σ x)) σ := by
  show un1 _ x σ = _
  unfold un1 kval krv2
  cases (rd σ x).bind revV <;> rfl
@[simp] theorem krv2_ok : krv2 (some v) = revV v := (rfl)
def kis (ts : List Ty) (m : RV Ag) : RV Ag := m.bind fun x σ1 => un1 (fun v => (isAnyV v ts).map .bl) x σ1
def kbl (s : Option Bool) : Option V := s.map .bl
@[simp] theorem kbl_some {t : Bool} : kbl (some t) = some (.bl t) := (rfl)
def kis2 (ts : List Ty) (s : Option V) : Option V := s.bind fun v => (isAnyV v ts).map .bl
@[simp] theorem ev_isi {ts : List Ty} : evA P (.isi a ts) σ = kis ts (evA P a σ) := (rfl)
@[simp] theorem kis_ok {ts : List Ty} : kis ts (.ok x σ) = kval (kis2 ts (rd σ x)) σ := by
  show un1 _ x σ = _
  unfold un1 kval kis2
  cases (rd σ x).bind fun v => (isAnyV v ts).map V.bl <;> rfl
@[simp] theorem kis2_ok {ts : List Ty} : kis2 ts (some v) = kbl (isAnyV v ts) := (rfl)
end
end VX
end

section
set_option Elab.async false
set_option linter.all false
set_option maxRecDepth 100000
set_option maxHeartbeats 4000000
/-! VK2: calls, methods, statements; operations by their values. -/
namespace VX
open PySem IX
section
variable {α β : Type} {P : PgV} {o p : Op} {a b c e : IX.E} {σ σ1 σ2 σ' : Sv} {x y z : Ag} {v w u : V} {vs ws xs ys : List V} {as : List Ag} {i j k n f : Nat} {r : Option Int} {q : Bool}
/-! arguments -/
def ka1 (P : PgV) (r : IX.E) (m : RV Ag) : RV (List Ag) := m.bind fun x σ1 => (after x r.quiet (evAs P r) σ1).bind fun xs σ2 => .ok (x :: xs) σ2
def ka2 (x : Ag) (m : RV (List Ag)) : RV (List Ag) := m.bind fun xs σ2 => .ok (x :: xs) σ2
@[simp] theorem evs_nil : evAs P .nil σ = .ok [] σ := (rfl)
@[simp] theorem evs_cons : evAs P (.cons a b) σ = ka1 P b (evA P a σ) := (rfl)
@[simp] theorem ka1_ok : ka1 P b (.ok x σ) = ka2 x (after x b.quiet (evAs P b) σ) := (rfl)
@[simp] theorem ka2_ok : ka2 x (.ok as σ) = .ok (x :: as) σ := (rfl)
abbrev Bk := List (Option (Nat × List Nat × V))
variable {is : Bk} {fs : List (Option V)} {pt : List Nat}
def ktv (v : V) (s : Option (List V × Sv × Bk)) : Option (List V × Sv × Bk) := s.map fun q => (v :: q.1, q.2.1, none :: q.2.2)
def ktw (v : V) (i : Nat) (p : List Nat) (v0 : V) (s : Option (List V × Sv × Bk)) : Option (List V × Sv × Bk) := s.map fun q => (v :: q.1, q.2.1, some (i, p, v0) :: q.2.2)
def ktp (i : Nat) (p : List Nat) (r : List Ag) (σ : Sv) (s t : Option V) : Option (List V × Sv × Bk) := match s, t with
    | some v, some v0 => if v.fz = true then (takeA r σ).map fun q => (v :: q.1, q.2.1, none :: q.2.2)
      else (takeA r (σ.set i none)).map fun q => (v :: q.1, q.2.1, some (i, p, v0) :: q.2.2)
    | _, _ => none
@[simp] theorem take_nil : takeA [] σ = some ([], σ, []) := (rfl)
@[simp] theorem take_val : takeA (.val v :: as) σ = ktv v (takeA as σ) := (rfl)
@[simp] theorem take_plc : takeA (.plc i pt :: as) σ = ktp i pt as σ (rd σ (.plc i pt)) (slot σ i) := (rfl)
@[simp] theorem ktv_ok : ktv v (some (vs, σ, is)) = some (v :: vs, σ, none :: is) := (rfl)
@[simp] theorem ktw_ok : ktw v i pt w (some (vs, σ, is)) = some (v :: vs, σ, some (i, pt, w) :: is) := (rfl)
theorem ktp_fz (h : v.fz = true) : ktp i pt as σ (some v) (some w) = ktv v (takeA as σ) := if_pos h
theorem ktp_ow (h : v.fz = false) : ktp i pt as σ (some v) (some w) = ktw v i pt w (takeA as (σ.set i none)) := if_neg (by rw [h]; exact Bool.false_ne_true)
@[simp] theorem ktp_s : ktp i pt as σ (some v) (some w) = if v.fz = true then ktv v (takeA as σ) else ktw v i pt w (takeA as (σ.set i none)) := (rfl)
@[simp] theorem give_nil : giveA [] fs σ = some σ := by cases fs <;> rfl
@[simp] theorem give_none {t : Option V} : giveA (none :: is) (t :: fs) σ = giveA is fs σ := (rfl)
@[simp] theorem give_some : giveA (some (i, pt, v) :: is) (some w :: fs) σ = giveA is fs (σ.set i (some (setP v pt w))) := (rfl)
@[simp] theorem give_gone : giveA (some (i, [], v) :: is) (none :: fs) σ = giveA is fs σ := (rfl)
def kgv (v : V) (s : Option Sv) : RV Ag := match s with
    | some σ' => .ok (.val v) σ'
    | none => .bad
def kgx (c : Nat) (r : Option Int) (s : Option Sv) : RV Ag := match s with
    | some σ' => .ex c r σ'
    | none => .bad
@[simp] theorem gave_ok' : gaveA is σ (.ok v fs) = kgv v (giveA is fs σ) := (rfl)
@[simp] theorem gave_ex : gaveA is σ (.ex n r fs) = kgx n r (giveA is fs σ) := (rfl)
@[simp] theorem kgv_ok : kgv v (some σ) = .ok (.val v) σ := (rfl)
@[simp] theorem kgx_ok : kgx n r (some σ) = .ex n r σ := (rfl)
def kta (P : PgV) (f : Nat) (s : Option (List V × Sv × Bk)) : RV Ag := match s with
  | some (vs, σ1, is) => gaveA is σ1 (P.call f vs)
  | none => .bad
@[simp] theorem callA_eq : callA P f as σ = kta P f (takeA as σ) := (rfl)
@[simp] theorem kta_ok : kta P f (some (vs, σ, is)) = gaveA is σ (P.call f vs) := (rfl)
def kcl (P : PgV) (f : Nat) (m : RV (List Ag)) : RV Ag := m.bind fun as σ1 => callA P f as σ1
@[simp] theorem ev_call : evA P (.call f a) σ = kcl P f (evAs P a σ) := (rfl)
@[simp] theorem kcl_ok : kcl P f (.ok as σ) = kta P f (takeA as σ) := (rfl)
/-! built-ins -/
def krs1 (v : V) (s : Option (List V)) : Option (List V) := s.map fun vs => v :: vs
def krs2 (s : Option V) (t : Option (List V)) : Option (List V) := match s, t with
    | some v, some vs => some (v :: vs)
    | _, _ => none
@[simp] theorem rds_nil : rds σ [] = some [] := (rfl)
@[simp] theorem rds_cons : rds σ (x :: as) = krs2 (rd σ x) (rds σ as) := (rfl)
@[simp] theorem krs2_ok : krs2 (some v) (some vs) = some (v :: vs) := (rfl)
def kbi (f : Bi) (m : RV (List Ag)) : RV Ag := m.bind fun as σ1 => match rds σ1 as with
    | some vs => match biV f vs with
      | some r => .ok (.val r) σ1
      | none => .bad
    | none => .bad
def kbi2 (f : Bi) (σ : Sv) (s : Option (List V)) : RV Ag := match s with
    | some vs => match biV f vs with
      | some r => .ok (.val r) σ
      | none => .bad
    | none => .bad
@[simp] theorem ev_bi {f : Bi} : evA P (.bi f a) σ = kbi f (evAs P a σ) := (rfl)
@[simp] theorem kbi_ok {f : Bi} : kbi f (.ok as σ) = kbi2 f σ (rds σ as) := (rfl)
@[simp] theorem kbi2_ok {f : Bi} : kbi2 f σ (some vs) = kval (biV f vs) σ := by
  show (match biV f vs with
      | some r => RV.ok (Ag.val r) σ
      | none => .bad) = _
  cases biV f vs <;> rfl
/-! methods -/
def kmg (P : PgV) (m : Me) (es : IX.E) (s : Sv) : RV (List V) := if m.stores = true then evOs P es s else (evAs P es s).bind fun as s1 => match rds s1 as with
      | some vs => .ok vs s1
      | none => .bad
def kmr (m : RV (List Ag)) : RV (List V) := m.bind fun as s1 => match rds s1 as with
      | some vs => .ok vs s1
      | none => .bad
def kmr2 (σ : Sv) (s : Option (List V)) : RV (List V) := match s with
      | some vs => .ok vs σ
      | none => .bad
@[simp] theorem kmg_app : kmg P .append b σ = evOs P b σ := (rfl)
@[simp] theorem kmg_ins : kmg P .insert b σ = evOs P b σ := (rfl)
@[simp] theorem kmg_split : kmg P .split b σ = kmr (evAs P b σ) := (rfl)
@[simp] theorem kmg_join : kmg P .join b σ = kmr (evAs P b σ) := (rfl)
@[simp] theorem kmg_upper : kmg P .upper b σ = kmr (evAs P b σ) := (rfl)
@[simp] theorem kmg_get : kmg P .get b σ = kmr (evAs P b σ) := (rfl)
@[simp] theorem kmg_clear : kmg P .clear b σ = kmr (evAs P b σ) := (rfl)
@[simp] theorem kmr_ok : kmr (.ok as σ) = kmr2 σ (rds σ as) := (rfl)
@[simp] theorem kmr2_ok : kmr2 σ (some vs) = .ok vs σ := (rfl)
def kme1 (P : PgV) (m : Me) (es : IX.E) (t : RV Ag) : RV Ag := t.bind fun x σ1 => if meTyV m (rd σ1 x) = true then (after x es.quiet (fun s => if m.stores = true then evOs P es s else (evAs P es s).bind fun as s1 => match rds s1 as with
      | some vs => .ok vs s1
      | none => .bad) σ1).bind fun ws σ2 => meEnd m x ws σ2
    else .bad
def kme2 (P : PgV) (m : Me) (es : IX.E) (x : Ag) (σ : Sv) (t : Bool) : RV Ag := if t = true then (after x es.quiet (kmg P m es) σ).bind fun ws σ2 => meEnd m x ws σ2 else .bad
def kme3 (m : Me) (x : Ag) (t : RV (List V)) : RV Ag := t.bind fun ws σ2 => meEnd m x ws σ2
@[simp] theorem ev_me {m : Me} : evA P (.me m a b) σ = kme1 P m b (evA P a σ) := (rfl)
@[simp] theorem kme1_ok {m : Me} : kme1 P m b (.ok x σ) = kme2 P m b x σ (meTyV m (rd σ x)) := (rfl)
@[simp] theorem kme2_ok {m : Me} : kme2 P m b x σ true = kme3 m x (after x b.quiet (kmg P m b) σ) := (rfl)
def kmn1 (m : Me) (ws : List V) (x : Ag) (σ : Sv) (s : Option V) : RV Ag := match s with
  | some v => match meV m v ws with
    | some (r, none) => .ok (.val r) σ
    | some (r, some v') => match x with
      | .val _ => .ok (.val r) σ
      | .plc i p => match setAt σ i p v' with
        | some σ3 => .ok (.val r) σ3
        | none => .bad
    | none => .bad
  | none => .bad
def kmn2 (x : Ag) (σ : Sv) (s : Option (V × Option V)) : RV Ag := match s with
    | some (r, none) => .ok (.val r) σ
    | some (r, some v') => match x with
      | .val _ => .ok (.val r) σ
      | .plc i p => match setAt σ i p v' with
        | some σ3 => .ok (.val r) σ3
        | none => .bad
    | none => .bad
def kmn3 (r : V) (s : Option Sv) : RV Ag := match s with
        | some σ3 => .ok (.val r) σ3
        | none => .bad
@[simp] theorem kme3_ok {m : Me} : kme3 m x (.ok ws σ) = kmn1 m ws x σ (rd σ x) := (rfl)
@[simp] theorem kmn1_ok {m : Me} : kmn1 m ws x σ (some v) = kmn2 x σ (meV m v ws) := (rfl)
@[simp] theorem kmn2_none : kmn2 x σ (some (v, none)) = .ok (.val v) σ := (rfl)
@[simp] theorem kmn2_val : kmn2 (.val u) σ (some (v, some w)) = .ok (.val v) σ := (rfl)
@[simp] theorem kmn2_plc : kmn2 (.plc i pt) σ (some (v, some w)) = kmn3 v (setAt σ i pt w) := (rfl)
@[simp] theorem kmn3_ok : kmn3 v (some σ) = .ok (.val v) σ := (rfl)
@[simp] theorem mty_split {t : Str} : meTyV .split (some (.str t)) = true := (rfl)
@[simp] theorem mty_join {t : Str} : meTyV .join (some (.str t)) = true := (rfl)
@[simp] theorem mty_upper {t : Str} : meTyV .upper (some (.str t)) = true := (rfl)
@[simp] theorem mty_append : meTyV .append (some (.lst q xs)) = true := (rfl)
@[simp] theorem mty_insert : meTyV .insert (some (.lst q xs)) = true := (rfl)
@[simp] theorem mty_get : meTyV .get (some (.dic q xs ys)) = true := (rfl)
@[simp] theorem mty_clear : meTyV .clear (some (.dic q xs ys)) = true := (rfl)
theorem me_append (h : xs.length < 16777216) : meV .append (.lst true xs) [v] = some (.non, some (.lst true (xs ++ [v]))) := if_pos h
theorem me_insert {t : Int} (h : xs.length < 16777216 ∧ 0 ≤ t ∧ t < 2 ^ 63) : meV .insert (.lst true xs) [.int t, v] = some (.non, some (.lst true (xs.take t.toNat ++ [v] ++ xs.drop t.toNat))) := if_pos h
@[simp] theorem me_clear : meV .clear (.dic true xs ys) [] = some (.non, some (.dic true [] [])) := (rfl)
/-! own methods, making -/
def kmt (P : PgV) (m : Nat) (es : IX.E) (t : RV Ag) : RV Ag := t.bind fun x σ1 => match rd σ1 x with
    | some (.ins _ c _ _) => match P.meth c m with
      | some f => (after x es.quiet (evAs P es) σ1).bind fun as σ2 => callA P f (x :: as) σ2
      | none => .bad
    | _ => .bad
def kmt2 (P : PgV) (m : Nat) (es : IX.E) (x : Ag) (σ : Sv) (s : Option V) : RV Ag := match s with
    | some (.ins _ c _ _) => match P.meth c m with
      | some f => (after x es.quiet (evAs P es) σ).bind fun as σ2 => callA P f (x :: as) σ2
      | none => .bad
    | _ => .bad
def kmt3 (P : PgV) (es : IX.E) (x : Ag) (σ : Sv) (s : Option Nat) : RV Ag := match s with
      | some f => (after x es.quiet (evAs P es) σ).bind fun as σ2 => callA P f (x :: as) σ2
      | none => .bad
def kmt4 (P : PgV) (f : Nat) (x : Ag) (m : RV (List Ag)) : RV Ag := m.bind fun as σ2 => callA P f (x :: as) σ2
@[simp] theorem ev_meth {m : Nat} : evA P (.meth m a b) σ = kmt P m b (evA P a σ) := (rfl)
@[simp] theorem kmt_ok {m : Nat} : kmt P m b (.ok x σ) = kmt2 P m b x σ (rd σ x) := (rfl)
@[simp] theorem kmt2_ok {m c : Nat} {ns : List Str} : kmt2 P m b x σ (some (.ins q c ns vs)) = kmt3 P b x σ (P.meth c m) := (rfl)
@[simp] theorem kmt3_ok : kmt3 P b x σ (some f) = kmt4 P f x (after x b.quiet (evAs P b) σ) := (rfl)
@[simp] theorem kmt4_ok : kmt4 P f x (.ok as σ) = kta P f (takeA (x :: as) σ) := (rfl)
def kmk (P : PgV) (c : Nat) (m : RV (List Ag)) : RV Ag := m.bind fun as σ1 => match P.init c with
    | some f => mkA P c f as σ1
    | none => .bad
def kmk2 (P : PgV) (c : Nat) (as : List Ag) (σ : Sv) (s : Option Nat) : RV Ag := match s with
    | some f => mkA P c f as σ
    | none => .bad
def kmk3 (P : PgV) (c f : Nat) (s : Option (List V × Sv × Bk)) : RV Ag := match s with
  | some (vs, σ1, is) => gaveA is σ1 (madeV (P.frz c) (P.call f (.ins true c [] [] :: vs)))
  | none => .bad
@[simp] theorem ev_mk {c : Nat} : evA P (.mk c a) σ = kmk P c (evAs P a σ) := (rfl)
@[simp] theorem kmk_ok {c : Nat} : kmk P c (.ok as σ) = kmk2 P c as σ (P.init c) := (rfl)
@[simp] theorem kmk2_ok {c : Nat} : kmk2 P c as σ (some f) = kmk3 P c f (takeA as σ) := (rfl)
@[simp] theorem kmk3_ok {c : Nat} : kmk3 P c f (some (vs, σ, is)) = gaveA is σ (madeV (P.frz c) (P.call f (.ins true c [] [] :: vs))) := (rfl)
@[simp] theorem made_ok : madeV q (.ok .non (some v :: fs)) = .ok (if q = true then v.freeze else v) fs := (rfl)
@[simp] theorem made_ex {t : Option V} : madeV q (.ex n r (t :: fs)) = .ex n r fs := (rfl)
/-! statements -/
variable {s t : IX.S} {fl : Fv}
def kseq (P : PgV) (b : IX.S) (m : RV Fv) : RV Fv := m.bind fun fl σ1 => match fl with
    | .nx => exV P b σ1
    | fl => .ok fl σ1
@[simp] theorem ex_skip : exV P .skip σ = .ok .nx σ := (rfl)
@[simp] theorem ex_seq : exV P (.seq s t) σ = kseq P t (exV P s σ) := (rfl)
@[simp] theorem kseq_nx : kseq P t (.ok .nx σ) = exV P t σ := (rfl)
@[simp] theorem kseq_rt : kseq P t (.ok (.rt v) σ) = .ok (.rt v) σ := (rfl)
@[simp] theorem kseq_bk : kseq P t (.ok .bk σ) = .ok .bk σ := (rfl)
@[simp] theorem kseq_ct : kseq P t (.ok .ct σ) = .ok .ct σ := (rfl)
@[simp] theorem kseq_ex : kseq P t (.ex n r σ) = .ex n r σ := (rfl)
def kset (i : Nat) (m : RV Ag) : RV Fv := m.bind fun x σ1 => (own true x σ1).bind fun v σ2 => .ok .nx (σ2.set i (some v))
def kset2 (i : Nat) (m : RV V) : RV Fv := m.bind fun v σ2 => .ok .nx (σ2.set i (some v))
@[simp] theorem ex_set : exV P (.set i e) σ = kset i (evA P e σ) := (rfl)
@[simp] theorem kset_ok : kset i (.ok x σ) = kset2 i (own true x σ) := (rfl)
@[simp] theorem kset_ex : kset i (.ex n r σ) = .ex n r σ := (rfl)
@[simp] theorem kset2_ok : kset2 i (.ok v σ) = .ok .nx (σ.set i (some v)) := (rfl)
def kun (is : List Nat) (m : RV Ag) : RV Fv := m.bind fun x σ1 => (own false x σ1).bind fun v σ2 => match targetV is true v σ2 with
    | some σ3 => .ok .nx σ3
    | none => .bad
def kun2 (is : List Nat) (m : RV V) : RV Fv := m.bind fun v σ2 => match targetV is true v σ2 with
    | some σ3 => .ok .nx σ3
    | none => .bad
def kun3 (s : Option Sv) : RV Fv := match s with
    | some σ3 => .ok .nx σ3
    | none => .bad
variable {gs : List Nat}
@[simp] theorem ex_unp : exV P (.unp gs e) σ = kun gs (evA P e σ) := (rfl)
@[simp] theorem kun_ok : kun gs (.ok x σ) = kun2 gs (own false x σ) := (rfl)
@[simp] theorem kun_ex : kun gs (.ex n r σ) = .ex n r σ := (rfl)
@[simp] theorem kun2_ok : kun2 gs (.ok v σ) = kun3 (targetV gs true v σ) := (rfl)
@[simp] theorem kun3_ok : kun3 (some σ) = .ok .nx σ := (rfl)
@[simp] theorem target_tup : targetV gs true (.tup xs) σ = setAllV gs xs σ := (rfl)
@[simp] theorem target_lst : targetV gs true (.lst q xs) σ = setAllV gs xs σ := (rfl)
@[simp] theorem target_one : targetV [i] false v σ = some (σ.set i (some v)) := (rfl)
@[simp] theorem setAll_nil : setAllV [] [] σ = some σ := (rfl)
@[simp] theorem setAll_cons : setAllV (i :: gs) (v :: vs) σ = setAllV gs vs (σ.set i (some v)) := (rfl)
def kexp (m : RV Ag) : RV Fv := m.bind fun _ σ1 => .ok .nx σ1
@[simp] theorem ex_exp : exV P (.exp e) σ = kexp (evA P e σ) := (rfl)
@[simp] theorem kexp_ok : kexp (.ok x σ) = .ok .nx σ := (rfl)
@[simp] theorem kexp_ex : kexp (.ex n r σ) = .ex n r σ := (rfl)
def kret (m : RV Ag) : RV Fv := m.bind fun x σ1 => (own true x σ1).bind fun v σ2 => .ok (.rt v) σ2
def kret2 (m : RV V) : RV Fv := m.bind fun v σ2 => .ok (.rt v) σ2
@[simp] theorem ex_ret : exV P (.ret e) σ = kret (evA P e σ) := (rfl)
@[simp] theorem kret_ok : kret (.ok x σ) = kret2 (own true x σ) := (rfl)
@[simp] theorem kret_ex : kret (.ex n r σ) = .ex n r σ := (rfl)
@[simp] theorem kret2_ok : kret2 (.ok v σ) = .ok (.rt v) σ := (rfl)
def kif (P : PgV) (s t : IX.S) (m : RV Ag) : RV Fv := m.bind fun x σ1 => match (rd σ1 x).bind truthV with
    | some true => exV P s σ1
    | some false => exV P t σ1
    | none => .bad
def kif2 (P : PgV) (s t : IX.S) (σ : Sv) (b : Option Bool) : RV Fv := match b with
    | some true => exV P s σ
    | some false => exV P t σ
    | none => .bad
@[simp] theorem ex_ite : exV P (.ite e s t) σ = kif P s t (evA P e σ) := (rfl)
@[simp] theorem kif_ok : kif P s t (.ok x σ) = kif2 P s t σ (ktr (rd σ x)) := (rfl)
@[simp] theorem kif2_tt : kif2 P s t σ (some true) = exV P s σ := (rfl)
@[simp] theorem kif2_ff : kif2 P s t σ (some false) = exV P t σ := (rfl)
@[simp] theorem ex_brk : exV P .brk σ = .ok .bk σ := (rfl)
@[simp] theorem ex_cnt : exV P .cnt σ = .ok .ct σ := (rfl)
/-! stores -/
def kst1 (P : PgV) (a i : IX.E) (m : RV Ag) : RV Fv := m.bind fun x0 σ0 => (own false x0 σ0).bind fun v σ1 => (evA P a σ1).bind fun x σ2 => (after x i.quiet (evA P i) σ2).bind fun y σ3 => match rd σ3 x, rd σ3 y with
    | some w, some k => stoEnd x (setiV w k v) σ3
    | _, _ => .bad
def kst2 (P : PgV) (a i : IX.E) (m : RV V) : RV Fv := m.bind fun v σ1 => (evA P a σ1).bind fun x σ2 => (after x i.quiet (evA P i) σ2).bind fun y σ3 => match rd σ3 x, rd σ3 y with
    | some w, some k => stoEnd x (setiV w k v) σ3
    | _, _ => .bad
def kst3 (P : PgV) (i : IX.E) (v : V) (m : RV Ag) : RV Fv := m.bind fun x σ2 => (after x i.quiet (evA P i) σ2).bind fun y σ3 => match rd σ3 x, rd σ3 y with
    | some w, some k => stoEnd x (setiV w k v) σ3
    | _, _ => .bad
def kst4 (v : V) (x : Ag) (m : RV Ag) : RV Fv := m.bind fun y σ3 => match rd σ3 x, rd σ3 y with
    | some w, some k => stoEnd x (setiV w k v) σ3
    | _, _ => .bad
def kst5 (v : V) (x : Ag) (σ : Sv) (s t : Option V) : RV Fv := match s, t with
    | some w, some k => stoEnd x (setiV w k v) σ
    | _, _ => .bad
@[simp] theorem ex_seti : exV P (.seti a b e) σ = kst1 P a b (evA P e σ) := (rfl)
@[simp] theorem kst1_ok : kst1 P a b (.ok x σ) = kst2 P a b (own false x σ) := (rfl)
@[simp] theorem kst2_ok : kst2 P a b (.ok v σ) = kst3 P b v (evA P a σ) := (rfl)
@[simp] theorem kst3_ok : kst3 P b v (.ok x σ) = kst4 v x (after x b.quiet (evA P b) σ) := (rfl)
@[simp] theorem kst4_ok : kst4 v x (.ok y σ) = kst5 v x σ (rd σ x) (rd σ y) := (rfl)
@[simp] theorem kst5_ok : kst5 v x σ (some w) (some u) = stoEnd x (setiV w u v) σ := (rfl)
@[simp] theorem sto_val : stoEnd (.val u) (some w) σ = .ok .nx σ := (rfl)
@[simp] theorem sto_plc : stoEnd (.plc i pt) (some w) σ = kun3 (setAt σ i pt w) := (rfl)
def ksf1 (P : PgV) (a : IX.E) (f : Str) (m : RV Ag) : RV Fv := m.bind fun x0 σ0 => (own true x0 σ0).bind fun v σ1 => (evA P a σ1).bind fun x σ2 => match rd σ2 x with
    | some w => stoEnd x (setfV w f v) σ2
    | none => .bad
def ksf2 (P : PgV) (a : IX.E) (f : Str) (m : RV V) : RV Fv := m.bind fun v σ1 => (evA P a σ1).bind fun x σ2 => match rd σ2 x with
    | some w => stoEnd x (setfV w f v) σ2
    | none => .bad
def ksf3 (f : Str) (v : V) (m : RV Ag) : RV Fv := m.bind fun x σ2 => match rd σ2 x with
    | some w => stoEnd x (setfV w f v) σ2
    | none => .bad
def ksf4 (f : Str) (v : V) (x : Ag) (σ : Sv) (s : Option V) : RV Fv := match s with
    | some w => stoEnd x (setfV w f v) σ
    | none => .bad
variable {fd : Str}
@[simp] theorem ex_setf : exV P (.setf a fd e) σ = ksf1 P a fd (evA P e σ) := (rfl)
@[simp] theorem ksf1_ok : ksf1 P a fd (.ok x σ) = ksf2 P a fd (own true x σ) := (rfl)
@[simp] theorem ksf2_ok : ksf2 P a fd (.ok v σ) = ksf3 fd v (evA P a σ) := (rfl)
@[simp] theorem ksf3_ok : ksf3 fd v (.ok x σ) = ksf4 fd v x σ (rd σ x) := (rfl)
@[simp] theorem ksf4_ok : ksf4 fd v x σ (some w) = stoEnd x (setfV w fd v) σ := (rfl)
/-! loops -/
theorem ex_loop {g : List Nat} {tp : Bool} {it : IX.E} {s : IX.S} {m : RV Fv} (e1 : evIt P it (evA P it) σ = .ok xs σ1) (e2 : loopV (fun x s' => match targetV g tp x s' with
      | some s2 => exV P s s2
      | none => .bad) xs σ1 = m) : exV P (.loop g tp it s) σ = m := by
  show (evIt P it (evA P it) σ).bind _ = _
  rw [e1]; exact e2
def lpV (P : PgV) (g : List Nat) (tp : Bool) (s : IX.S) (x : V) (s' : Sv) : RV Fv := match targetV g tp x s' with
      | some s2 => exV P s s2
      | none => .bad
def klp (P : PgV) (g : List Nat) (tp : Bool) (s : IX.S) (m : RV (List V)) : RV Fv := m.bind fun xs σ1 => loopV (lpV P g tp s) xs σ1
@[simp] theorem ex_loop' {g : List Nat} {tp : Bool} {it : IX.E} {s : IX.S} : exV P (.loop g tp it s) σ = klp P g tp s (evIt P it (evA P it) σ) := (rfl)
@[simp] theorem klp_ok {g : List Nat} {tp : Bool} {s : IX.S} : klp P g tp s (.ok xs σ) = loopV (lpV P g tp s) xs σ := (rfl)
def kob (P : PgV) (s : IX.S) (t : Option Sv) : RV Fv := match t with
      | some s2 => exV P s s2
      | none => .bad
@[simp] theorem lpV_eq {g : List Nat} {tp : Bool} {s : IX.S} : lpV P g tp s v σ = kob P s (targetV g tp v σ) := (rfl)
@[simp] theorem kob_ok {s : IX.S} : kob P s (some σ) = exV P s σ := (rfl)
def klo (f : V → Sv → RV Fv) (r : List V) (m : RV Fv) : RV Fv := m.bind fun fl σ1 => match fl with
      | .nx => loopV f r σ1
      | .ct => loopV f r σ1
      | .bk => .ok .nx σ1
      | .rt d => .ok (.rt d) σ1
variable {fn : V → Sv → RV Fv}
@[simp] theorem loop_nil : loopV fn [] σ = .ok .nx σ := (rfl)
theorem loop_cons : loopV fn (v :: vs) σ = klo fn vs (fn v σ) := (rfl)
@[simp] theorem klo_nx : klo fn vs (.ok .nx σ) = loopV fn vs σ := (rfl)
@[simp] theorem klo_ct : klo fn vs (.ok .ct σ) = loopV fn vs σ := (rfl)
@[simp] theorem klo_bk : klo fn vs (.ok .bk σ) = .ok .nx σ := (rfl)
@[simp] theorem klo_rt : klo fn vs (.ok (.rt v) σ) = .ok (.rt v) σ := (rfl)
@[simp] theorem klo_ex : klo fn vs (.ex n r σ) = .ex n r σ := (rfl)
/-- a loop by its invariant: every turn goes on -/
theorem loop_inv {I : Nat → Sv → Prop} : ∀ {xs : List V} {σ : Sv} (k : Nat), (∀ (j : Nat) x σ, xs[j]? = some x → I (k + j) σ → ∃ σ', fn x σ = .ok .nx σ' ∧ I (k + j + 1) σ') → I k σ → ∃ σ', loopV fn xs σ = .ok .nx σ' ∧ I (k + xs.length) σ'
  | [], σ, k, _, i => ⟨σ, rfl, i⟩
  | x :: r, σ, k, st, i => by
    obtain ⟨σ1, e1, i1⟩ := st 0 x σ rfl i
    obtain ⟨σ2, e2, i2⟩ := loop_inv (k + 1) (fun j y σ hy iy => by
      have := st (j + 1) y σ (by simpa using hy) (by rw [show k + (j + 1) = k + 1 + j by omega]; exact iy)
      rw [show k + (j + 1) + 1 = k + 1 + j + 1 by omega] at this
      exact this) i1
    exact ⟨σ2, by rw [loop_cons, e1, klo_nx, e2], by rw [List.length_cons, show k + (r.length + 1) = k + 1 + r.length by omega]; exact i2⟩
/-! what is walked -/
theorem it_val (hp : ∀ m σ, evIt P e m σ = (m σ).bind fun x σ1 => (own false x σ1).bind fun v σ2 => match walkV v with
    | some xs => if V.fzL xs = true then .ok xs σ2 else .bad
    | none => .bad) : evIt P e (evA P e) σ = (evA P e σ).bind fun x σ1 => (own false x σ1).bind fun v σ2 => match walkV v with
    | some xs => if V.fzL xs = true then .ok xs σ2 else .bad
    | none => .bad := hp _ _
def kit (m : RV Ag) : RV (List V) := m.bind fun x σ1 => (own false x σ1).bind fun v σ2 => match walkV v with
    | some xs => if V.fzL xs = true then .ok xs σ2 else .bad
    | none => .bad
def kit2 (m : RV V) : RV (List V) := m.bind fun v σ2 => match walkV v with
    | some xs => if V.fzL xs = true then .ok xs σ2 else .bad
    | none => .bad
def kit3 (σ : Sv) (s : Option (List V)) : RV (List V) := match s with
    | some xs => if V.fzL xs = true then .ok xs σ else .bad
    | none => .bad
@[simp] theorem kit_ok : kit (.ok x σ) = kit2 (own false x σ) := (rfl)
@[simp] theorem kit2_ok : kit2 (.ok v σ) = kit3 σ (walkV v) := (rfl)
@[simp] theorem kit3_ok (h : V.fzL xs = true) : kit3 σ (some xs) = .ok xs σ := if_pos h
variable {mm : Sv → RV Ag}
@[simp] theorem it_loc : evIt P (.loc i) mm σ = kit (mm σ) := (rfl)
@[simp] theorem it_cst {d : D} : evIt P (.cst d) mm σ = kit (mm σ) := (rfl)
@[simp] theorem it_bop : evIt P (.bop o a b) mm σ = kit (mm σ) := (rfl)
@[simp] theorem it_ite : evIt P (.ite a b c) mm σ = kit (mm σ) := (rfl)
@[simp] theorem it_tup : evIt P (.tup a) mm σ = kit (mm σ) := (rfl)
@[simp] theorem it_lst : evIt P (.lst a) mm σ = kit (mm σ) := (rfl)
@[simp] theorem it_idx : evIt P (.idx a b) mm σ = kit (mm σ) := (rfl)
@[simp] theorem it_slc : evIt P (.slc a b c) mm σ = kit (mm σ) := (rfl)
@[simp] theorem it_rev : evIt P (.rev a) mm σ = kit (mm σ) := (rfl)
@[simp] theorem it_call : evIt P (.call f a) mm σ = kit (mm σ) := (rfl)
@[simp] theorem it_bi {g : Bi} : evIt P (.bi g a) mm σ = kit (mm σ) := (rfl)
@[simp] theorem it_me {g : Me} : evIt P (.me g a b) mm σ = kit (mm σ) := (rfl)
@[simp] theorem it_meth {g : Nat} : evIt P (.meth g a b) mm σ = kit (mm σ) := (rfl)
@[simp] theorem it_fld : evIt P (.fld a fd) mm σ = kit (mm σ) := (rfl)
def kr1 (m : RV Ag) : RV (List V) := m.bind fun x σ1 => match rd σ1 x with
    | some (.int j) => if small j = true then .ok (rangeV 0 j.toNat) σ1 else .bad
    | _ => .bad
def kr2 (σ : Sv) (s : Option V) : RV (List V) := match s with
    | some (.int j) => if small j = true then .ok (rangeV 0 j.toNat) σ else .bad
    | _ => .bad
@[simp] theorem it_rng1 : evIt P (.rng1 a) mm σ = kr1 (evA P a σ) := (rfl)
@[simp] theorem kr1_ok : kr1 (.ok x σ) = kr2 σ (rd σ x) := (rfl)
theorem kr2_ok {t : Int} (h : small t = true) : kr2 σ (some (.int t)) = .ok (rangeV 0 t.toNat) σ := if_pos h
def kr3 (P : PgV) (b : IX.E) (m : RV Ag) : RV (List V) := m.bind fun x σ1 => (after x b.quiet (evA P b) σ1).bind fun y σ2 => match rd σ2 x, rd σ2 y with
    | some (.int i), some (.int j) => if small i = true ∧ small j = true then .ok (rangeV i (j - i).toNat) σ2 else .bad
    | _, _ => .bad
def kr4 (x : Ag) (m : RV Ag) : RV (List V) := m.bind fun y σ2 => match rd σ2 x, rd σ2 y with
    | some (.int i), some (.int j) => if small i = true ∧ small j = true then .ok (rangeV i (j - i).toNat) σ2 else .bad
    | _, _ => .bad
def kr5 (σ : Sv) (s t : Option V) : RV (List V) := match s, t with
    | some (.int i), some (.int j) => if small i = true ∧ small j = true then .ok (rangeV i (j - i).toNat) σ else .bad
    | _, _ => .bad
@[simp] theorem it_rng2 : evIt P (.rng2 a b) mm σ = kr3 P b (evA P a σ) := (rfl)
@[simp] theorem kr3_ok : kr3 P b (.ok x σ) = kr4 x (after x b.quiet (evA P b) σ) := (rfl)
@[simp] theorem kr4_ok : kr4 x (.ok y σ) = kr5 σ (rd σ x) (rd σ y) := (rfl)
theorem kr5_ok {s t : Int} (h : small s = true) (h2 : small t = true) : kr5 σ (some (.int s)) (some (.int t)) = .ok (rangeV s (t - s).toNat) σ := if_pos ⟨h, h2⟩
def ken (m : RV Ag) : RV (List V) := m.bind fun x σ1 => (own false x σ1).bind fun v σ2 => match itemsV v with
    | some xs => if V.fzL xs = true then .ok (enumV 0 xs) σ2 else .bad
    | none => .bad
def ken2 (m : RV V) : RV (List V) := m.bind fun v σ2 => match itemsV v with
    | some xs => if V.fzL xs = true then .ok (enumV 0 xs) σ2 else .bad
    | none => .bad
def ken3 (σ : Sv) (s : Option (List V)) : RV (List V) := match s with
    | some xs => if V.fzL xs = true then .ok (enumV 0 xs) σ else .bad
    | none => .bad
@[simp] theorem it_enum : evIt P (.enum a) mm σ = ken (evA P a σ) := (rfl)
@[simp] theorem ken_ok : ken (.ok x σ) = ken2 (own false x σ) := (rfl)
@[simp] theorem ken2_ok : ken2 (.ok v σ) = ken3 σ (itemsV v) := (rfl)
@[simp] theorem ken3_ok (h : V.fzL xs = true) : ken3 σ (some xs) = .ok (enumV 0 xs) σ := if_pos h
@[simp] theorem walk_tup : walkV (.tup xs) = some xs := (rfl)
@[simp] theorem walk_lck : walkV (.lck xs) = some xs := (rfl)
@[simp] theorem walk_lst : walkV (.lst q xs) = some xs := (rfl)
@[simp] theorem walk_str {t : Str} : walkV (.str t) = some (t.cps.toList.map fun c => .str ⟨#[c]⟩) := (rfl)
@[simp] theorem items_lck : itemsV (.lck xs) = some xs := (rfl)
@[simp] theorem items_lst : itemsV (.lst q xs) = some xs := (rfl)
/-! comprehensions -/
def lcV (P : PgV) (elt : IX.E) (g : List Nat) (tp : Bool) (c : IX.E) (x : V) (s : Sv) : RV (Option V) := wipeC g (match targetV g tp x s with
        | some s2 => if c.isNil = true then (evA P elt s2).bind fun y s4 => (own false y s4).bind fun v s5 => .ok (some v) s5
          else (evA P c s2).bind fun z s3 => match (rd s3 z).bind truthV with
            | some true => (evA P elt s3).bind fun y s4 => (own false y s4).bind fun v s5 => .ok (some v) s5
            | some false => .ok none s3
            | none => .bad
        | none => .bad)
def klc (P : PgV) (elt : IX.E) (g : List Nat) (tp : Bool) (c : IX.E) (m : RV (List V)) : RV Ag := m.bind fun xs σ1 => if xs.length ≤ line then
      match withV g (turnsV (lcV P elt g tp c) xs) σ1 with
      | .ok ys σ2 => .ok (.val (.lst true ys)) σ2
      | _ => .bad
    else .bad
def klc2 (m : RV (List V)) : RV Ag := match m with
      | .ok ys σ2 => .ok (.val (.lst true ys)) σ2
      | _ => .bad
variable {g : List Nat} {tp : Bool} {it elt : IX.E}
@[simp] theorem ev_lc : evA P (.lc elt g tp it c) σ = klc P elt g tp c (evIt P it (evA P it) σ) := (rfl)
theorem klc_ok (h : xs.length ≤ 16777216) : klc P elt g tp c (.ok xs σ) = klc2 (withV g (turnsV (lcV P elt g tp c) xs) σ) := if_pos h
@[simp] theorem klc_s : klc P elt g tp c (.ok xs σ) = if xs.length ≤ 16777216 then klc2 (withV g (turnsV (lcV P elt g tp c) xs) σ) else .bad := (rfl)
@[simp] theorem klc2_ok : klc2 (.ok vs σ) = .ok (.val (.lst true vs)) σ := (rfl)
def k1v {α : Type} (i : Nat) (t : Option V) (m : RV α) : RV α := match m with
  | .ok a σ' => .ok a (σ'.set i t)
  | .ex c r σ' => .ex c r (σ'.set i t)
  | .bad => .bad
@[simp] theorem with_one {m : Sv → RV α} : withV [i] m σ = k1v i (slot σ i) (m (σ.set i none)) := by
  show oneV i m σ = _
  unfold oneV k1v
  cases m (σ.set i none) <;> rfl
@[simp] theorem with_two {m : Sv → RV α} : withV [i, j] m σ = k1v j (slot σ j) (k1v i (slot (σ.set j none) i) (m ((σ.set j none).set i none))) := by
  show oneV j (fun s => oneV i m s) σ = _
  unfold oneV k1v
  dsimp only
  all_goals (cases m ((σ.set j none).set i none) <;> rfl)
@[simp] theorem k1v_ok {t : Option V} {d : α} : k1v i t (.ok d σ) = .ok d (σ.set i t) := (rfl)
def kel1 (P : PgV) (elt c : IX.E) (t : Option Sv) : RV (Option V) := match t with
        | some s2 => if c.isNil = true then (evA P elt s2).bind fun y s4 => (own false y s4).bind fun v s5 => .ok (some v) s5
          else (evA P c s2).bind fun z s3 => match (rd s3 z).bind truthV with
            | some true => (evA P elt s3).bind fun y s4 => (own false y s4).bind fun v s5 => .ok (some v) s5
            | some false => .ok none s3
            | none => .bad
        | none => .bad
def kel2 (m : RV Ag) : RV (Option V) := m.bind fun y s4 => (own false y s4).bind fun v s5 => .ok (some v) s5
def kel3 (m : RV V) : RV (Option V) := m.bind fun v s5 => .ok (some v) s5
def kel4 (P : PgV) (elt : IX.E) (m : RV Ag) : RV (Option V) := m.bind fun z s3 => match (rd s3 z).bind truthV with
            | some true => (evA P elt s3).bind fun y s4 => (own false y s4).bind fun v s5 => .ok (some v) s5
            | some false => .ok none s3
            | none => .bad
def kel5 (P : PgV) (elt : IX.E) (σ : Sv) (t : Option Bool) : RV (Option V) := match t with
            | some true => (evA P elt σ).bind fun y s4 => (own false y s4).bind fun v s5 => .ok (some v) s5
            | some false => .ok none σ
            | none => .bad
@[simp] theorem lcV_eq : lcV P elt g tp c v σ = wipeC g (kel1 P elt c (targetV g tp v σ)) := (rfl)
@[simp] theorem kel1_nil : kel1 P elt .nil (some σ) = kel2 (evA P elt σ) := (rfl)
theorem kel1_c (h : c.isNil = false) : kel1 P elt c (some σ) = kel4 P elt (evA P c σ) := by
  show (if c.isNil = true then _ else _) = _
  rw [h]; rfl
@[simp] theorem kel1_bop : kel1 P elt (.bop o a b) (some σ) = kel4 P elt (evA P (.bop o a b) σ) := (rfl)
@[simp] theorem kel1_not : kel1 P elt (.not a) (some σ) = kel4 P elt (evA P (.not a) σ) := (rfl)
@[simp] theorem kel1_and : kel1 P elt (.and a b) (some σ) = kel4 P elt (evA P (.and a b) σ) := (rfl)
@[simp] theorem kel1_or : kel1 P elt (.or a b) (some σ) = kel4 P elt (evA P (.or a b) σ) := (rfl)
@[simp] theorem kel1_isi {ts : List Ty} : kel1 P elt (.isi a ts) (some σ) = kel4 P elt (evA P (.isi a ts) σ) := (rfl)
@[simp] theorem kel1_call : kel1 P elt (.call f a) (some σ) = kel4 P elt (evA P (.call f a) σ) := (rfl)
@[simp] theorem kel1_cmp2 : kel1 P elt (.cmp2 o p a b e) (some σ) = kel4 P elt (evA P (.cmp2 o p a b e) σ) := (rfl)
@[simp] theorem kel2_ok : kel2 (.ok x σ) = kel3 (own false x σ) := (rfl)
@[simp] theorem kel3_ok : kel3 (.ok v σ) = .ok (some v) σ := (rfl)
@[simp] theorem kel4_ok : kel4 P elt (.ok x σ) = kel5 P elt σ (ktr (rd σ x)) := (rfl)
@[simp] theorem kel5_tt : kel5 P elt σ (some true) = kel2 (evA P elt σ) := (rfl)
@[simp] theorem kel5_ff : kel5 P elt σ (some false) = .ok none σ := (rfl)
@[simp] theorem wipeC_one {d : α} : wipeC [i] (.ok d σ) = .ok d (σ.set i none) := (rfl)
@[simp] theorem wipeC_two {d : α} : wipeC [i, j] (.ok d σ) = .ok d ((σ.set j none).set i none) := (rfl)
/-- turns that change no slot -/
theorem turns_pure {f : V → Sv → RV (Option V)} (g : V → Option V) : ∀ {xs : List V}, (∀ x ∈ xs, f x σ = .ok (g x) σ) → turnsV f xs σ = .ok (xs.filterMap g) σ
  | [], _ => rfl
  | x :: r, h => by
    show (f x σ).bind _ = _
    rw [h x (List.mem_cons_self ..)]
    show (turnsV f r σ).bind _ = _
    rw [turns_pure g fun y hy => h y (List.mem_cons_of_mem _ hy)]
    rw [List.filterMap_cons]
    cases g x <;> rfl
/-- .. each tells a value -/
theorem turns_map {f : V → Sv → RV (Option V)} (g : V → V) {xs : List V} (h : ∀ x ∈ xs, f x σ = .ok (some (g x)) σ) : turnsV f xs σ = .ok (xs.map g) σ := by
  rw [turns_pure (fun x => some (g x)) h, List.filterMap_eq_map']
/-- turns with an invariant -/
theorem turns_inv {f : V → Sv → RV (Option V)} {I : Nat → Sv → Prop} {Q : V → Prop} : ∀ {xs : List V} {σ : Sv} (k : Nat), (∀ (j : Nat) x σ, xs[j]? = some x → I (k + j) σ → ∃ v σ', f x σ = .ok (some v) σ' ∧ Q v ∧ I (k + j + 1) σ') → I k σ →
    ∃ vs σ', turnsV f xs σ = .ok vs σ' ∧ (∀ v ∈ vs, Q v) ∧ vs.length = xs.length ∧ I (k + xs.length) σ'
  | [], σ, k, _, i => ⟨[], σ, rfl, by simp, rfl, i⟩
  | x :: r, σ, k, st, i => by
    obtain ⟨v, σ1, e1, q1, i1⟩ := st 0 x σ rfl i
    obtain ⟨vs, σ2, e2, q2, l2, i2⟩ := turns_inv (k + 1) (fun j y σ hy iy => by
      have := st (j + 1) y σ (by simpa using hy) (by rw [show k + (j + 1) = k + 1 + j by omega]; exact iy)
      rw [show k + (j + 1) + 1 = k + 1 + j + 1 by omega] at this
      exact this) i1
    refine ⟨v :: vs, σ2, ?_, ?_, by rw [List.length_cons, l2, List.length_cons], by rw [List.length_cons, show k + (r.length + 1) = k + 1 + r.length by omega]; exact i2⟩
    · show (f x σ).bind _ = _
      rw [e1]
      show (turnsV f r σ1).bind _ = _
      rw [e2]; rfl
    · intro w hw
      rcases List.mem_cons.mp hw with rfl | hw
      · exact q1
      · exact q2 w hw
/-! calls of defs -/
theorem call_def {T : Tbl} {fr : Nat → Bool} {d : Def} (hT : T.fn f = some d) (hl : vs.length = d.np) : callV T fr (n + 1) f vs = leaveV d (exV ⟨callV T fr n, T.meth, T.init, fr⟩ d.body (startV d vs)) := by
  show (match T.fn f with
    | some d => if vs.length = d.np then leaveV d (exV ⟨callV T fr n, T.meth, T.init, fr⟩ d.body (startV d vs)) else .bad
    | none => .bad) = _
  rw [hT]; exact if_pos hl
@[simp] theorem leave_rt {d : Def} : leaveV d (.ok (.rt v) σ) = .ok v (finV d σ) := (rfl)
@[simp] theorem leave_nx {d : Def} : leaveV d (.ok .nx σ) = .ok .non (finV d σ) := (rfl)
@[simp] theorem leave_ex {d : Def} : leaveV d (.ex n r σ) = .ex n r (finV d σ) := (rfl)
end
end VX
end

section
set_option Elab.async false
set_option linter.all false
set_option maxRecDepth 100000
set_option maxHeartbeats 4000000
/-! VK3: operations by their values. -/
namespace VX
open PySem IX
section
variable {P : PgV} {σ : Sv} {x y z v w u : V} {vs ws xs ys ks : List V} {i j k n : Nat} {q : Bool} {a b : Int} {s t : Str}
@[simp] theorem bin_addI : binV .add (.int a) (.int b) = some (.int (a + b)) := (rfl)
@[simp] theorem bin_subI : binV .sub (.int a) (.int b) = some (.int (a - b)) := (rfl)
theorem bin_addS (h : s.length + t.length ≤ 16777216) : binV .add (.str s) (.str t) = some (.str (s ++ t)) := by
  show strV (s ++ t) = _
  unfold strV
  rw [PySem.Str.length_append]
  exact if_pos h
theorem bin_addT (h : xs.length + ys.length ≤ 16777216) (h1 : V.fzL xs = true) (h2 : V.fzL ys = true) : binV .add (.tup xs) (.tup ys) = some (.tup (xs ++ ys)) := if_pos ⟨h, by rw [h1, h2]; rfl⟩
theorem bin_addL {p : Bool} (h : xs.length + ys.length ≤ 16777216) (h1 : V.fzL xs = true) (h2 : V.fzL ys = true) : binV .add (.lst p xs) (.lst q ys) = some (.lst true (xs ++ ys)) := if_pos ⟨h, by rw [h1, h2]; rfl⟩
theorem bin_addK (h : xs.length + ys.length ≤ 16777216) (h1 : V.fzL xs = true) (h2 : V.fzL ys = true) : binV .add (.lck xs) (.lst q ys) = some (.lst true (xs ++ ys)) := if_pos ⟨h, by rw [h1, h2]; rfl⟩
theorem bin_mulI (h : a.natAbs < 18446744073709551616 ∨ b.natAbs < 18446744073709551616) : binV .mul (.int a) (.int b) = some (.int (a * b)) := if_pos h
theorem bin_mulV {c : Int} (hv : a * b = c) (h : a.natAbs < 18446744073709551616 ∨ b.natAbs < 18446744073709551616) : binV .mul (.int a) (.int b) = some (.int c) := by rw [bin_mulI h, hv]
theorem bin_mulL (h : -4611686018427387904 ≤ a ∧ a ≤ 4611686018427387904 ∧ xs.length * a.toNat ≤ 16777216) (h1 : V.fzL xs = true) : binV .mul (.lst q xs) (.int a) = some (.lst true (List.replicate a.toNat xs).flatten) := if_pos ⟨h, h1⟩
theorem bin_fdiv (h : 0 < b ∧ b < 2 ^ 1000) : binV .fdiv (.int a) (.int b) = some (.int (a / b)) := if_pos h
theorem bin_mod (h : 0 < b) : binV .mod (.int a) (.int b) = some (.int (a % b)) := if_pos h
theorem bin_pow (h : 0 ≤ b ∧ b ≤ 1000000 ∧ a.natAbs < 2 ^ 64) : binV .pow (.int a) (.int b) = some (.int (a ^ b.toNat)) := if_pos h
theorem bin_powV {c : Int} (hv : a ^ b.toNat = c) (h : 0 ≤ b ∧ b ≤ 1000000 ∧ a.natAbs < 2 ^ 64) : binV .pow (.int a) (.int b) = some (.int c) := by rw [bin_pow h, hv]
@[simp] theorem bin_pow18 : binV .pow (.int 10) (.int 18) = some (.int 1000000000000000000) := bin_powV (by decide +kernel) (by decide +kernel)
@[simp] theorem bin_pow9 : binV .pow (.int 10) (.int 9) = some (.int 1000000000) := bin_powV (by decide +kernel) (by decide +kernel)
@[simp] theorem bin_pow30 : binV .pow (.int 10) (.int 30) = some (.int 1000000000000000000000000000000) := bin_powV (by decide +kernel) (by decide +kernel)
@[simp] theorem bin_lt : binV .lt (.int a) (.int b) = some (.bl (decide (a < b))) := (rfl)
@[simp] theorem bin_le : binV .le (.int a) (.int b) = some (.bl (decide (a ≤ b))) := (rfl)
@[simp] theorem bin_gt : binV .gt (.int a) (.int b) = some (.bl (decide (b < a))) := (rfl)
@[simp] theorem bin_ge : binV .ge (.int a) (.int b) = some (.bl (decide (b ≤ a))) := (rfl)
@[simp] theorem bin_eq : binV .eq v w = kbl (eqV 60 v w) := (rfl)
def kbn (s : Option Bool) : Option V := s.map fun b => .bl (!b)
@[simp] theorem kbn_some {t : Bool} : kbn (some t) = some (.bl (!t)) := (rfl)
@[simp] theorem bin_ne : binV .ne v w = kbl (neV v w) := (rfl)
@[simp] theorem bin_in : binV .isin v w = kbl (inV v w) := (rfl)
@[simp] theorem bin_notin : binV .notin v w = kbn (inV v w) := (rfl)
@[simp] theorem bin_is : binV .is_ v w = kbl (isV v w) := (rfl)
@[simp] theorem bin_isnot : binV .isnot v w = kbn (isV v w) := (rfl)
/-! equality -/
@[simp] theorem eq_int : eqV (n + 1) (.int a) (.int b) = some (a == b) := (rfl)
@[simp] theorem eq_str : eqV (n + 1) (.str s) (.str t) = some (s == t) := (rfl)
@[simp] theorem eq_bl {p q : Bool} : eqV (n + 1) (.bl p) (.bl q) = some (p == q) := (rfl)
@[simp] theorem eq_non : eqV (n + 1) .non .non = some true := (rfl)
@[simp] theorem eq_int_bl {p : Bool} : eqV (n + 1) (.int a) (.bl p) = some (a == (if p then 1 else 0)) := (rfl)
@[simp] theorem eq_bl_int {p : Bool} : eqV (n + 1) (.bl p) (.int a) = some ((if p then 1 else 0) == a) := (rfl)
@[simp] theorem eq_non_int : eqV (n + 1) .non (.int a) = some false := (rfl)
@[simp] theorem eq_non_str : eqV (n + 1) .non (.str s) = some false := (rfl)
@[simp] theorem eq_non_bl {p : Bool} : eqV (n + 1) .non (.bl p) = some false := (rfl)
@[simp] theorem eq_non_tup : eqV (n + 1) .non (.tup xs) = some false := (rfl)
@[simp] theorem eq_non_lst : eqV (n + 1) .non (.lst q xs) = some false := (rfl)
@[simp] theorem eq_int_non : eqV (n + 1) (.int a) .non = some false := (rfl)
@[simp] theorem eq_int_str : eqV (n + 1) (.int a) (.str s) = some false := (rfl)
@[simp] theorem eq_int_tup : eqV (n + 1) (.int a) (.tup xs) = some false := (rfl)
@[simp] theorem eq_int_lst : eqV (n + 1) (.int a) (.lst q xs) = some false := (rfl)
@[simp] theorem eq_str_non : eqV (n + 1) (.str s) .non = some false := (rfl)
@[simp] theorem eq_str_int : eqV (n + 1) (.str s) (.int a) = some false := (rfl)
@[simp] theorem eq_str_bl {p : Bool} : eqV (n + 1) (.str s) (.bl p) = some false := (rfl)
@[simp] theorem eq_str_tup : eqV (n + 1) (.str s) (.tup xs) = some false := (rfl)
@[simp] theorem eq_str_lst : eqV (n + 1) (.str s) (.lst q xs) = some false := (rfl)
@[simp] theorem eq_bl_non {p : Bool} : eqV (n + 1) (.bl p) .non = some false := (rfl)
@[simp] theorem eq_bl_str {p : Bool} : eqV (n + 1) (.bl p) (.str s) = some false := (rfl)
@[simp] theorem eq_bl_tup {p : Bool} : eqV (n + 1) (.bl p) (.tup xs) = some false := (rfl)
@[simp] theorem eq_tup_non : eqV (n + 1) (.tup xs) .non = some false := (rfl)
@[simp] theorem eq_tup_int : eqV (n + 1) (.tup xs) (.int a) = some false := (rfl)
@[simp] theorem eq_tup_str : eqV (n + 1) (.tup xs) (.str s) = some false := (rfl)
@[simp] theorem eq_tup_bl {p : Bool} : eqV (n + 1) (.tup xs) (.bl p) = some false := (rfl)
@[simp] theorem eq_tup_lst : eqV (n + 1) (.tup xs) (.lst q ys) = some false := (rfl)
@[simp] theorem eq_lst_tup : eqV (n + 1) (.lst q xs) (.tup ys) = some false := (rfl)
@[simp] theorem eq_lst_non : eqV (n + 1) (.lst q xs) .non = some false := (rfl)
@[simp] theorem eq_lst_str : eqV (n + 1) (.lst q xs) (.str s) = some false := (rfl)
@[simp] theorem eq_lst_int : eqV (n + 1) (.lst q xs) (.int a) = some false := (rfl)
@[simp] theorem eq_lst_bl {p : Bool} : eqV (n + 1) (.lst q xs) (.bl p) = some false := (rfl)
@[simp] theorem eq_dic_tup : eqV (n + 1) (.dic q ks xs) (.tup ys) = some false := (rfl)
@[simp] theorem eq_tup_dic : eqV (n + 1) (.tup ys) (.dic q ks xs) = some false := (rfl)
@[simp] theorem eq_dic_str : eqV (n + 1) (.dic q ks xs) (.str s) = some false := (rfl)
@[simp] theorem eq_str_dic : eqV (n + 1) (.str s) (.dic q ks xs) = some false := (rfl)
@[simp] theorem eq_dic_int : eqV (n + 1) (.dic q ks xs) (.int a) = some false := (rfl)
@[simp] theorem eq_int_dic : eqV (n + 1) (.int a) (.dic q ks xs) = some false := (rfl)
def kan (s t : Option Bool) : Option Bool := match s, t with
    | some a, some b => some (a && b)
    | _, _ => none
@[simp] theorem kan_ok {p q : Bool} : kan (some p) (some q) = some (p && q) := (rfl)
def ktl (l : Bool) (s : Option Bool) : Option Bool := s.map fun b => b && l
@[simp] theorem ktl_ok {p q : Bool} : ktl p (some q) = some (q && p) := (rfl)
@[simp] theorem eq_tup : eqV (n + 1) (.tup xs) (.tup ys) = ktl (xs.length == ys.length) (eqVL (eqV n) xs ys) := (rfl)
@[simp] theorem eq_lst {p : Bool} : eqV (n + 1) (.lst p xs) (.lst q ys) = if xs.length = ys.length then eqVL (eqV n) xs ys else some false := (rfl)
@[simp] theorem eqL_nil {f : V → V → Option Bool} : eqVL f [] ys = some true := by cases ys <;> rfl
@[simp] theorem eqL_nil2 {f : V → V → Option Bool} : eqVL f xs [] = some true := by cases xs <;> rfl
@[simp] theorem eqL_cons {f : V → V → Option Bool} : eqVL f (x :: xs) (y :: ys) = kan (f x y) (eqVL f xs ys) := (rfl)
@[simp] theorem ne_eq (h : isDicV v = false) (h2 : isDicV w = false) : neV v w = (eqV 60 v w).map (!·) := by
  cases v <;> first | (cases h; done) | (cases w <;> first | (cases h2; done) | rfl)
@[simp] theorem isDic_lst : isDicV (.lst q xs) = false := (rfl)
@[simp] theorem isDic_tup : isDicV (.tup xs) = false := (rfl)
@[simp] theorem isDic_int : isDicV (.int a) = false := (rfl)
@[simp] theorem isDic_str : isDicV (.str s) = false := (rfl)
@[simp] theorem isDic_bl : isDicV (.bl q) = false := (rfl)
@[simp] theorem isDic_non : isDicV .non = false := (rfl)
def kor' (s t : Option Bool) : Option Bool := match s, t with
    | some a, some b => some (a || b)
    | _, _ => none
@[simp] theorem kor'_ok {p q : Bool} : kor' (some p) (some q) = some (p || q) := (rfl)
@[simp] theorem in_tup : inV x (.tup ys) = anyV x ys := (rfl)
@[simp] theorem in_lst : inV x (.lst q ys) = anyV x ys := (rfl)
@[simp] theorem any_nil : anyV x [] = some false := (rfl)
@[simp] theorem any_cons : anyV x (y :: ys) = kor' (eqV 60 y x) (anyV x ys) := (rfl)
/-- a text among texts -/
theorem any_strs : ∀ {ts : List Str}, anyV (.str s) (ts.map V.str) = some (ts.any (· == s))
  | [] => rfl
  | t :: r => by
    show kor' (eqV 60 (.str t) (.str s)) (anyV (.str s) (r.map V.str)) = _
    rw [any_strs]; rfl
@[simp] theorem is_non : isV .non .non = some true := (rfl)
@[simp] theorem is_int : isV (.int a) .non = some false := (rfl)
@[simp] theorem is_str : isV (.str s) .non = some false := (rfl)
@[simp] theorem is_tup : isV (.tup xs) .non = some false := (rfl)
@[simp] theorem is_lst : isV (.lst q xs) .non = some false := (rfl)
@[simp] theorem is_bl : isV (.bl q) .non = some false := (rfl)
@[simp] theorem is_dic : isV (.dic q xs ys) .non = some false := (rfl)
@[simp] theorem is_ins {ns : List Str} : isV (.ins q n ns ys) .non = some false := (rfl)
@[simp] theorem is_blb {p : Bool} : isV (.bl q) (.bl p) = some (q == p) := (rfl)
/-! items -/
@[simp] theorem idx_tup : idxV (.tup xs) (.int a) = seqAt xs a := (rfl)
@[simp] theorem idx_lst : idxV (.lst q xs) (.int a) = seqAt xs a := (rfl)
@[simp] theorem idx_lck : idxV (.lck xs) (.int a) = seqAt xs a := (rfl)
theorem seqAt_nat {i : Nat} (e : xs[i]? = some v) : seqAt xs (i : Int) = some (i, v) := by
  have l := (List.getElem?_eq_some_iff.mp e).1
  have : L2.ixN xs.length (i : Int) = some i := by
    unfold L2.ixN
    rw [if_pos (by omega), if_pos (by omega)]
    simp
  unfold seqAt
  rw [this]
  simp [e]
theorem seqAt_int (h : 0 ≤ a) (e : xs[a.toNat]? = some v) : seqAt xs a = some (a.toNat, v) := by
  have := seqAt_nat e
  rw [Int.toNat_of_nonneg h] at this
  exact this
theorem seqAt_in (h : 0 ≤ a) (h2 : a < xs.length) : ∃ v, xs[a.toNat]? = some v ∧ seqAt xs a = some (a.toNat, v) := by
  have l : a.toNat < xs.length := by omega
  exact ⟨_, List.getElem?_eq_getElem l, seqAt_int h (List.getElem?_eq_getElem l)⟩
@[simp] theorem seqAt0 : seqAt (x :: xs) 0 = some (0, x) := seqAt_nat (i := 0) rfl
@[simp] theorem seqAt1 : seqAt (x :: y :: xs) 1 = some (1, y) := seqAt_nat (i := 1) rfl
@[simp] theorem seqAt2 : seqAt (x :: y :: z :: xs) 2 = some (2, z) := seqAt_nat (i := 2) rfl
@[simp] theorem seqAt3 : seqAt (x :: y :: z :: u :: xs) 3 = some (3, u) := seqAt_nat (i := 3) rfl
theorem seqAt_last (e : xs[xs.length - 1]? = some v) (h : xs ≠ []) : seqAt xs (-1) = some (xs.length - 1, v) := by
  have l : 0 < xs.length := List.length_pos_iff.mpr h
  have : L2.ixN xs.length (-1) = some (xs.length - 1) := by
    unfold L2.ixN
    rw [if_neg (by omega), if_pos (by omega)]
    congr 1; omega
  unfold seqAt
  rw [this]
  simp [e]
@[simp] theorem idx_str : idxV (.str s) (.int a) = (match L2.atI s.cps.toList a with
    | some c => some (0, V.str ⟨#[c]⟩)
    | none => none) := (rfl)
/-! types -/
@[simp] theorem isA_one {t : Ty} : isAnyV v [t] = isTyV v t := by
  unfold isAnyV isAnyV
  cases isTyV v t with
  | none => rfl
  | some b => cases b <;> rfl
@[simp] theorem ty_non_int : isTyV .non .int = some false := (rfl)
@[simp] theorem ty_non_bool : isTyV .non .bool = some false := (rfl)
@[simp] theorem ty_non_str : isTyV .non .str = some false := (rfl)
@[simp] theorem ty_non_tuple : isTyV .non .tuple = some false := (rfl)
@[simp] theorem ty_non_list : isTyV .non .list = some false := (rfl)
@[simp] theorem ty_bl_int : isTyV (.bl q) .int = some true := (rfl)
@[simp] theorem ty_bl_bool : isTyV (.bl q) .bool = some true := (rfl)
@[simp] theorem ty_bl_str : isTyV (.bl q) .str = some false := (rfl)
@[simp] theorem ty_bl_tuple : isTyV (.bl q) .tuple = some false := (rfl)
@[simp] theorem ty_bl_list : isTyV (.bl q) .list = some false := (rfl)
@[simp] theorem ty_int_int : isTyV (.int a) .int = some true := (rfl)
@[simp] theorem ty_int_bool : isTyV (.int a) .bool = some false := (rfl)
@[simp] theorem ty_int_str : isTyV (.int a) .str = some false := (rfl)
@[simp] theorem ty_int_tuple : isTyV (.int a) .tuple = some false := (rfl)
@[simp] theorem ty_int_list : isTyV (.int a) .list = some false := (rfl)
@[simp] theorem ty_str_int : isTyV (.str s) .int = some false := (rfl)
@[simp] theorem ty_str_bool : isTyV (.str s) .bool = some false := (rfl)
@[simp] theorem ty_str_str : isTyV (.str s) .str = some true := (rfl)
@[simp] theorem ty_str_tuple : isTyV (.str s) .tuple = some false := (rfl)
@[simp] theorem ty_str_list : isTyV (.str s) .list = some false := (rfl)
@[simp] theorem ty_tup_int : isTyV (.tup xs) .int = some false := (rfl)
@[simp] theorem ty_tup_bool : isTyV (.tup xs) .bool = some false := (rfl)
@[simp] theorem ty_tup_str : isTyV (.tup xs) .str = some false := (rfl)
@[simp] theorem ty_tup_tuple : isTyV (.tup xs) .tuple = some true := (rfl)
@[simp] theorem ty_tup_list : isTyV (.tup xs) .list = some false := (rfl)
@[simp] theorem ty_lst_int : isTyV (.lst q xs) .int = some false := (rfl)
@[simp] theorem ty_lst_bool : isTyV (.lst q xs) .bool = some false := (rfl)
@[simp] theorem ty_lst_str : isTyV (.lst q xs) .str = some false := (rfl)
@[simp] theorem ty_lst_tuple : isTyV (.lst q xs) .tuple = some false := (rfl)
@[simp] theorem ty_lst_list : isTyV (.lst q xs) .list = some true := (rfl)
@[simp] theorem ty_dic_int : isTyV (.dic q xs ys) .int = some false := (rfl)
@[simp] theorem ty_dic_bool : isTyV (.dic q xs ys) .bool = some false := (rfl)
@[simp] theorem ty_dic_str : isTyV (.dic q xs ys) .str = some false := (rfl)
@[simp] theorem ty_dic_tuple : isTyV (.dic q xs ys) .tuple = some false := (rfl)
@[simp] theorem ty_dic_list : isTyV (.dic q xs ys) .list = some false := (rfl)
/-! built-ins -/
@[simp] theorem bi_lenS : biV .len [.str s] = some (.int s.length) := (rfl)
@[simp] theorem bi_lenT : biV .len [.tup xs] = some (.int xs.length) := (rfl)
@[simp] theorem bi_lenK : biV .len [.lck xs] = some (.int xs.length) := (rfl)
@[simp] theorem bi_lenL : biV .len [.lst q xs] = some (.int xs.length) := (rfl)
@[simp] theorem bi_lenD : biV .len [.dic q xs ys] = some (.int xs.length) := (rfl)
@[simp] theorem bi_max : biV .max [.int a, .int b] = some (.int (if b > a then b else a)) := (rfl)
@[simp] theorem bi_min : biV .min [.int a, .int b] = some (.int (if b < a then b else a)) := (rfl)
@[simp] theorem bi_intI : biV .int [.int a] = some (.int a) := (rfl)
@[simp] theorem bi_intB : biV .int [.bl q] = some (.int (if q then 1 else 0)) := (rfl)
@[simp] theorem bi_strS : biV .str [.str s] = some (.str s) := (rfl)
theorem bi_listT (h : V.fzL xs = true) : biV .list [.tup xs] = some (.lst true xs) := if_pos h
theorem bi_listL (h : V.fzL xs = true) : biV .list [.lst q xs] = some (.lst true xs) := if_pos h
theorem bi_tupT (h : V.fzL xs = true) : biV .tuple [.tup xs] = some (.tup xs) := if_pos h
theorem bi_tupL (h : V.fzL xs = true) : biV .tuple [.lst q xs] = some (.tup xs) := if_pos h
theorem allV_map {α : Type} {p : α → Bool} : ∀ {l : List α}, allV (l.map fun c => V.bl (p c)) = some (l.all p)
  | [] => rfl
  | c :: r => by
    show (allV (r.map fun c => V.bl (p c))).map (fun d => p c && d) = _
    rw [allV_map]; rfl
theorem bi_all {α : Type} {p : α → Bool} {l : List α} : biV .all [.lst q (l.map fun c => V.bl (p c))] = some (.bl (l.all p)) := by
  show (allV _).map V.bl = _
  rw [allV_map]; rfl
theorem bi_dictD (h : V.fzL xs = true) : biV .dict [.dic q ys xs] = some (.dic true ys xs) := if_pos h
theorem str_int (z : a.natAbs < 2 ^ 1920) : biV .str [.int a] = some (.str (toString a)) := by
  have l : a.natAbs.log2 < 1920 := by
    by_cases e : a.natAbs = 0
    · rw [e]; decide
    · exact (Nat.log2_lt e).mpr z
  show (if a.natAbs.log2 < 1920 then strV (toString a) else none) = _
  rw [if_pos l]
  exact if_pos (by have := int_text_fits l; rw [sizeLine_eq] at this; exact this)
/-! slices -/
theorem slc_tup {lo hi : Option Int} (h : V.fzL xs = true) : slcV (.tup xs) lo hi = some (.tup (cutV xs lo hi)) := if_pos h
theorem slc_lst {lo hi : Option Int} (h : V.fzL xs = true) : slcV (.lst q xs) lo hi = some (.lst true (cutV xs lo hi)) := if_pos h
theorem slc_lck {lo hi : Option Int} (h : V.fzL xs = true) : slcV (.lck xs) lo hi = some (.lst true (cutV xs lo hi)) := if_pos h
@[simp] theorem slc_str {lo hi : Option Int} : slcV (.str s) lo hi = some (.str (L2.cutS s lo hi)) := (rfl)
theorem rev_tup (h : V.fzL xs = true) : revV (.tup xs) = some (.tup xs.reverse) := if_pos h
theorem rev_lst (h : V.fzL xs = true) : revV (.lst q xs) = some (.lst true xs.reverse) := if_pos h
/-! stores -/
theorem seti_lst {i : Nat} (h : i < xs.length) : setiV (.lst true xs) (.int (i : Int)) v = some (.lst true (xs.set i v)) := by
  have : L2.ixN xs.length (i : Int) = some i := by
    unfold L2.ixN
    rw [if_pos (by omega), if_pos (by omega)]
    simp
  show (match L2.ixN xs.length (i : Int) with
      | some j => some (V.lst true (xs.set j v))
      | none => none) = _
  rw [this]
@[simp] theorem seti_0 : setiV (.lst true (x :: xs)) (.int 0) v = some (.lst true (v :: xs)) := seti_lst (i := 0) (by simp)
@[simp] theorem seti_1 : setiV (.lst true (x :: y :: xs)) (.int 1) v = some (.lst true (x :: v :: xs)) := seti_lst (i := 1) (by simp)
@[simp] theorem seti_2 : setiV (.lst true (x :: y :: z :: xs)) (.int 2) v = some (.lst true (x :: y :: v :: xs)) := seti_lst (i := 2) (by simp)
end
end VX
end

section
set_option maxRecDepth 100000
set_option linter.all false
namespace VX
open PySem IX
def c105 : IX.S := (.seq (.set 2 (.bop .add (.cst (.int 1)) (.bop .mod (.bop .pow (.bop .add (.bop .add (.bop .mul (.bop .mod (.loc 0) (.cst (.int 2147483647))) (.cst (.int 48271))) (.bop .mul (.cst (.int 104729)) (.loc 1))) (.cst (.int 7))) (.cst (.int 3))) (.cst (.int 2147483629)))))
    (.seq (.ite (.bop .ge (.loc 0) (.bop .pow (.cst (.int 10)) (.cst (.int 18)))) (.seq (.ret (.lst (.cons (.bop .sub (.loc 0) (.bop .pow (.cst (.int 10)) (.cst (.int 18)))) (.cons (.loc 2) (.cons (.cst (.int 0)) .nil)))))
    .skip) .skip)
    (.seq (.ret (.lst (.cons (.cst (.int 0)) (.cons (.loc 2) (.cons (.cst (.int 0)) .nil)))))
    .skip)))
def d105 : Def := ⟨2, 3, c105⟩
def c106 : IX.S := (.seq (.ite (.bop .gt (.idx (.loc 0) (.cst (.int 0))) (.cst (.int 0))) (.seq (.set 2 (.bop .mod (.idx (.loc 0) (.cst (.int 0))) (.loc 1)))
    (.seq (.seti (.loc 0) (.cst (.int 0)) (.bop .fdiv (.idx (.loc 0) (.cst (.int 0))) (.loc 1)))
    (.seq (.ret (.loc 2))
    .skip))) .skip)
    (.seq (.seti (.loc 0) (.cst (.int 2)) (.bop .add (.idx (.loc 0) (.cst (.int 2))) (.cst (.int 1))))
    (.seq (.set 3 (.bop .mod (.bop .pow (.bop .add (.bop .add (.bop .mul (.idx (.loc 0) (.cst (.int 1))) (.bop .add (.bop .mul (.cst (.int 2)) (.idx (.loc 0) (.cst (.int 2)))) (.cst (.int 1)))) (.bop .mul (.bop .mul (.cst (.int 7919)) (.idx (.loc 0) (.cst (.int 2)))) (.idx (.loc 0) (.cst (.int 2))))) (.cst (.int 11))) (.cst (.int 5))) (.cst (.int 2147483647))))
    (.seq (.ret (.bop .mod (.bop .fdiv (.loc 3) (.cst (.int 11))) (.loc 1)))
    .skip))))
def d106 : Def := ⟨2, 4, c106⟩
def c107 : IX.S := (.seq (.ret (.idx (.loc 1) (.call 106 (.cons (.loc 0) (.cons (.bi .len (.cons (.loc 1) .nil)) .nil)))))
    .skip)
def d107 : Def := ⟨2, 2, c107⟩
def c108 : IX.S := (.seq (.set 2 (.cst (.str "abcdefghijklmnopqrstuvwxyz")))
    (.seq (.set 3 (.call 106 (.cons (.loc 0) (.cons (.cst (.int 26)) .nil))))
    (.seq (.set 4 (.call 107 (.cons (.loc 0) (.cons (.lst (.cons (.cst (.str "x")) (.cons (.cst (.str "")) (.cons (.cst (.str "qxqx")) (.cons (.bop .add (.idx (.loc 2) (.call 106 (.cons (.loc 0) (.cons (.cst (.int 26)) .nil)))) (.cst (.str "xx"))) (.cons (.cst (.str "qxqxq")) .nil)))))) .nil))))
    (.seq (.ret (.lc (.bop .add (.idx (.loc 2) (.bop .mod (.bop .add (.loc 3) (.bop .mul (.cst (.int 5)) (.loc 5))) (.cst (.int 26)))) (.loc 4)) [5] false (.rng1 (.loc 1)) .nil))
    .skip))))
def d108 : Def := ⟨2, 6, c108⟩
def c109 : IX.S := (.seq (.ret (.call 107 (.cons (.loc 0) (.cons (.lst (.cons (.cst (.int 3)) (.cons (.cst (.int 1)) (.cons (.cst (.int 2)) (.cons (.cst (.int 9)) (.cons (.cst (.int 2)) (.cons (.cst (.int 5)) (.cons (.bop .pow (.cst (.int 10)) (.cst (.int 9))) (.cons (.bop .add (.cst (.int 3)) (.call 106 (.cons (.loc 0) (.cons (.cst (.int 1000)) .nil)))) .nil))))))))) .nil))))
    .skip)
def d109 : Def := ⟨1, 1, c109⟩
def c110 : IX.S := (.seq (.set 2 (.call 106 (.cons (.loc 0) (.cons (.cst (.int 4)) .nil))))
    (.seq (.set 3 (.call 106 (.cons (.loc 0) (.cons (.bop .add (.bi .min (.cons (.loc 1) (.cons (.cst (.int 5)) .nil))) (.cst (.int 1))) .nil))))
    (.seq (.ret (.ite (.bop .eq (.loc 2) (.cst (.int 0))) (.bop .sub (.loc 1) (.loc 3)) (.loc 3)))
    .skip)))
def d110 : Def := ⟨2, 4, c110⟩
def c111 : IX.S := (.seq (.set 4 (.call 106 (.cons (.loc 0) (.cons (.cst (.int 7)) .nil))))
    (.seq (.ite (.or (.bop .eq (.loc 3) (.cst (.int 0))) (.bop .lt (.loc 4) (.cst (.int 4)))) (.seq (.ite (.bop .eq (.bop .mod (.loc 4) (.cst (.int 2))) (.cst (.int 0))) (.seq (.ret (.tup (.cons (.cst (.str "box")) (.cons (.call 107 (.cons (.loc 0) (.cons (.loc 2) .nil))) .nil))))
    .skip) .skip)
    (.seq (.ret (.tup (.cons (.cst (.str "number")) (.cons (.call 110 (.cons (.loc 0) (.cons (.loc 1) .nil))) .nil))))
    .skip)) .skip)
    (.seq (.set 5 (.call 107 (.cons (.loc 0) (.cons (.lst (.cons (.cst (.str "plus")) (.cons (.cst (.str "less")) (.cons (.cst (.str "times")) (.cons (.cst (.str "part")) (.cons (.cst (.str "under")) (.cons (.cst (.str "same")) (.cons (.cst (.str "plus")) (.cons (.cst (.str "under")) .nil))))))))) .nil))))
    (.seq (.set 6 (.call 111 (.cons (.loc 0) (.cons (.loc 1) (.cons (.loc 2) (.cons (.bop .sub (.loc 3) (.cst (.int 1))) .nil))))))
    (.seq (.ret (.tup (.cons (.loc 5) (.cons (.loc 6) (.cons (.call 111 (.cons (.loc 0) (.cons (.loc 1) (.cons (.loc 2) (.cons (.bop .sub (.loc 3) (.cst (.int 1))) .nil))))) .nil)))))
    .skip)))))
def d111 : Def := ⟨4, 7, c111⟩
def c131 : IX.S := (.seq (.ite (.bop .eq (.loc 0) (.cst (.str "under"))) (.seq (.ret (.bi .int (.cons (.bop .lt (.loc 1) (.loc 2)) .nil)))
    .skip) .skip)
    (.seq (.ite (.bop .eq (.loc 0) (.cst (.str "same"))) (.seq (.ret (.bi .int (.cons (.bop .eq (.loc 1) (.loc 2)) .nil)))
    .skip) .skip)
    (.seq (.ite (.bop .eq (.loc 0) (.cst (.str "part"))) (.seq (.ret (.ite (.bop .gt (.loc 2) (.cst (.int 0))) (.bop .fdiv (.loc 1) (.loc 2)) (.cst .non)))
    .skip) .skip)
    (.seq (.set 4 (.bop .mul (.loc 1) (.loc 2)))
    (.seq (.ite (.bop .ne (.loc 0) (.cst (.str "times"))) (.seq (.set 4 (.ite (.bop .eq (.loc 0) (.cst (.str "plus"))) (.bop .add (.loc 1) (.loc 2)) (.bop .sub (.loc 1) (.loc 2))))
    .skip) .skip)
    (.seq (.ret (.ite (.cmp2 .le .le (.cst (.int 0)) (.loc 4) (.loc 3)) (.loc 4) (.cst .non)))
    .skip))))))
def d131 : Def := ⟨4, 5, c131⟩
def c132 : IX.S := (.seq (.ite (.bop .eq (.idx (.loc 0) (.cst (.int 0))) (.cst (.str "number"))) (.seq (.ret (.idx (.loc 0) (.cst (.int 1))))
    .skip) .skip)
    (.seq (.ite (.bop .eq (.idx (.loc 0) (.cst (.int 0))) (.cst (.str "box"))) (.seq (.ret (.me .get (.loc 2) (.cons (.idx (.loc 0) (.cst (.int 1))) (.cons (.cst (.int 0)) .nil))))
    .skip) .skip)
    (.seq (.set 3 (.call 132 (.cons (.idx (.loc 0) (.cst (.int 1))) (.cons (.loc 1) (.cons (.loc 2) .nil)))))
    (.seq (.set 4 (.call 132 (.cons (.idx (.loc 0) (.cst (.int 2))) (.cons (.loc 1) (.cons (.loc 2) .nil)))))
    (.seq (.ite (.or (.bop .is_ (.loc 3) (.cst .non)) (.bop .is_ (.loc 4) (.cst .non))) (.seq (.ret (.cst .non))
    .skip) .skip)
    (.seq (.ret (.call 131 (.cons (.idx (.loc 0) (.cst (.int 0))) (.cons (.loc 3) (.cons (.loc 4) (.cons (.loc 1) .nil))))))
    .skip))))))
def d132 : Def := ⟨3, 5, c132⟩
def c133 : IX.S := (.seq (.ite (.bop .eq (.idx (.loc 0) (.cst (.int 0))) (.cst (.str "number"))) (.seq (.ret (.lst .nil))
    .skip) .skip)
    (.seq (.ret (.ite (.bop .eq (.idx (.loc 0) (.cst (.int 0))) (.cst (.str "box"))) (.lst (.cons (.idx (.loc 0) (.cst (.int 1))) .nil)) (.bop .add (.call 133 (.cons (.idx (.loc 0) (.cst (.int 1))) .nil)) (.call 133 (.cons (.idx (.loc 0) (.cst (.int 2))) .nil)))))
    .skip))
def d133 : Def := ⟨1, 1, c133⟩
def c134 : IX.S := (.seq (.ret (.bi .tuple (.cons (.bi .sortset (.cons (.call 133 (.cons (.loc 0) .nil)) .nil)) .nil)))
    .skip)
def d134 : Def := ⟨1, 1, c134⟩
def c135 : IX.S := (.seq (.ite (.bop .isin (.idx (.loc 0) (.cst (.int 0))) (.tup (.cons (.cst (.str "number")) (.cons (.cst (.str "box")) .nil)))) (.seq (.ret (.cst (.bl false)))
    .skip) .skip)
    (.seq (.ret (.or (.bop .isin (.idx (.loc 0) (.cst (.int 0))) (.cst (.tup [(.str "plus"), (.str "less"), (.str "times"), (.str "part")]))) (.or (.call 135 (.cons (.idx (.loc 0) (.cst (.int 1))) .nil)) (.call 135 (.cons (.idx (.loc 0) (.cst (.int 2))) .nil)))))
    .skip))
def d135 : Def := ⟨1, 1, c135⟩
def c136 : IX.S := (.seq (.ite (.bop .eq (.idx (.loc 0) (.cst (.int 0))) (.cst (.str "number"))) (.seq (.ret (.idx (.loc 0) (.cst (.int 1))))
    .skip) .skip)
    (.seq (.ite (.bop .eq (.idx (.loc 0) (.cst (.int 0))) (.cst (.str "box"))) (.seq (.ret (.me .get (.loc 2) (.cons (.idx (.loc 0) (.cst (.int 1))) (.cons (.cst (.int 0)) .nil))))
    .skip) .skip)
    (.seq (.unp [3, 4] (.tup (.cons (.call 136 (.cons (.idx (.loc 0) (.cst (.int 1))) (.cons (.loc 1) (.cons (.loc 2) .nil)))) (.cons (.call 136 (.cons (.idx (.loc 0) (.cst (.int 2))) (.cons (.loc 1) (.cons (.loc 2) .nil)))) .nil))))
    (.seq (.ite (.or (.bop .is_ (.loc 3) (.cst .non)) (.or (.bop .is_ (.loc 4) (.cst .non)) (.and (.bop .eq (.idx (.loc 0) (.cst (.int 0))) (.cst (.str "part"))) (.bop .eq (.loc 4) (.cst (.int 0)))))) (.seq (.ret (.cst .non))
    .skip) .skip)
    (.seq (.ite (.bop .isin (.idx (.loc 0) (.cst (.int 0))) (.tup (.cons (.cst (.str "under")) (.cons (.cst (.str "same")) .nil)))) (.seq (.ret (.ite (.bop .eq (.idx (.loc 0) (.cst (.int 0))) (.cst (.str "under"))) (.bi .int (.cons (.bop .lt (.loc 3) (.loc 4)) .nil)) (.bi .int (.cons (.bop .eq (.loc 3) (.loc 4)) .nil))))
    .skip) .skip)
    (.seq (.set 5 (.idx (.dic (.cons (.cst (.str "plus")) (.cons (.bop .add (.loc 3) (.loc 4)) (.cons (.cst (.str "less")) (.cons (.bop .sub (.loc 3) (.loc 4)) (.cons (.cst (.str "times")) (.cons (.bop .mul (.loc 3) (.loc 4)) (.cons (.cst (.str "part")) (.cons (.bop .fdiv (.loc 3) (.bi .max (.cons (.loc 4) (.cons (.cst (.int 1)) .nil)))) .nil))))))))) (.idx (.loc 0) (.cst (.int 0)))))
    (.seq (.ret (.ite (.cmp2 .le .le (.cst (.int 0)) (.loc 5) (.loc 1)) (.loc 5) (.cst .non)))
    .skip)))))))
def d136 : Def := ⟨3, 6, c136⟩
def c137 : IX.S := (.seq (.ite (.bop .isin (.idx (.loc 0) (.cst (.int 0))) (.tup (.cons (.cst (.str "box")) (.cons (.cst (.str "number")) .nil)))) (.seq (.ret (.ite (.bop .eq (.idx (.loc 0) (.cst (.int 0))) (.cst (.str "box"))) (.lst (.cons (.idx (.loc 0) (.cst (.int 1))) .nil)) (.lst .nil)))
    .skip) .skip)
    (.seq (.ret (.bop .add (.call 137 (.cons (.idx (.loc 0) (.cst (.int 1))) .nil)) (.call 137 (.cons (.idx (.loc 0) (.cst (.int 2))) .nil))))
    .skip))
def d137 : Def := ⟨1, 1, c137⟩
def c138 : IX.S := (.seq (.ite (.bop .isin (.idx (.loc 0) (.cst (.int 0))) (.tup (.cons (.cst (.str "box")) (.cons (.cst (.str "number")) .nil)))) (.seq (.ret (.cst (.bl false)))
    .skip) .skip)
    (.seq (.ret (.or (.bop .notin (.idx (.loc 0) (.cst (.int 0))) (.tup (.cons (.cst (.str "under")) (.cons (.cst (.str "same")) .nil)))) (.or (.call 138 (.cons (.idx (.loc 0) (.cst (.int 1))) .nil)) (.call 138 (.cons (.idx (.loc 0) (.cst (.int 2))) .nil)))))
    .skip))
def d138 : Def := ⟨1, 1, c138⟩
def c139 : IX.S := (.seq (.set 3 (.dic .nil))
    (.seq (.loop [4] false (.loc 2) (.seq (.set 5 (.call 110 (.cons (.loc 0) (.cons (.loc 1) .nil))))
    (.seq (.ite (.bop .gt (.call 106 (.cons (.loc 0) (.cons (.cst (.int 4)) .nil))) (.cst (.int 0))) (.seq (.seti (.loc 3) (.loc 4) (.loc 5))
    .skip) .skip)
    .skip)))
    (.seq (.ret (.loc 3))
    .skip)))
def d139 : Def := ⟨3, 6, c139⟩
def c140 : IX.S := (.seq (.set 3 (.bi .dict (.cons (.loc 2) .nil)))
    (.seq (.set 4 (.call 136 (.cons (.loc 0) (.cons (.loc 1) (.cons (.loc 2) .nil)))))
    (.seq (.set 5 (.call 132 (.cons (.loc 0) (.cons (.loc 1) (.cons (.loc 2) .nil)))))
    (.seq (.ite (.or (.bop .ne (.loc 5) (.loc 4)) (.or (.isi (.loc 5) [.bool]) (.bop .ne (.loc 2) (.loc 3)))) (.seq (.ret (.cst (.bl false)))
    .skip) .skip)
    (.seq (.ret (.or (.bop .isnot (.loc 4) (.cst .non)) (.call 135 (.cons (.loc 0) .nil))))
    .skip)))))
def d140 : Def := ⟨3, 6, c140⟩
def c141 : IX.S := (.seq (.set 2 (.call 105 (.cons (.loc 0) (.cons (.loc 1) .nil))))
    (.seq (.set 3 (.call 109 (.cons (.loc 2) .nil)))
    (.seq (.set 4 (.call 109 (.cons (.loc 2) .nil)))
    (.seq (.set 5 (.call 108 (.cons (.loc 2) (.cons (.cst (.int 4)) .nil))))
    (.seq (.set 6 (.call 111 (.cons (.loc 2) (.cons (.bi .min (.cons (.loc 3) (.cons (.loc 4) .nil))) (.cons (.slc (.loc 5) .nil (.cst (.int 3))) (.cons (.bop .add (.cst (.int 1)) (.call 106 (.cons (.loc 2) (.cons (.cst (.int 3)) .nil)))) .nil))))))
    (.seq (.set 7 (.call 106 (.cons (.loc 2) (.cons (.cst (.int 6)) .nil))))
    (.seq (.ite (.bop .eq (.loc 7) (.cst (.int 0))) (.seq (.set 6 (.tup (.cons (.cst (.str "times")) (.cons (.tup (.cons (.cst (.str "number")) (.cons (.cst (.int 0)) .nil))) (.cons (.tup (.cons (.cst (.str "part")) (.cons (.loc 6) (.cons (.tup (.cons (.cst (.str "number")) (.cons (.cst (.int 0)) .nil))) .nil)))) .nil)))))
    .skip) (.seq (.ite (.bop .eq (.loc 7) (.cst (.int 1))) (.seq (.set 6 (.tup (.cons (.cst (.str "under")) (.cons (.tup (.cons (.cst (.str "less")) (.cons (.tup (.cons (.cst (.str "number")) (.cons (.cst (.int 0)) .nil))) (.cons (.tup (.cons (.cst (.str "number")) (.cons (.cst (.int 1)) .nil))) .nil)))) (.cons (.loc 6) .nil)))))
    .skip) .skip)
    .skip))
    (.seq (.loop [8] false (.rng1 (.call 106 (.cons (.loc 2) (.cons (.cst (.int 3)) .nil)))) (.seq (.set 6 (.tup (.cons (.call 107 (.cons (.loc 2) (.cons (.lst (.cons (.cst (.str "plus")) (.cons (.cst (.str "less")) (.cons (.cst (.str "under")) (.cons (.cst (.str "same")) .nil))))) .nil))) (.cons (.loc 6) (.cons (.tup (.cons (.cst (.str "box")) (.cons (.call 107 (.cons (.loc 2) (.cons (.slc (.loc 5) .nil (.cst (.int 3))) .nil))) .nil))) .nil)))))
    .skip))
    (.seq (.set 9 (.bi .tuple (.cons (.bi .sortset (.cons (.call 137 (.cons (.loc 6) .nil)) .nil)) .nil)))
    (.seq (.ite (.or (.bop .ne (.call 134 (.cons (.loc 6) .nil)) (.loc 9)) (.not (.isi (.call 134 (.cons (.loc 6) .nil)) [.tuple]))) (.seq (.ret (.cst (.bl false)))
    .skip) .skip)
    (.seq (.ite (.or (.bop .ne (.call 135 (.cons (.loc 6) .nil)) (.call 138 (.cons (.loc 6) .nil))) (.not (.isi (.call 135 (.cons (.loc 6) .nil)) [.bool]))) (.seq (.ret (.cst (.bl false)))
    .skip) .skip)
    (.seq (.set 10 (.call 139 (.cons (.loc 2) (.cons (.bi .min (.cons (.loc 3) (.cons (.loc 4) .nil))) (.cons (.loc 5) .nil)))))
    (.seq (.loop [11] false (.tup (.cons (.loc 3) (.cons (.loc 4) (.cons (.loc 3) .nil)))) (.seq (.ite (.not (.call 140 (.cons (.loc 6) (.cons (.loc 11) (.cons (.loc 10) .nil))))) (.seq (.ret (.cst (.bl false)))
    .skip) .skip)
    .skip))
    (.seq (.set 12 (.bi .dict (.cons (.loc 10) .nil)))
    (.seq (.loop [13] false (.loc 5) (.seq (.ite (.bop .notin (.loc 13) (.loc 9)) (.seq (.seti (.loc 12) (.loc 13) (.call 110 (.cons (.loc 2) (.cons (.loc 3) .nil))))
    .skip) .skip)
    .skip))
    (.seq (.ite (.bop .ne (.call 132 (.cons (.loc 6) (.cons (.loc 3) (.cons (.loc 12) .nil)))) (.call 136 (.cons (.loc 6) (.cons (.loc 3) (.cons (.loc 10) .nil))))) (.seq (.ret (.cst (.bl false)))
    .skip) .skip)
    (.seq (.exp (.me .clear (.loc 10) .nil))
    (.seq (.ret (.call 140 (.cons (.loc 6) (.cons (.loc 3) (.cons (.loc 10) .nil)))))
    .skip))))))))))))))))))
def d141 : Def := ⟨2, 14, c141⟩
def c142 : IX.S := (.seq (.loop [1, 2] true (.enum (.slc (.bop .add (.loc 0) (.lst (.cons (.cst (.int 3)) .nil))) .nil (.bi .max (.cons (.cst (.int 1)) (.cons (.bi .min (.cons (.cst (.int 24)) (.cons (.bi .len (.cons (.loc 0) .nil)) .nil))) .nil))))) (.seq (.ite (.not (.call 141 (.cons (.loc 2) (.cons (.loc 1) .nil)))) (.seq (.ret (.cst (.bl false)))
    .skip) .skip)
    .skip))
    (.seq (.ret (.cst (.bl true)))
    .skip))
def d142 : Def := ⟨1, 3, c142⟩
end VX
end

section
set_option Elab.async false
set_option linter.all false
set_option maxRecDepth 100000
set_option maxHeartbeats 4000000
/-! LDraw: what the laws draw by. -/
namespace VX
open PySem IX
/-- the drawing list: c draws at most are behind -/
def Dr (v : V) (c : Nat) : Prop := ∃ x s k : Int, v = .lst true [.int x, .int s, .int k] ∧ 0 ≤ x ∧ 0 ≤ s ∧ s < 2147483648 ∧ 0 ≤ k ∧ k ≤ c
theorem Dr.mono {v : V} {c c' : Nat} (d : Dr v c) (h : c ≤ c') : Dr v c' := by
  obtain ⟨x, s, k, e, h1, h2, h3, h4, h5⟩ := d
  exact ⟨x, s, k, e, h1, h2, h3, h4, by omega⟩
theorem Dr.fz {v : V} {c : Nat} (d : Dr v c) : v.fz = false := by
  obtain ⟨x, s, k, e, _⟩ := d
  rw [e]; rfl
theorem mul_le {s m S M : Int} (h0 : 0 ≤ s) (h1 : s ≤ S) (h2 : 0 ≤ m) (h3 : m ≤ M) : 0 ≤ s * m ∧ s * m ≤ S * M := ⟨Int.mul_nonneg h0 h2, Int.mul_le_mul h1 h3 h2 (Int.le_trans h0 h1)⟩
class DrawT (T : Tbl) : Prop where
  begun : T.fn 105 = some d105
  next : T.fn 106 = some d106
  pick : T.fn 107 = some d107
  names : T.fn 108 = some d108
  top : T.fn 109 = some d109
  number : T.fn 110 = some d110
  term : T.fn 111 = some d111
section
variable {T : Tbl} {fr : Nat → Bool} {m c : Nat} {v : V} {z : Int}
theorem next_eq [L : DrawT T] (hm : 1 ≤ m) (d : Dr v c) (hc : c < 1000000) (hz : 0 < z) (hz2 : z ≤ 9223372036854775808) :
    ∃ (i : Int) (v' : V), 0 ≤ i ∧ i < z ∧ Dr v' (c + 1) ∧ callV T fr m 106 [v, .int z] = .ok (.int i) [some v', some (.int z)] := by
  obtain ⟨m, rfl⟩ : ∃ n, m = n + 1 := ⟨m - 1, by omega⟩
  obtain ⟨x, s, k, rfl, hx, hs, hs2, hk, hkc⟩ := d
  rw [call_def L.next rfl]
  have f1 : z < 2 ^ 1000 := Int.lt_of_le_of_lt hz2 (by decide +kernel)
  have f2 := fun a => bin_fdiv (a := a) ⟨hz, f1⟩
  have f3 := fun a => bin_mod (a := a) hz
  by_cases h0 : 0 < x
  · refine ⟨x % z, .lst true [.int (x / z), .int s, .int k], Int.emod_nonneg _ (by omega), Int.emod_lt_of_pos _ hz, ⟨x / z, s, k, rfl, Int.ediv_nonneg hx (by omega), hs, hs2, hk, by omega⟩, ?_⟩
    simp [d106, c106, startV, h0, f2, f3]
    rfl
  · have m1 := mul_le (s := s) (m := 2 * (k + 1) + 1) (S := 2147483648) (M := 2000003) hs (by omega) (by omega) (by omega)
    have m2 := mul_le (s := 7919 * (k + 1)) (m := k + 1) (S := 7919000000) (M := 1000000) (by omega) (by omega) (by omega) (by omega)
    have b1 : (s * (2 * (k + 1) + 1) + 7919 * (k + 1) * (k + 1) + 11).natAbs < 18446744073709551616 := by omega
    have p1 : binV .pow (.int (s * (2 * (k + 1) + 1) + 7919 * (k + 1) * (k + 1) + 11)) (.int 5) = some (.int ((s * (2 * (k + 1) + 1) + 7919 * (k + 1) * (k + 1) + 11) ^ 5)) := bin_powV rfl ⟨by decide, by decide, b1⟩
    have q1 : binV .mul (.int s) (.int (2 * (k + 1) + 1)) = some (.int (s * (2 * (k + 1) + 1))) := bin_mulI (.inl (by omega))
    have q2 : binV .mul (.int 2) (.int (k + 1)) = some (.int (2 * (k + 1))) := bin_mulI (.inl (by decide))
    have q3 : binV .mul (.int 7919) (.int (k + 1)) = some (.int (7919 * (k + 1))) := bin_mulI (.inl (by decide))
    have q4 : binV .mul (.int (7919 * (k + 1))) (.int (k + 1)) = some (.int (7919 * (k + 1) * (k + 1))) := bin_mulI (.inl (by omega))
    generalize hp : (s * (2 * (k + 1) + 1) + 7919 * (k + 1) * (k + 1) + 11) ^ 5 = p at p1
    refine ⟨p % 2147483647 / 11 % z, .lst true [.int x, .int s, .int (k + 1)], Int.emod_nonneg _ (by omega), Int.emod_lt_of_pos _ hz, ⟨x, s, k + 1, rfl, hx, hs, hs2, by omega, by omega⟩, ?_⟩
    have f4 := fun a => bin_mod (a := a) (b := 2147483647) (by decide)
    have f5 := fun a => bin_fdiv (a := a) (b := 11) ⟨by decide, by decide +kernel⟩
    simp [d106, c106, startV, h0, f2, f3, f4, f5, q1, q2, q3, q4, p1]
    rfl
theorem begun_eq [L : DrawT T] (hm : 1 ≤ m) {cell k : Int} (h0 : 0 ≤ k) (h1 : k ≤ 1000000) : ∃ v, Dr v 0 ∧ callV T fr m 105 [.int cell, .int k] = .ok v [some (.int cell), some (.int k)] := by
  obtain ⟨m, rfl⟩ : ∃ n, m = n + 1 := ⟨m - 1, by omega⟩
  rw [call_def L.begun rfl]
  have c0 := Int.emod_nonneg cell (b := 2147483647) (by decide)
  have c1 := Int.emod_lt_of_pos cell (b := 2147483647) (by decide)
  have q1 : binV .mul (.int (cell % 2147483647)) (.int 48271) = some (.int (cell % 2147483647 * 48271)) := bin_mulI (.inr (by decide))
  have q2 : binV .mul (.int 104729) (.int k) = some (.int (104729 * k)) := bin_mulI (.inl (by decide))
  have p1 : binV .pow (.int (cell % 2147483647 * 48271 + 104729 * k + 7)) (.int 3) = some (.int ((cell % 2147483647 * 48271 + 104729 * k + 7) ^ 3)) := bin_powV rfl ⟨by decide, by decide, by omega⟩
  generalize hp : (cell % 2147483647 * 48271 + 104729 * k + 7) ^ 3 = p at p1
  have s0 := Int.emod_nonneg p (b := 2147483629) (by decide)
  have s1 := Int.emod_lt_of_pos p (b := 2147483629) (by decide)
  have f4 := fun a => bin_mod (a := a) (b := 2147483647) (by decide)
  have f5 := fun a => bin_mod (a := a) (b := 2147483629) (by decide)
  by_cases hb : 1000000000000000000 ≤ cell
  · refine ⟨.lst true [.int (cell - 1000000000000000000), .int (1 + p % 2147483629), .int 0], ⟨_, _, _, rfl, by omega, by omega, by omega, by omega, by omega⟩, ?_⟩
    simp [d105, c105, startV, q1, q2, p1, f4, f5, hb]
    rfl
  · refine ⟨.lst true [.int 0, .int (1 + p % 2147483629), .int 0], ⟨_, _, _, rfl, by omega, by omega, by omega, by omega, by omega⟩, ?_⟩
    simp [d105, c105, startV, q1, q2, p1, f4, f5, hb]
    rfl
/-! picks -/
theorem pick_lst [L : DrawT T] (hm : 2 ≤ m) {xs : List V} {q : Bool} (d : Dr v c) (hc : c < 1000000) (h0 : xs ≠ []) (h1 : xs.length ≤ 16777216) (hf : V.fzL xs = true) :
    ∃ (i : Nat) (y : V) (v' : V), xs[i]? = some y ∧ Dr v' (c + 1) ∧ callV T fr m 107 [v, .lst q xs] = .ok y [some v', some (.lst q xs)] := by
  obtain ⟨m, rfl⟩ : ∃ n, m = n + 1 := ⟨m - 1, by omega⟩
  have l0 := List.length_pos_iff.mpr h0
  obtain ⟨i, v', i0, i1, d', e⟩ := next_eq (T := T) (fr := fr) (m := m) (by omega) d hc (z := (xs.length : Int)) (by omega) (by omega)
  obtain ⟨y, hy, e2⟩ := seqAt_in (xs := xs) i0 i1
  have yf : y.fz = true := by
    rw [fzL_all, List.all_eq_true] at hf
    exact hf y (List.mem_of_getElem? hy)
  refine ⟨i.toNat, y, v', hy, d', ?_⟩
  rw [call_def L.pick rfl]
  obtain ⟨K, hK⟩ : ∃ K, K = (xs.length : Int) := ⟨_, rfl⟩
  rw [← hK] at e
  have vf := d.fz
  have e3 : biV .len [.lst q xs] = some (.int K) := by rw [hK]; rfl
  simp [d107, c107, startV, vf, e, e2, e3, pick_fz yf, -bi_lenL]
  rfl
theorem pick_tup [L : DrawT T] (hm : 2 ≤ m) {xs : List V} (d : Dr v c) (hc : c < 1000000) (h0 : xs ≠ []) (h1 : xs.length ≤ 16777216) (hf : V.fzL xs = true) :
    ∃ (i : Nat) (y : V) (v' : V), xs[i]? = some y ∧ Dr v' (c + 1) ∧ callV T fr m 107 [v, .tup xs] = .ok y [some v', some (.tup xs)] := by
  obtain ⟨m, rfl⟩ : ∃ n, m = n + 1 := ⟨m - 1, by omega⟩
  have l0 := List.length_pos_iff.mpr h0
  obtain ⟨i, v', i0, i1, d', e⟩ := next_eq (T := T) (fr := fr) (m := m) (by omega) d hc (z := (xs.length : Int)) (by omega) (by omega)
  obtain ⟨y, hy, e2⟩ := seqAt_in (xs := xs) i0 i1
  have yf : y.fz = true := by
    rw [fzL_all, List.all_eq_true] at hf
    exact hf y (List.mem_of_getElem? hy)
  refine ⟨i.toNat, y, v', hy, d', ?_⟩
  rw [call_def L.pick rfl]
  obtain ⟨K, hK⟩ : ∃ K, K = (xs.length : Int) := ⟨_, rfl⟩
  rw [← hK] at e
  have vf := d.fz
  have e3 : biV .len [.tup xs] = some (.int K) := by rw [hK]; rfl
  simp [d107, c107, startV, vf, e, e2, e3, pick_fz yf, -bi_lenT]
  rfl
/-- out of a list that holds new things, too -/
theorem pick_new [L : DrawT T] (hm : 2 ≤ m) {xs : List V} (d : Dr v c) (hc : c < 1000000) (h0 : xs ≠ []) (h1 : xs.length ≤ 16777216) :
    ∃ (i : Nat) (y : V) (v' w : V), xs[i]? = some y ∧ Dr v' (c + 1) ∧ callV T fr m 107 [v, .lst true xs] = .ok y.freeze [some v', some w] := by
  obtain ⟨m, rfl⟩ : ∃ n, m = n + 1 := ⟨m - 1, by omega⟩
  have l0 := List.length_pos_iff.mpr h0
  obtain ⟨i, v', i0, i1, d', e⟩ := next_eq (T := T) (fr := fr) (m := m) (by omega) d hc (z := (xs.length : Int)) (by omega) (by omega)
  obtain ⟨y, hy, e2⟩ := seqAt_in (xs := xs) i0 i1
  cases yf : y.fz with
  | true =>
    refine ⟨i.toNat, y, v', .lst true xs, hy, d', ?_⟩
    rw [freeze_fz y yf, call_def L.pick rfl]
    obtain ⟨K, hK⟩ : ∃ K, K = (xs.length : Int) := ⟨_, rfl⟩
    rw [← hK] at e
    have vf := d.fz
    have e3 : biV .len [.lst true xs] = some (.int K) := by rw [hK]; rfl
    simp [d107, c107, startV, vf, e, e2, e3, pick_fz yf, -bi_lenL]
    rfl
  | false =>
    refine ⟨i.toNat, y, v', .lst true (xs.set i.toNat y.freeze), hy, d', ?_⟩
    rw [call_def L.pick rfl]
    obtain ⟨K, hK⟩ : ∃ K, K = (xs.length : Int) := ⟨_, rfl⟩
    rw [← hK] at e
    have vf := d.fz
    have e3 : biV .len [.lst true xs] = some (.int K) := by rw [hK]; rfl
    have e4 : kow true 1 [i.toNat] [some v', some (.lst true xs)] (some y) = .ok y.freeze [some v', some (.lst true (xs.set i.toNat y.freeze))] := by
      refine kow_frp yf ?_
      simp [hy, ksa2_some yf]
    simp [d107, c107, startV, vf, e, e2, e3, pick_ow yf, hy, e4, -bi_lenL]
    rfl
theorem top_eq [L : DrawT T] (hm : 3 ≤ m) (d : Dr v c) (hc : c < 900000) : ∃ (t : Int) (v' : V), 1 ≤ t ∧ t ≤ 1000000000 ∧ Dr v' (c + 2) ∧ callV T fr m 109 [v] = .ok (.int t) [some v'] := by
  obtain ⟨m, rfl⟩ : ∃ n, m = n + 1 := ⟨m - 1, by omega⟩
  obtain ⟨i, v1, i0, i1, d1, e1⟩ := next_eq (T := T) (fr := fr) (m := m) (by omega) d (by omega) (z := 1000) (by decide) (by decide)
  obtain ⟨k, y, v2, hy, d2, e2⟩ := pick_lst (T := T) (fr := fr) (m := m) (q := true) (by omega) d1 (by omega) (xs := [.int 3, .int 1, .int 2, .int 9, .int 2, .int 5, .int 1000000000, .int (3 + i)]) (by simp) (by simp) (by simp)
  have ht : ∃ t : Int, y = .int t ∧ 1 ≤ t ∧ t ≤ 1000000000 := by
    have := List.mem_of_getElem? hy
    simp only [List.mem_cons, List.mem_nil_iff, or_false] at this
    rcases this with rfl | rfl | rfl | rfl | rfl | rfl | rfl | rfl <;> exact ⟨_, rfl, by omega, by omega⟩
  obtain ⟨t, rfl, t0, t1⟩ := ht
  refine ⟨t, v2, t0, t1, d2, ?_⟩
  rw [call_def L.top rfl]
  have vf := d.fz
  have vf1 := d1.fz
  simp [d109, c109, startV, vf, vf1, e1, e2]
  rfl
theorem number_eq [L : DrawT T] (hm : 2 ≤ m) {top : Int} (d : Dr v c) (hc : c < 900000) (t0 : 0 ≤ top) : ∃ (i : Int) (v' : V), 0 ≤ i ∧ i ≤ top ∧ Dr v' (c + 2) ∧ callV T fr m 110 [v, .int top] = .ok (.int i) [some v', some (.int top)] := by
  obtain ⟨m, rfl⟩ : ∃ n, m = n + 1 := ⟨m - 1, by omega⟩
  obtain ⟨w, v1, w0, w1, d1, e1⟩ := next_eq (T := T) (fr := fr) (m := m) (by omega) d (by omega) (z := 4) (by decide) (by decide)
  obtain ⟨s, v2, s0, s1, d2, e2⟩ := next_eq (T := T) (fr := fr) (m := m) (by omega) d1 (by omega) (z := (if 5 < top then 5 else top) + 1) (by split <;> omega) (by split <;> omega)
  have st : s ≤ top := by split at s1 <;> omega
  have vf := d.fz
  have vf1 := d1.fz
  cases hw : (w == 0) with
  | true =>
    refine ⟨top - s, v2, by omega, by omega, d2, ?_⟩
    rw [call_def L.number rfl]
    simp [d110, c110, startV, vf, vf1, e1, e2, hw]
    rfl
  | false =>
    refine ⟨s, v2, s0, st, d2, ?_⟩
    rw [call_def L.number rfl]
    simp [d110, c110, startV, vf, vf1, e1, e2, hw]
    rfl
end
/-! terms -/
inductive Tm where
  | num (i : Int) | box (s : Str) | op (w : Str) (a b : Tm)
def Tm.v : Tm → V
  | .num i => .tup [.str "number", .int i]
  | .box s => .tup [.str "box", .str s]
  | .op w a b => .tup [.str w, a.v, b.v]
@[simp] theorem Tm.fz : ∀ t : Tm, t.v.fz = true
  | .num i => rfl
  | .box s => rfl
  | .op w a b => by show ((V.str w).fz && (a.v.fz && (b.v.fz && true))) = true; rw [Tm.fz a, Tm.fz b]; rfl
def words6 : List Str := ["plus", "less", "times", "part", "under", "same"]
/-- a term of worths up to top, of some names, so deep at most -/
def Tm.ok (top : Int) (N : Str → Prop) : Nat → Tm → Prop
  | _, .num i => 0 ≤ i ∧ i ≤ top
  | _, .box s => N s
  | 0, .op _ _ _ => False
  | d + 1, .op w a b => w ∈ words6 ∧ Tm.ok top N d a ∧ Tm.ok top N d b
def tdraws : Nat → Nat
  | 0 => 3
  | d + 1 => 2 + 2 * tdraws d
theorem tdraws_ge (d : Nat) : 3 ≤ tdraws d := by
  cases d with
  | zero => exact Nat.le_refl _
  | succ d => have := tdraws_ge d; show 3 ≤ 2 + 2 * tdraws d; omega
section
variable {T : Tbl} {fr : Nat → Bool}
theorem term_leaf [L : DrawT T] {top : Int} {ns : List Str} {q : Bool} (t0 : 0 ≤ top) (hn : ns ≠ []) (hl : ns.length ≤ 16777216) (dp : Nat) {v v1 : V} {c m : Nat} {w : Int} (hm : 2 ≤ m) (d1 : Dr v1 (c + 1)) (vf : v.fz = false) (hc : c + 3 < 800000) (hw : ((dp : Int) == 0 || decide (w < 4)) = true)
    (e1 : callV T fr m 106 [v, .int 7] = .ok (.int w) [some v1, some (.int 7)]) :
      ∃ (t : Tm) (v' : V), t.ok top (· ∈ ns) dp ∧ Dr v' (c + 3) ∧ callV T fr (m + 1) 111 [v, .int top, .lst q (ns.map V.str), .int (dp : Int)] = .ok t.v [some v', some (.int top), some (.lst q (ns.map V.str)), some (.int (dp : Int))] := by
  have vf1 := d1.fz
  have m2 : binV .mod (.int w) (.int 2) = some (.int (w % 2)) := bin_mod (by decide)
  have nf : V.fzL (ns.map V.str) = true := by rw [fzL_all]; simp
  generalize (dp : Int) = D at hw ⊢
  cases h2 : (w % 2 == 0) with
  | true =>
    obtain ⟨k, y, v2, hy, d2, e2⟩ := pick_lst (T := T) (fr := fr) (m := m) (q := q) hm d1 (by omega) (xs := ns.map V.str) (by simpa using hn) (by simpa using hl) nf
    rw [List.getElem?_map] at hy
    obtain ⟨s, hs, rfl⟩ := Option.map_eq_some_iff.mp hy
    refine ⟨.box s, v2, ?_, d2.mono (by omega), ?_⟩
    · have := List.mem_of_getElem? hs
      cases dp <;> exact this
    · rw [call_def L.term rfl]
      cases hD : (D == 0) with
      | true => cases q <;> (simp [d111, c111, startV, vf, vf1, e1, e2, m2, h2, Tm.v, hD, nf]; rfl)
      | false =>
        rw [hD] at hw
        have hw' : w < 4 := by simpa using hw
        cases q <;> (simp [d111, c111, startV, vf, vf1, e1, e2, m2, h2, Tm.v, hD, hw', nf]; rfl)
  | false =>
    obtain ⟨i, v2, i0, i1, d2, e2⟩ := number_eq (T := T) (fr := fr) (m := m) hm d1 (by omega) t0
    refine ⟨.num i, v2, ?_, d2.mono (by omega), ?_⟩
    · cases dp <;> exact ⟨i0, i1⟩
    · rw [call_def L.term rfl]
      cases hD : (D == 0) with
      | true => cases q <;> (simp [d111, c111, startV, vf, vf1, e1, e2, m2, h2, Tm.v, hD, nf]; rfl)
      | false =>
        rw [hD] at hw
        have hw' : w < 4 := by simpa using hw
        cases q <;> (simp [d111, c111, startV, vf, vf1, e1, e2, m2, h2, Tm.v, hD, hw', nf]; rfl)
theorem term_eq [L : DrawT T] {top : Int} {ns : List Str} {q : Bool} (t0 : 0 ≤ top) (hn : ns ≠ []) (hl : ns.length ≤ 16777216) : ∀ (dp : Nat) {v : V} {c m : Nat}, dp + 3 ≤ m → Dr v c → c + tdraws dp < 800000 →
    ∃ (t : Tm) (v' : V), t.ok top (· ∈ ns) dp ∧ Dr v' (c + tdraws dp) ∧ callV T fr m 111 [v, .int top, .lst q (ns.map V.str), .int (dp : Int)] = .ok t.v [some v', some (.int top), some (.lst q (ns.map V.str)), some (.int (dp : Int))]
  | 0, v, c, m, hm, d, hc => by
    obtain ⟨m, rfl⟩ : ∃ n, m = n + 1 := ⟨m - 1, by omega⟩
    have hc' : c + 3 < 800000 := hc
    obtain ⟨w, v1, w0, w1, d1, e1⟩ := next_eq (T := T) (fr := fr) (m := m) (by omega) d (by omega) (z := 7) (by decide) (by decide)
    exact term_leaf t0 hn hl 0 (by omega) d1 d.fz hc' rfl e1
  | dp + 1, v, c, m, hm, d, hc => by
    obtain ⟨m, rfl⟩ : ∃ n, m = n + 1 := ⟨m - 1, by omega⟩
    have hc' : c + (2 + 2 * tdraws dp) < 800000 := hc
    have g3 := tdraws_ge dp
    obtain ⟨w, v1, w0, w1, d1, e1⟩ := next_eq (T := T) (fr := fr) (m := m) (by omega) d (by omega) (z := 7) (by decide) (by decide)
    by_cases hw : w < 4
    · obtain ⟨t, v', h1, h2, h3⟩ := term_leaf (fr := fr) (q := q) (m := m) (c := c) t0 hn hl (dp + 1) (by omega) d1 d.fz (by omega) (by simp [hw]) e1
      exact ⟨t, v', h1, h2.mono (by show c + 3 ≤ c + (2 + 2 * tdraws dp); omega), h3⟩
    · obtain ⟨k, y, v2, hy, d2, e2⟩ := pick_lst (T := T) (fr := fr) (m := m) (q := true) (by omega) d1 (by omega) (xs := [.str "plus", .str "less", .str "times", .str "part", .str "under", .str "same", .str "plus", .str "under"]) (by simp) (by simp) (by simp)
      have hy' : ∃ s, y = .str s ∧ s ∈ words6 := by
        have := List.mem_of_getElem? hy
        simp only [List.mem_cons, List.mem_nil_iff, or_false] at this
        rcases this with rfl | rfl | rfl | rfl | rfl | rfl | rfl | rfl <;> exact ⟨_, rfl, by decide +kernel⟩
      obtain ⟨s, rfl, hs⟩ := hy'
      obtain ⟨ta, v3, oa, d3, e3⟩ := term_eq (q := q) (m := m) t0 hn hl dp (by omega) d2 (by omega)
      obtain ⟨tb, v4, ob, d4, e4⟩ := term_eq (q := q) (m := m) t0 hn hl dp (by omega) d3 (by omega)
      refine ⟨.op s ta tb, v4, ⟨hs, oa, ob⟩, d4.mono (by show _ ≤ c + (2 + 2 * tdraws dp); omega), ?_⟩
      have nf : V.fzL (ns.map V.str) = true := by rw [fzL_all]; simp
      have vf := d.fz
      have vf1 := d1.fz
      have vf2 := d2.fz
      have vf3 := d3.fz
      obtain ⟨D, hD⟩ : ∃ D : Int, D = (dp : Int) := ⟨_, rfl⟩
      have hD1 : ((dp + 1 : Nat) : Int) = D + 1 := by omega
      have hD2 : D + 1 - 1 = D := by omega
      have hD3 : (D + 1 == 0) = false := by
        have : D + 1 ≠ 0 := by omega
        simpa using this
      rw [← hD] at e3 e4
      rw [hD1, call_def L.term rfl]
      cases q <;> (simp [d111, c111, startV, vf, vf1, vf2, vf3, e1, e2, e3, e4, hw, Tm.v, hD2, hD3, nf]; rfl)
end
end VX
end

section
set_option Elab.async false
set_option linter.all false
set_option maxRecDepth 100000
set_option maxHeartbeats 4000000
/-! LName: drawn names. -/
namespace VX
open PySem IX
/-- a letter's text -/
def ltr (i : Nat) : Str := ⟨#[97 + i]⟩
inductive Tail : Str → Prop
  | x : Tail "x" | e : Tail "" | q2 : Tail "qxqx" | c (i : Nat) : i < 26 → Tail (ltr i ++ "xx") | q3 : Tail "qxqxq"
def nm (lead : Nat) (tail : Str) (k : Nat) : Str := ltr ((lead + 5 * k) % 26) ++ tail
theorem rangeV_eq : ∀ (n : Nat) (lo : Int), rangeV lo n = (List.range n).map fun (k : Nat) => V.int (lo + k)
  | 0, lo => rfl
  | n + 1, lo => by
    show V.int lo :: rangeV (lo + 1) n = _
    rw [rangeV_eq n, List.range_succ_eq_map, List.map_cons, List.map_map]
    congr 1
    · congr 1; simp
    · refine List.map_congr_left fun k _ => ?_
      show V.int (lo + 1 + k) = V.int (lo + ((k + 1 : Nat) : Int))
      congr 1; push_cast; omega
theorem letters_at : ∀ i : Fin 26, L2.atI ("abcdefghijklmnopqrstuvwxyz" : Str).cps.toList (i.val : Int) = some (97 + i.val) := by decide +kernel
theorem letter_at {a : Int} (h0 : 0 ≤ a) (h1 : a < 26) : L2.atI ("abcdefghijklmnopqrstuvwxyz" : Str).cps.toList a = some (97 + a.toNat) := by
  have := letters_at ⟨a.toNat, by omega⟩
  dsimp only at this
  rw [Int.toNat_of_nonneg h0] at this
  exact this
theorem tail_len {t : Str} (h : Tail t) : t.length ≤ 5 := by
  cases h with
  | c i hi => rw [PySem.Str.length_append]; show 1 + ("xx" : Str).length ≤ 5; decide +kernel
  | _ => decide +kernel
theorem nm_len {l k : Nat} {t : Str} (h : Tail t) : (nm l t k).length ≤ 6 := by
  have := tail_len h
  unfold nm
  rw [PySem.Str.length_append]
  show 1 + t.length ≤ 6
  omega
theorem small_nat {n : Nat} (h : n < 4611686018427387904) : small (n : Int) = true := by
  unfold small
  rw [Bool.and_eq_true]
  exact ⟨decide_eq_true (by omega), decide_eq_true (by omega)⟩
section
variable {T : Tbl} {fr : Nat → Bool} {m c : Nat} {v : V}
theorem names_eq [L : DrawT T] (hm : 3 ≤ m) (d : Dr v c) (hc : c < 900000) {k : Nat} (hk : k ≤ 100) :
    ∃ (lead : Nat) (tail : Str) (v' : V), lead < 26 ∧ Tail tail ∧ Dr v' (c + 3) ∧ callV T fr m 108 [v, .int (k : Int)] = .ok (.lst true ((List.range k).map fun j => .str (nm lead tail j))) [some v', some (.int (k : Int))] := by
  obtain ⟨m, rfl⟩ : ∃ n, m = n + 1 := ⟨m - 1, by omega⟩
  obtain ⟨i, v1, i0, i1, d1, e1⟩ := next_eq (T := T) (fr := fr) (m := m) (by omega) d (by omega) (z := 26) (by decide) (by decide)
  obtain ⟨w, v2, w0, w1, d2, e2⟩ := next_eq (T := T) (fr := fr) (m := m) (by omega) d1 (by omega) (z := 26) (by decide) (by decide)
  have hx : binV .add (.str ⟨#[97 + w.toNat]⟩) (.str "xx") = some (.str (ltr w.toNat ++ "xx")) := bin_addS (by show 1 + ("xx" : Str).length ≤ _; decide +kernel)
  obtain ⟨j, y, v3, hy, d3, e3⟩ := pick_lst (T := T) (fr := fr) (m := m) (q := true) (by omega) d2 (by omega) (xs := [.str "x", .str "", .str "qxqx", .str (ltr w.toNat ++ "xx"), .str "qxqxq"]) (by simp) (by simp) (by simp)
  have hy' : ∃ t, y = .str t ∧ Tail t := by
    have := List.mem_of_getElem? hy
    simp only [List.mem_cons, List.mem_nil_iff, or_false] at this
    rcases this with rfl | rfl | rfl | rfl | rfl
    · exact ⟨_, rfl, .x⟩
    · exact ⟨_, rfl, .e⟩
    · exact ⟨_, rfl, .q2⟩
    · exact ⟨_, rfl, .c _ (by omega)⟩
    · exact ⟨_, rfl, .q3⟩
  obtain ⟨t, rfl, ht⟩ := hy'
  refine ⟨i.toNat, t, v3, by omega, ht, d3, ?_⟩
  have vf := d.fz
  have vf1 := d1.fz
  have vf2 := d2.fz
  have tl := tail_len ht
  have sk := small_nat (n := k) (by omega)
  have nl : (rangeV 0 k).length ≤ 16777216 := by rw [rangeV_eq, List.length_map, List.length_range]; omega
  obtain ⟨A, hA⟩ : ∃ A : Str, A = "abcdefghijklmnopqrstuvwxyz" := ⟨_, rfl⟩
  have lat : ∀ {a : Int}, 0 ≤ a → a < 26 → L2.atI A.cps.toList a = some (97 + a.toNat) := fun h0 h1 => by rw [hA]; exact letter_at h0 h1
  have a2 := lat w0 w1
  have tr : turnsV (lcV ⟨callV T fr m, T.meth, T.init, fr⟩ (.bop .add (.idx (.loc 2) (.bop .mod (.bop .add (.loc 3) (.bop .mul (.cst (.int 5)) (.loc 5))) (.cst (.int 26)))) (.loc 4)) [5] false .nil) (rangeV 0 k)
      [some v3, some (.int (k : Int)), some (.str A), some (.int i), some (.str t), none] = .ok ((List.range k).map fun j => .str (nm i.toNat t j)) [some v3, some (.int (k : Int)), some (.str A), some (.int i), some (.str t), none] := by
    rw [rangeV_eq]
    have key : ∀ x ∈ (List.range k).map (fun (j : Nat) => V.int (0 + (j : Int))), ∃ j : Nat, j < k ∧ x = .int (j : Int) := fun x hx => by
      obtain ⟨j, hj, rfl⟩ := List.mem_map.mp hx
      exact ⟨j, List.mem_range.mp hj, by simp⟩
    rw [turns_map (fun x => match x with | .int j => .str (nm i.toNat t j.toNat) | _ => .non) (fun x hx => ?_), List.map_map]
    · refine congrArg (fun z => RV.ok z _) (List.map_congr_left fun j _ => ?_)
      have ej : (0 + (j : Int)).toNat = j := by omega
      show V.str (nm i.toNat t (0 + (j : Int)).toNat) = _
      rw [ej]
    · obtain ⟨j, hj, rfl⟩ := key x hx
      generalize hJ : (j : Int) = J
      have m5 : binV .mul (.int 5) (.int J) = some (.int (5 * J)) := bin_mulI (.inl (by decide))
      have md : binV .mod (.int (i + 5 * J)) (.int 26) = some (.int ((i + 5 * J) % 26)) := bin_mod (by decide)
      have at_ := lat (a := (i + 5 * J) % 26) (Int.emod_nonneg _ (by decide)) (Int.emod_lt_of_pos _ (by decide))
      have ad : binV .add (.str ⟨#[97 + ((i + 5 * J) % 26).toNat]⟩) (.str t) = some (.str (nm i.toNat t J.toNat)) := by
        have ej : ((i + 5 * J) % 26).toNat = (i.toNat + 5 * J.toNat) % 26 := by omega
        rw [ej]
        exact bin_addS (by show 1 + t.length ≤ _; omega)
      simp [m5, md, at_, ad]
  have body : c108 = .seq (.set 2 (.cst (.str A))) (match c108 with | .seq _ b => b | _ => .skip) := by rw [hA]; rfl
  rw [call_def L.names rfl]
  show leaveV d108 (exV _ c108 _) = _
  rw [body]
  simp [c108, startV, vf, vf1, vf2, e1, e2, e3, a2, hx, kr2_ok sk, nl, tr, d108]
  rfl
end
end VX
end

section
set_option Elab.async false
set_option linter.all false
set_option maxRecDepth 100000
set_option maxHeartbeats 8000000
/-! K03a: what a term is worth: the program's reckoning and the law's. -/
namespace VX
open PySem IX
class K03T (T : Tbl) : Prop extends DrawT T where
  reckoned : T.fn 131 = some d131
  worth : T.fn 132 = some d132
  namesIn : T.fn 133 = some d133
  asked : T.fn 134 = some d134
  mayFail : T.fn 135 = some d135
  lawWorth : T.fn 136 = some d136
  lawNames : T.fn 137 = some d137
  lawMay : T.fn 138 = some d138
  boxes : T.fn 139 = some d139
  told : T.fn 140 = some d140
  right : T.fn 141 = some d141
  law : T.fn 142 = some d142
/-! ### boxes -/
def pl (s : Str) : List Str → Option Nat
  | [] => none
  | k :: r => if k = s then some 0 else (pl s r).map (· + 1)
theorem place_strs (s : Str) : ∀ ks : List Str, placeV (.str s) (ks.map V.str) = pl s ks
  | [] => rfl
  | k :: r => by
    show (if keyV (.str k) = keyV (.str s) then some 0 else (placeV (.str s) (r.map V.str)).map (· + 1)) = if k = s then some 0 else (pl s r).map (· + 1)
    rw [place_strs s r]
    have e : (keyV (.str k) = keyV (.str s)) = (k = s) := by
      show (some (Sum.inr k : L2.Key) = some (Sum.inr s)) = (k = s)
      simp
    simp only [e]
theorem pl_lt {s : Str} : ∀ {ks : List Str} {j : Nat}, pl s ks = some j → ks[j]? = some s
  | [], j, e => by cases e
  | k :: r, j, e => by
    unfold pl at e
    by_cases c : k = s
    · rw [if_pos c] at e; cases e; rw [c]; rfl
    · rw [if_neg c] at e
      cases q : pl s r with
      | none => rw [q] at e; cases e
      | some i =>
        rw [q] at e; cases e
        show r[i]? = some s
        exact pl_lt q
theorem pl_none {s : Str} : ∀ {ks : List Str}, pl s ks = none → s ∉ ks
  | [], _ => by simp
  | k :: r, e => by
    unfold pl at e
    by_cases c : k = s
    · rw [if_pos c] at e; cases e
    · rw [if_neg c] at e
      cases q : pl s r with
      | none =>
        rw [List.mem_cons, not_or]
        exact ⟨fun z => c z.symm, pl_none q⟩
      | some i => rw [q] at e; cases e
theorem pl_snoc {s t : Str} : ∀ {ks : List Str}, pl t ks = none → pl s (ks ++ [t]) = match pl s ks with
    | some j => some j
    | none => if t = s then some ks.length else none
  | [], e => by
    show (if t = s then some 0 else none) = if t = s then some 0 else none
    rfl
  | k :: r, e => by
    unfold pl at e
    by_cases c0 : k = t
    · rw [if_pos c0] at e; cases e
    rw [if_neg c0] at e
    have e2 : pl t r = none := by
      cases q : pl t r with
      | none => rfl
      | some i => rw [q] at e; cases e
    show (if k = s then some 0 else (pl s (r ++ [t])).map (· + 1)) = _
    rw [pl_snoc e2]
    show _ = match (if k = s then some 0 else (pl s r).map (· + 1)) with
      | some j => some j
      | none => if t = s then some (r.length + 1) else none
    by_cases c : k = s
    · rw [if_pos c, if_pos c]
    · rw [if_neg c, if_neg c]
      cases pl s r with
      | some j => rfl
      | none =>
        by_cases c2 : t = s
        · simp [c2]
        · simp [c2]
/-- what stands in a box -/
def gB (ks : List Str) (vs : List Int) (s : Str) : Int := match pl s ks with
  | some j => (vs[j]?).getD 0
  | none => 0
abbrev bx (q : Bool) (ks : List Str) (vs : List Int) : V := .dic q (ks.map V.str) (vs.map V.int)
theorem get_bx {q : Bool} {ks : List Str} {vs : List Int} (hl : ks.length = vs.length) (s : Str) : meV .get (bx q ks vs) [.str s, .int 0] = some (.int (gB ks vs s), none) := by
  show (if (keyV (.str s)).isSome = true then match placeV (.str s) (ks.map V.str) with
      | some j => match (vs.map V.int)[j]? with
        | some v => if v.fz = true then some (v, none) else none
        | none => none
      | none => if (V.int 0).fz = true then some (V.int 0, none) else none
    else none) = _
  rw [if_pos (show (keyV (.str s)).isSome = true from rfl), place_strs]
  unfold gB
  cases q : pl s ks with
  | none => rfl
  | some j =>
    have l := (List.getElem?_eq_some_iff.mp (pl_lt q)).1
    dsimp only
    rw [List.getElem?_map, List.getElem?_eq_getElem (by omega)]
    rfl
/-- a box is filled -/
def putB (ks : List Str) (vs : List Int) (s : Str) (i : Int) : List Str × List Int := match pl s ks with
  | some j => (ks, vs.set j i)
  | none => (ks ++ [s], vs ++ [i])
theorem seti_bx {ks : List Str} {vs : List Int} (hl : ks.length < 16777216) {s : Str} {i : Int} : setiV (bx true ks vs) (.str s) (.int i) = some (bx true (putB ks vs s i).1 (putB ks vs s i).2) := by
  show (if (keyV (.str s)).isSome = true ∧ (ks.map V.str).length < 16777216 ∧ (V.str s).fz = true then match placeV (.str s) (ks.map V.str) with
      | some j => some (V.dic true (ks.map V.str) ((vs.map V.int).set j (.int i)))
      | none => some (.dic true (ks.map V.str ++ [.str s]) (vs.map V.int ++ [.int i]))
    else none) = _
  rw [if_pos ⟨rfl, by rw [List.length_map]; exact hl, rfl⟩, place_strs]
  unfold putB
  cases q : pl s ks with
  | none => simp
  | some j => simp [List.map_set]
/-- boxes: each name once, numbers up to top -/
structure Bxs (top : Int) (ks : List Str) (vs : List Int) : Prop where
  len : ks.length = vs.length
  nd : ks.Nodup
  rng : ∀ i ∈ vs, 0 ≤ i ∧ i ≤ top
theorem Bxs.nil {top : Int} : Bxs top [] [] := ⟨rfl, List.nodup_nil, fun _ h => nomatch h⟩
theorem Bxs.mono {t t' : Int} {ks : List Str} {vs : List Int} (b : Bxs t ks vs) (h : t ≤ t') : Bxs t' ks vs := ⟨b.len, b.nd, fun i hi => ⟨(b.rng i hi).1, Int.le_trans (b.rng i hi).2 h⟩⟩
theorem Bxs.gB {top : Int} {ks : List Str} {vs : List Int} (b : Bxs top ks vs) (t0 : 0 ≤ top) (s : Str) : 0 ≤ gB ks vs s ∧ gB ks vs s ≤ top := by
  unfold VX.gB
  cases q : pl s ks with
  | none => exact ⟨Int.le_refl _, t0⟩
  | some j =>
    have l := (List.getElem?_eq_some_iff.mp (pl_lt q)).1
    have l2 : j < vs.length := by rw [← b.len]; exact l
    dsimp only
    rw [List.getElem?_eq_getElem l2]
    exact b.rng _ (List.getElem_mem l2)
theorem Bxs.put {top : Int} {ks : List Str} {vs : List Int} (b : Bxs top ks vs) {s : Str} {i : Int} (h0 : 0 ≤ i) (h1 : i ≤ top) : Bxs top (putB ks vs s i).1 (putB ks vs s i).2 := by
  unfold putB
  cases q : pl s ks with
  | none =>
    refine ⟨by simp [b.len], ?_, fun x hx => ?_⟩
    · rw [List.nodup_append]
      exact ⟨b.nd, by simp, fun a ha c hc => by
        rw [List.mem_singleton] at hc
        subst hc
        exact fun z => pl_none q (z ▸ ha)⟩
    · rcases List.mem_append.mp hx with h | h
      · exact b.rng x h
      · rw [List.mem_singleton] at h; subst h; exact ⟨h0, h1⟩
  | some j =>
    refine ⟨by simp [b.len], b.nd, fun x hx => ?_⟩
    rcases List.mem_or_eq_of_mem_set hx with h | h
    · exact b.rng x h
    · subst h; exact ⟨h0, h1⟩
theorem gB_put {top : Int} {ks : List Str} {vs : List Int} (b : Bxs top ks vs) {s t : Str} {i : Int} (h : t ≠ s) : gB (putB ks vs t i).1 (putB ks vs t i).2 s = gB ks vs s := by
  unfold putB
  cases q : pl t ks with
  | none =>
    dsimp only
    unfold gB
    rw [pl_snoc q]
    cases q2 : pl s ks with
    | none => dsimp only; rw [if_neg h]
    | some j =>
      have l := (List.getElem?_eq_some_iff.mp (pl_lt q2)).1
      dsimp only
      rw [List.getElem?_append_left (by rw [← b.len]; exact l)]
  | some j =>
    dsimp only
    unfold gB
    cases q2 : pl s ks with
    | none => rfl
    | some k =>
      dsimp only
      have ne : j ≠ k := by
        rintro rfl
        have e1 := pl_lt q
        have e2 := pl_lt q2
        rw [e1] at e2
        exact h (Option.some.inj e2)
      rw [List.getElem?_set_ne ne]
theorem len_put (ks : List Str) (vs : List Int) (s : Str) (i : Int) : (putB ks vs s i).1.length ≤ ks.length + 1 := by
  unfold putB
  cases pl s ks <;> simp
/-- boxes beside themselves -/
theorem ne_bx {top : Int} {ks : List Str} {vs : List Int} (b : Bxs top ks vs) {p q : Bool} : neV (bx p ks vs) (bx q ks vs) = some false := by
  have key : ∀ (d : Nat), eqKVV (ks.map V.str) (vs.map V.int) ((ks.drop d).map V.str) ((vs.drop d).map V.int) = some true := by
    intro d
    obtain ⟨n, hn⟩ : ∃ n, n = ks.length - d := ⟨_, rfl⟩
    induction n generalizing d with
    | zero =>
      have := b.len
      rw [List.drop_eq_nil_of_le (by omega), List.drop_eq_nil_of_le (by omega)]; rfl
    | succ n ih =>
      have hl := b.len
      have l1 : d < ks.length := by omega
      have l2 : d < vs.length := by omega
      rw [List.drop_eq_getElem_cons l1, List.drop_eq_getElem_cons l2, List.map_cons, List.map_cons]
      show (match placeV (.str ks[d]) (ks.map V.str) with
        | none => some false
        | some j => match (vs.map V.int)[j]? with
          | none => none
          | some w => match eqV deep (.int vs[d]) w, eqKVV (ks.map V.str) (vs.map V.int) ((ks.drop (d + 1)).map V.str) ((vs.drop (d + 1)).map V.int) with
            | some a, some b => some (a && b)
            | _, _ => none) = some true
      rw [place_strs, ih (d + 1) (by omega)]
      cases q : pl ks[d] ks with
      | none => exact absurd (List.getElem_mem l1) (pl_none q)
      | some j =>
        have e1 := pl_lt q
        obtain ⟨lj, e2⟩ := List.getElem?_eq_some_iff.mp e1
        have ej : j = d := by
          have pw := List.pairwise_iff_getElem.mp b.nd
          rcases Nat.lt_trichotomy j d with h | h | h
          · exact absurd e2 (pw j d lj l1 h)
          · exact h
          · exact absurd e2.symm (pw d j l1 lj h)
        subst ej
        dsimp only
        rw [List.getElem?_map, List.getElem?_eq_getElem l2]
        show (match some (vs[j] == vs[j]), some true with
            | some a, some b => some (a && b)
            | _, _ => none) = some true
        rw [beq_self_eq_true]; rfl
  show (if (ks.map V.str).length = (ks.map V.str).length then eqKVV (ks.map V.str) (vs.map V.int) (ks.map V.str) (vs.map V.int) else some false).map (!·) = some false
  rw [if_pos rfl]
  have k0 := key 0
  rw [List.drop_zero, List.drop_zero] at k0
  rw [k0]; rfl
/-! ### worth -/
def oi : Option Int → V
  | some i => .int i
  | none => .non
def opW (w : Str) (top x y : Int) : Option Int :=
  if w = "under" then some (if x < y then 1 else 0) else if w = "same" then some (if x = y then 1 else 0)
  else if w = "part" then (if 0 < y then some (x / y) else none)
  else if w = "times" then (if 0 ≤ x * y ∧ x * y ≤ top then some (x * y) else none)
  else if w = "plus" then (if 0 ≤ x + y ∧ x + y ≤ top then some (x + y) else none)
  else (if 0 ≤ x - y ∧ x - y ≤ top then some (x - y) else none)
def wth (top : Int) (B : Str → Int) : Tm → Option Int
  | .num i => some i
  | .box s => some (B s)
  | .op w a b => match wth top B a, wth top B b with
    | some x, some y => opW w top x y
    | _, _ => none
def Tm.deep : Tm → Nat
  | .op _ a b => max a.deep b.deep + 1
  | _ => 0
/-- numbers up to top, the six words -/
def Tm.rng (top : Int) : Tm → Prop
  | .num i => 0 ≤ i ∧ i ≤ top
  | .box _ => True
  | .op w a b => w ∈ words6 ∧ a.rng top ∧ b.rng top
theorem Tm.rng_mono {t t' : Int} (h : t ≤ t') : ∀ {e : Tm}, e.rng t → e.rng t'
  | .num i, z => ⟨z.1, Int.le_trans z.2 h⟩
  | .box _, _ => True.intro
  | .op w a b, z => ⟨z.1, Tm.rng_mono h z.2.1, Tm.rng_mono h z.2.2⟩
theorem Tm.ok_rng {top : Int} {N : Str → Prop} : ∀ {d : Nat} {t : Tm}, t.ok top N d → t.rng top ∧ t.deep ≤ d
  | d, .num i, h => ⟨by cases d <;> exact h, Nat.zero_le _⟩
  | d, .box s, h => ⟨True.intro, Nat.zero_le _⟩
  | 0, .op w a b, h => h.elim
  | d + 1, .op w a b, h => by
    obtain ⟨h1, h2, h3⟩ := h
    have e2 := Tm.ok_rng h2
    have e3 := Tm.ok_rng h3
    refine ⟨⟨h1, e2.1, e3.1⟩, ?_⟩
    show max a.deep b.deep + 1 ≤ d + 1
    omega
theorem opW_rng {w : Str} {top x y z : Int} (t0 : 1 ≤ top) (x0 : 0 ≤ x) (x1 : x ≤ top) (e : opW w top x y = some z) : 0 ≤ z ∧ z ≤ top := by
  unfold opW at e
  by_cases c1 : w = "under"
  · rw [if_pos c1] at e; cases e; split <;> omega
  rw [if_neg c1] at e
  by_cases c2 : w = "same"
  · rw [if_pos c2] at e; cases e; split <;> omega
  rw [if_neg c2] at e
  by_cases c3 : w = "part"
  · rw [if_pos c3] at e
    by_cases c : 0 < y
    · rw [if_pos c] at e; cases e
      exact ⟨Int.ediv_nonneg x0 (by omega), Int.le_trans (Int.ediv_le_self _ x0) x1⟩
    · rw [if_neg c] at e; cases e
  rw [if_neg c3] at e
  by_cases c4 : w = "times"
  · rw [if_pos c4] at e
    by_cases c : 0 ≤ x * y ∧ x * y ≤ top
    · rw [if_pos c] at e; cases e; exact c
    · rw [if_neg c] at e; cases e
  rw [if_neg c4] at e
  by_cases c5 : w = "plus"
  · rw [if_pos c5] at e
    by_cases c : 0 ≤ x + y ∧ x + y ≤ top
    · rw [if_pos c] at e; cases e; exact c
    · rw [if_neg c] at e; cases e
  · rw [if_neg c5] at e
    by_cases c : 0 ≤ x - y ∧ x - y ≤ top
    · rw [if_pos c] at e; cases e; exact c
    · rw [if_neg c] at e; cases e
theorem wth_rng {top : Int} {B : Str → Int} (t0 : 1 ≤ top) (hB : ∀ s, 0 ≤ B s ∧ B s ≤ top) : ∀ {t : Tm} {x : Int}, t.rng top → wth top B t = some x → 0 ≤ x ∧ x ≤ top
  | .num i, x, h, e => by cases e; exact h
  | .box s, x, h, e => by cases e; exact hB s
  | .op w a b, x, h, e => by
    unfold wth at e
    cases qa : wth top B a with
    | none => rw [qa] at e; cases e
    | some xa =>
      cases qb : wth top B b with
      | none => rw [qa, qb] at e; cases e
      | some xb =>
        rw [qa, qb] at e
        have ra := wth_rng t0 hB h.2.1 qa
        exact opW_rng t0 ra.1 ra.2 e
def Tm.names : Tm → List Str
  | .num _ => []
  | .box s => [s]
  | .op _ a b => a.names ++ b.names
theorem wth_same {top : Int} {B B' : Str → Int} : ∀ {t : Tm}, (∀ s ∈ t.names, B s = B' s) → wth top B t = wth top B' t
  | .num i, _ => rfl
  | .box s, h => congrArg some (h s (by simp [Tm.names]))
  | .op w a b, h => by
    unfold wth
    rw [wth_same (t := a) fun s hs => h s (List.mem_append_left _ hs), wth_same (t := b) fun s hs => h s (List.mem_append_right _ hs)]
def Tm.may : Tm → Bool
  | .op w a b => !(w == "under" || w == "same") || (a.may || b.may)
  | _ => false
theorem may_wth {top : Int} {B : Str → Int} : ∀ {t : Tm}, t.may = false → ∃ x, wth top B t = some x
  | .num i, _ => ⟨i, rfl⟩
  | .box s, _ => ⟨B s, rfl⟩
  | .op w a b, h => by
    have h' : (!(w == "under" || w == "same") || (a.may || b.may)) = false := h
    rw [Bool.or_eq_false_iff, Bool.or_eq_false_iff] at h'
    obtain ⟨hw, ha, hb⟩ := h'
    obtain ⟨x, ex⟩ := may_wth (top := top) (B := B) ha
    obtain ⟨y, ey⟩ := may_wth (top := top) (B := B) hb
    have hw' : w = "under" ∨ w = "same" := by
      by_cases c : w = "under"
      · exact .inl c
      · refine .inr ?_
        have c' : (w == "under") = false := by simpa using c
        rw [c'] at hw
        simpa using hw
    unfold wth
    rw [ex, ey]
    unfold opW
    rcases hw' with rfl | rfl
    · exact ⟨_, if_pos rfl⟩
    · exact ⟨_, (if_neg (by decide +kernel)).trans (if_pos rfl)⟩
theorem names_len : ∀ t : Tm, t.names.length ≤ 2 ^ t.deep
  | .num i => Nat.zero_le _
  | .box s => by show 1 ≤ 2 ^ 0; omega
  | .op w a b => by
    have h1 := names_len a
    have h2 := names_len b
    show (a.names ++ b.names).length ≤ 2 ^ (max a.deep b.deep + 1)
    rw [List.length_append, Nat.pow_succ]
    have p1 : 2 ^ a.deep ≤ 2 ^ max a.deep b.deep := Nat.pow_le_pow_right (by decide) (Nat.le_max_left _ _)
    have p2 : 2 ^ b.deep ≤ 2 ^ max a.deep b.deep := Nat.pow_le_pow_right (by decide) (Nat.le_max_right _ _)
    omega
end VX
end

section
set_option Elab.async false
set_option linter.all false
set_option maxRecDepth 100000
set_option maxHeartbeats 8000000
/-! K03b: the program's and the law's functions about terms. -/
namespace VX
open PySem IX
section
variable {T : Tbl} {fr : Nat → Bool} {m c : Nat} {v : V}
theorem ne6 : (("same" : Str) == "under") = false ∧ (("part" : Str) == "under") = false ∧ (("part" : Str) == "same") = false ∧ (("times" : Str) == "under") = false ∧ (("times" : Str) == "same") = false ∧ (("times" : Str) == "part") = false ∧ (("plus" : Str) == "under") = false ∧ (("plus" : Str) == "same") = false ∧ (("plus" : Str) == "part") = false ∧ (("plus" : Str) == "times") = false ∧ (("less" : Str) == "under") = false ∧ (("less" : Str) == "same") = false ∧ (("less" : Str) == "part") = false ∧ (("less" : Str) == "times") = false ∧ (("less" : Str) == "plus") = false := by decide +kernel
theorem w6 {w : Str} (h : w ∈ words6) : w = "plus" ∨ w = "less" ∨ w = "times" ∨ w = "part" ∨ w = "under" ∨ w = "same" := by
  simpa [words6] using h
theorem mul_fits {x y : Int} (x0 : 0 ≤ x) (x1 : x ≤ 1000000000) : binV .mul (.int x) (.int y) = some (.int (x * y)) := by
  show (if x.natAbs < 2 ^ 64 ∨ y.natAbs < 2 ^ 64 then some (V.int (x * y)) else none) = _
  rw [if_pos (.inl (by omega))]
theorem fdiv_fits {x y : Int} (y0 : 0 < y) (y1 : y ≤ 1000000000) : binV .fdiv (.int x) (.int y) = some (.int (x / y)) := by
  show (if 0 < y ∧ y < 2 ^ 1000 then some (V.int (x / y)) else none) = _
  rw [if_pos ⟨y0, by have : (1000000000 : Int) < 2 ^ 1000 := by decide +kernel
                     omega⟩]
theorem reckoned_eq [L : K03T T] (hm : 1 ≤ m) {w : Str} (hw : w ∈ words6) {x y top : Int} (x0 : 0 ≤ x) (x1 : x ≤ 1000000000) (y0 : 0 ≤ y) (y1 : y ≤ 1000000000) :
    callV T fr m 131 [.str w, .int x, .int y, .int top] = .ok (oi (opW w top x y)) [some (.str w), some (.int x), some (.int y), some (.int top)] := by
  obtain ⟨m, rfl⟩ : ∃ n, m = n + 1 := ⟨m - 1, by omega⟩
  rw [call_def L.reckoned rfl]
  obtain ⟨a1, a2, a3, a4, a5, a6, a7, a8, a9, a10, a11, a12, a13, a14, a15⟩ := ne6
  have hx := mul_fits (y := y) x0 x1
  rcases w6 hw with rfl | rfl | rfl | rfl | rfl | rfl
  · unfold opW
    rw [if_neg (ne_of_beq_false a7), if_neg (ne_of_beq_false a8), if_neg (ne_of_beq_false a9), if_neg (ne_of_beq_false a10), if_pos rfl]
    by_cases c : 0 ≤ x + y ∧ x + y ≤ top
    · rw [if_pos c]
      simp [d131, c131, startV, hx, a7, a8, a9, a10, c.1, c.2, oi]
      rfl
    · rw [if_neg c]
      by_cases c1 : 0 ≤ x + y
      · have c2 : ¬ x + y ≤ top := fun z => c ⟨c1, z⟩
        simp [d131, c131, startV, hx, a7, a8, a9, a10, c1, c2, oi]
        rfl
      · omega
  · unfold opW
    rw [if_neg (ne_of_beq_false a11), if_neg (ne_of_beq_false a12), if_neg (ne_of_beq_false a13), if_neg (ne_of_beq_false a14), if_neg (ne_of_beq_false a15)]
    by_cases c : 0 ≤ x - y ∧ x - y ≤ top
    · rw [if_pos c]
      have cy : y ≤ x := by omega
      simp [d131, c131, startV, hx, a11, a12, a13, a14, a15, cy, c.2, oi]
      rfl
    · rw [if_neg c]
      by_cases c1 : 0 ≤ x - y
      · have c2 : ¬ x - y ≤ top := fun z => c ⟨c1, z⟩
        have cy : y ≤ x := by omega
        simp [d131, c131, startV, hx, a11, a12, a13, a14, a15, cy, c2, oi]
        rfl
      · have cy : ¬ y ≤ x := by omega
        simp [d131, c131, startV, hx, a11, a12, a13, a14, a15, cy, oi]
        rfl
  · unfold opW
    rw [if_neg (ne_of_beq_false a4), if_neg (ne_of_beq_false a5), if_neg (ne_of_beq_false a6), if_pos rfl]
    have p0 : 0 ≤ x * y := Int.mul_nonneg x0 y0
    by_cases c : 0 ≤ x * y ∧ x * y ≤ top
    · rw [if_pos c]
      simp [d131, c131, startV, hx, a4, a5, a6, c.1, c.2, oi]
      rfl
    · rw [if_neg c]
      have c2 : ¬ x * y ≤ top := fun z => c ⟨p0, z⟩
      simp [d131, c131, startV, hx, a4, a5, a6, p0, c2, oi]
      rfl
  · unfold opW
    rw [if_neg (ne_of_beq_false a2), if_neg (ne_of_beq_false a3), if_pos rfl]
    by_cases c : 0 < y
    · have hd := fdiv_fits (x := x) c y1
      rw [if_pos c]
      simp [d131, c131, startV, hd, a2, a3, c, oi]
      rfl
    · rw [if_neg c]
      simp [d131, c131, startV, a2, a3, c, oi]
      rfl
  · unfold opW
    rw [if_pos rfl]
    simp [d131, c131, startV, oi]
    rfl
  · unfold opW
    rw [if_neg (ne_of_beq_false a1), if_pos rfl]
    simp [d131, c131, startV, a1, oi]
    rfl
theorem words_nb {w : Str} (hw : w ∈ words6) : (w == "number") = false ∧ (w == "box") = false := by
  rcases w6 hw with rfl | rfl | rfl | rfl | rfl | rfl <;> decide +kernel
theorem oi_fz (r : Option Int) : (oi r).fz = true := by cases r <;> rfl
theorem bx_fz {q : Bool} {ks : List Str} {vs : List Int} : (bx q ks vs).fz = !q := by
  cases q with
  | true => rfl
  | false =>
    show (!false && V.fzL (ks.map V.str) && V.fzL (vs.map V.int)) = true
    rw [fzL_all, fzL_all]; simp
theorem worth_eq [L : K03T T] {top : Int} {ks : List Str} {vs : List Int} {q : Bool} (t0 : 1 ≤ top) (t1 : top ≤ 1000000000) (b : Bxs top ks vs) : ∀ (t : Tm) {m : Nat}, t.deep + 2 ≤ m → t.rng top →
    callV T fr m 132 [t.v, .int top, bx q ks vs] = .ok (oi (wth top (gB ks vs) t)) [some t.v, some (.int top), some (bx q ks vs)]
  | .num i, m, hm, hr => by
    obtain ⟨m, rfl⟩ : ∃ n, m = n + 1 := ⟨m - 1, by omega⟩
    rw [call_def L.worth rfl]
    have bf := bx_fz (q := q) (ks := ks) (vs := vs)
    have bt : meTyV .get (some (bx q ks vs)) = true := rfl
    generalize bx q ks vs = BX at *
    cases q <;> (simp [d132, c132, startV, bf, bt, Tm.v, oi, wth]; rfl)
  | .box s, m, hm, hr => by
    obtain ⟨m, rfl⟩ : ∃ n, m = n + 1 := ⟨m - 1, by omega⟩
    rw [call_def L.worth rfl]
    have bf := bx_fz (q := q) (ks := ks) (vs := vs)
    have bt : meTyV .get (some (bx q ks vs)) = true := rfl
    have g := get_bx (q := q) b.len s
    have k1 : (("box" : Str) == "number") = false := by decide +kernel
    show leaveV d132 _ = RV.ok (.int (gB ks vs s)) _
    generalize gB ks vs s = G at *
    generalize bx q ks vs = BX at *
    cases q <;> (simp [d132, c132, startV, bf, bt, Tm.v, g, k1]; rfl)
  | .op w x y, m, hm, hr => by
    obtain ⟨m, rfl⟩ : ∃ n, m = n + 1 := ⟨m - 1, by omega⟩
    have hd : max x.deep y.deep + 1 + 2 ≤ m + 1 := hm
    obtain ⟨hw, rx, ry⟩ := hr
    have e1 := worth_eq (q := q) t0 t1 b x (m := m) (by omega) rx
    have e2 := worth_eq (q := q) t0 t1 b y (m := m) (by omega) ry
    have hB := b.gB (by omega)
    have xf := Tm.fz x
    have yf := Tm.fz y
    obtain ⟨n1, n2⟩ := words_nb hw
    rw [call_def L.worth rfl]
    have bf := bx_fz (q := q) (ks := ks) (vs := vs)
    have bt : meTyV .get (some (bx q ks vs)) = true := rfl
    have ew : wth top (gB ks vs) (.op w x y) = match wth top (gB ks vs) x, wth top (gB ks vs) y with
      | some a, some b => opW w top a b
      | _, _ => none := rfl
    rw [ew]
    have vx : (Tm.op w x y).v = .tup [.str w, x.v, y.v] := rfl
    rw [vx]
    cases qx : wth top (gB ks vs) x with
    | none =>
      rw [qx] at e1
      cases qy : wth top (gB ks vs) y with
      | none =>
        rw [qy] at e2
        clear qx qy ew vx
        generalize bx q ks vs = BX at *
        generalize x.v = XV at *
        generalize y.v = YV at *
        cases q <;> (simp [d132, c132, startV, bf, bt, e1, e2, xf, yf, n1, n2, oi]; rfl)
      | some b' =>
        rw [qy] at e2
        clear qx qy ew vx
        generalize bx q ks vs = BX at *
        generalize x.v = XV at *
        generalize y.v = YV at *
        cases q <;> (simp [d132, c132, startV, bf, bt, e1, e2, xf, yf, n1, n2, oi]; rfl)
    | some a' =>
      rw [qx] at e1
      cases qy : wth top (gB ks vs) y with
      | none =>
        rw [qy] at e2
        clear qx qy ew vx
        generalize bx q ks vs = BX at *
        generalize x.v = XV at *
        generalize y.v = YV at *
        cases q <;> (simp [d132, c132, startV, bf, bt, e1, e2, xf, yf, n1, n2, oi]; rfl)
      | some b' =>
        rw [qy] at e2
        have ra := wth_rng t0 hB rx qx
        have rb := wth_rng t0 hB ry qy
        have e3 := reckoned_eq (T := T) (fr := fr) (m := m) (by omega) hw (x := a') (y := b') (top := top) ra.1 (by omega) rb.1 (by omega)
        dsimp only
        generalize opW w top a' b' = O at *
        have of := oi_fz O
        clear qx qy ew vx
        generalize bx q ks vs = BX at *
        generalize x.v = XV at *
        generalize y.v = YV at *
        have o1 : oi (some a') = .int a' := rfl
        have o2 : oi (some b') = .int b' := rfl
        rw [o1] at e1
        rw [o2] at e2
        generalize oi O = OV at *
        cases q <;> (simp [d132, c132, startV, bf, bt, e1, e2, e3, xf, yf, of, n1, n2]; rfl)
end
end VX
end

section
set_option Elab.async false
set_option linter.all false
set_option maxRecDepth 100000
set_option maxHeartbeats 8000000
/-! K03c: the law's functions about terms. -/
namespace VX
open PySem IX
section
variable {T : Tbl} {fr : Nat → Bool} {m c : Nat} {v : V}
/-- the four reckoned at once -/
theorem four_idx {w : Str} {p l t d : Int} : (w = "plus" → idxV (.dic true [.str "plus", .str "less", .str "times", .str "part"] [.int p, .int l, .int t, .int d]) (.str w) = some (0, .int p)) ∧
    (w = "less" → idxV (.dic true [.str "plus", .str "less", .str "times", .str "part"] [.int p, .int l, .int t, .int d]) (.str w) = some (1, .int l)) ∧
    (w = "times" → idxV (.dic true [.str "plus", .str "less", .str "times", .str "part"] [.int p, .int l, .int t, .int d]) (.str w) = some (2, .int t)) ∧
    (w = "part" → idxV (.dic true [.str "plus", .str "less", .str "times", .str "part"] [.int p, .int l, .int t, .int d]) (.str w) = some (3, .int d)) := by
  have go : ∀ (w : Str) (j : Nat), pl w ["plus", "less", "times", "part"] = some j → idxV (.dic true [.str "plus", .str "less", .str "times", .str "part"] [.int p, .int l, .int t, .int d]) (.str w) = ([.int p, .int l, .int t, .int d] : List V)[j]?.map fun v => (j, v) := fun w j e => by
    show (if (keyV (.str w)).isSome = true then match placeV (.str w) ((["plus", "less", "times", "part"] : List Str).map V.str) with
        | some j => ([.int p, .int l, .int t, .int d] : List V)[j]?.map fun v => (j, v)
        | none => none
      else none) = _
    rw [if_pos (show (keyV (.str w)).isSome = true from rfl), place_strs, e]
  refine ⟨fun e => ?_, fun e => ?_, fun e => ?_, fun e => ?_⟩ <;> subst e
  · exact go _ 0 (by decide +kernel)
  · exact go _ 1 (by decide +kernel)
  · exact go _ 2 (by decide +kernel)
  · exact go _ 3 (by decide +kernel)
theorem four_dic {p l t d : Int} {σ : Sv} : kdic (.ok [.str "plus", .int p, .str "less", .int l, .str "times", .int t, .str "part", .int d] σ) = .ok (.val (.dic true [.str "plus", .str "less", .str "times", .str "part"] [.int p, .int l, .int t, .int d])) σ :=
  kdic_ok rfl (by decide) (by decide +kernel)
theorem us_in {w : Str} : anyV (.str w) [.str "under", .str "same"] = some ((("under" : Str) == w) || ((("same" : Str) == w) || false)) := rfl
theorem wlaw [L : K03T T] {w : Str} (hw : w ∈ words6) {x y top : Int} (x0 : 0 ≤ x) (x1 : x ≤ top) (y0 : 0 ≤ y) (y1 : y ≤ top) (t1 : top ≤ 1000000000) : True := trivial
theorem lawWorth_eq [L : K03T T] {top : Int} {ks : List Str} {vs : List Int} {q : Bool} (t0 : 1 ≤ top) (t1 : top ≤ 1000000000) (b : Bxs top ks vs) : ∀ (t : Tm) {m : Nat}, t.deep + 1 ≤ m → t.rng top →
    callV T fr m 136 [t.v, .int top, bx q ks vs] = .ok (oi (wth top (gB ks vs) t)) [some t.v, some (.int top), some (bx q ks vs)]
  | .num i, m, hm, hr => by
    obtain ⟨m, rfl⟩ : ∃ n, m = n + 1 := ⟨m - 1, by omega⟩
    rw [call_def L.lawWorth rfl]
    have bf := bx_fz (q := q) (ks := ks) (vs := vs)
    generalize bx q ks vs = BX at *
    cases q <;> (simp [d136, c136, startV, bf, Tm.v, oi, wth]; rfl)
  | .box s, m, hm, hr => by
    obtain ⟨m, rfl⟩ : ∃ n, m = n + 1 := ⟨m - 1, by omega⟩
    rw [call_def L.lawWorth rfl]
    have bf := bx_fz (q := q) (ks := ks) (vs := vs)
    have bt : meTyV .get (some (bx q ks vs)) = true := rfl
    have g := get_bx (q := q) b.len s
    have k1 : (("box" : Str) == "number") = false := by decide +kernel
    show leaveV d136 _ = RV.ok (.int (gB ks vs s)) _
    generalize gB ks vs s = G at *
    generalize bx q ks vs = BX at *
    cases q <;> (simp [d136, c136, startV, bf, bt, Tm.v, g, k1]; rfl)
  | .op w x y, m, hm, hr => by
    obtain ⟨m, rfl⟩ : ∃ n, m = n + 1 := ⟨m - 1, by omega⟩
    have hd : max x.deep y.deep + 1 + 1 ≤ m + 1 := hm
    obtain ⟨hw, rx, ry⟩ := hr
    have e1 := lawWorth_eq (q := q) t0 t1 b x (m := m) (by omega) rx
    have e2 := lawWorth_eq (q := q) t0 t1 b y (m := m) (by omega) ry
    have hB := b.gB (by omega)
    have xf := Tm.fz x
    have yf := Tm.fz y
    obtain ⟨n1, n2⟩ := words_nb hw
    have bf := bx_fz (q := q) (ks := ks) (vs := vs)
    rw [call_def L.lawWorth rfl]
    have ew : wth top (gB ks vs) (.op w x y) = match wth top (gB ks vs) x, wth top (gB ks vs) y with
      | some a, some b => opW w top a b
      | _, _ => none := rfl
    rw [ew]
    have vx : (Tm.op w x y).v = .tup [.str w, x.v, y.v] := rfl
    rw [vx]
    generalize bx q ks vs = BX at *
    cases qx : wth top (gB ks vs) x with
    | none =>
      rw [qx] at e1
      generalize hr : wth top (gB ks vs) y = ry' at *
      have of := oi_fz ry'
      have o1 : oi none = .non := rfl
      rw [o1] at e1
      have eo : (match (none : Option Int), ry' with
        | some a, some b => opW w top a b
        | _, _ => none) = none := rfl
      rw [eo, o1]
      clear qx ew vx hr eo
      generalize oi ry' = YR at *
      generalize x.v = XV at *
      generalize y.v = YV at *
      cases q <;> (simp [d136, c136, startV, bf, e1, e2, xf, yf, of, n1, n2]; rfl)
    | some a' =>
      rw [qx] at e1
      cases qy : wth top (gB ks vs) y with
      | none =>
        rw [qy] at e2
        have o1 : oi none = .non := rfl
        have o2 : oi (some a') = .int a' := rfl
        rw [o2] at e1
        rw [o1] at e2
        show leaveV d136 _ = RV.ok .non _
        clear qx qy ew vx
        generalize x.v = XV at *
        generalize y.v = YV at *
        cases q <;> (simp [d136, c136, startV, bf, e1, e2, xf, yf, n1, n2]; rfl)
      | some b' =>
        rw [qy] at e2
        obtain ⟨xa0, xa1⟩ := wth_rng t0 hB rx qx
        obtain ⟨yb0, yb1⟩ := wth_rng t0 hB ry qy
        have o1 : oi (some a') = .int a' := rfl
        have o2 : oi (some b') = .int b' := rfl
        rw [o1] at e1
        rw [o2] at e2
        dsimp only
        clear qx qy ew vx
        generalize x.v = XV at *
        generalize y.v = YV at *
        have hx := mul_fits (y := b') xa0 (show a' ≤ 1000000000 by omega)
        have mx : biV .max [.int b', .int 1] = some (.int (if 1 > b' then 1 else b')) := rfl
        have hdv := fdiv_fits (x := a') (y := if 1 > b' then 1 else b') (by split <;> omega) (by split <;> omega)
        obtain ⟨i1, i2, i3, i4⟩ := four_idx (w := w) (p := a' + b') (l := a' - b') (t := a' * b') (d := a' / (if 1 > b' then 1 else b'))
        obtain ⟨a1, a2, a3, a4, a5, a6, a7, a8, a9, a10, a11, a12, a13, a14, a15⟩ := ne6
        have p0 : 0 ≤ a' * b' := Int.mul_nonneg xa0 yb0
        rcases w6 hw with rfl | rfl | rfl | rfl | rfl | rfl
        · have u : anyV (.str "plus") [.str "under", .str "same"] = some false := by rw [us_in]; decide +kernel
          have i := i1 rfl
          generalize (if 1 > b' then 1 else b') = D at *
          generalize a' / D = Q at *
          unfold opW
          rw [if_neg (ne_of_beq_false a7), if_neg (ne_of_beq_false a8), if_neg (ne_of_beq_false a9), if_neg (ne_of_beq_false a10), if_pos rfl]
          have s0 : 0 ≤ a' + b' := by omega
          by_cases c : a' + b' ≤ top
          · rw [if_pos ⟨s0, c⟩]
            cases q <;> (simp [d136, c136, startV, bf, e1, e2, xf, yf, n1, n2, u, hx, mx, hdv, i, a9, four_dic, s0, c, oi, -any_cons]; rfl)
          · rw [if_neg (fun z => c z.2)]
            cases q <;> (simp [d136, c136, startV, bf, e1, e2, xf, yf, n1, n2, u, hx, mx, hdv, i, a9, four_dic, s0, c, oi, -any_cons]; rfl)
        · have u : anyV (.str "less") [.str "under", .str "same"] = some false := by rw [us_in]; decide +kernel
          have i := i2 rfl
          generalize (if 1 > b' then 1 else b') = D at *
          generalize a' / D = Q at *
          unfold opW
          rw [if_neg (ne_of_beq_false a11), if_neg (ne_of_beq_false a12), if_neg (ne_of_beq_false a13), if_neg (ne_of_beq_false a14), if_neg (ne_of_beq_false a15)]
          by_cases s0 : b' ≤ a'
          · have c : a' - b' ≤ top := by omega
            rw [if_pos ⟨by omega, c⟩]
            cases q <;> (simp [d136, c136, startV, bf, e1, e2, xf, yf, n1, n2, u, hx, mx, hdv, i, a13, four_dic, s0, c, oi, -any_cons]; rfl)
          · rw [if_neg (fun z => s0 (by omega))]
            cases q <;> (simp [d136, c136, startV, bf, e1, e2, xf, yf, n1, n2, u, hx, mx, hdv, i, a13, four_dic, s0, oi, -any_cons]; rfl)
        · have u : anyV (.str "times") [.str "under", .str "same"] = some false := by rw [us_in]; decide +kernel
          have i := i3 rfl
          generalize (if 1 > b' then 1 else b') = D at *
          generalize a' / D = Q at *
          unfold opW
          rw [if_neg (ne_of_beq_false a4), if_neg (ne_of_beq_false a5), if_neg (ne_of_beq_false a6), if_pos rfl]
          generalize a' * b' = M at *
          by_cases c : M ≤ top
          · rw [if_pos ⟨p0, c⟩]
            cases q <;> (simp [d136, c136, startV, bf, e1, e2, xf, yf, n1, n2, u, hx, mx, hdv, i, a6, four_dic, p0, c, oi, -any_cons]; rfl)
          · rw [if_neg (fun z => c z.2)]
            cases q <;> (simp [d136, c136, startV, bf, e1, e2, xf, yf, n1, n2, u, hx, mx, hdv, i, a6, four_dic, p0, c, oi, -any_cons]; rfl)
        · have u : anyV (.str "part") [.str "under", .str "same"] = some false := by rw [us_in]; decide +kernel
          have i := i4 rfl
          unfold opW
          rw [if_neg (ne_of_beq_false a2), if_neg (ne_of_beq_false a3), if_pos rfl]
          by_cases cb : 0 < b'
          · have dd : (if 1 > b' then 1 else b') = b' := if_neg (by omega)
            rw [dd] at mx hdv i
            have d0 : 0 ≤ a' / b' := Int.ediv_nonneg xa0 (by omega)
            have d1 : a' / b' ≤ top := Int.le_trans (Int.ediv_le_self _ xa0) xa1
            have bz : (b' == 0) = false := by simpa using (show b' ≠ 0 by omega)
            rw [if_pos cb]
            generalize a' / b' = Q at *
            cases q <;> (simp [d136, c136, startV, bf, e1, e2, xf, yf, n1, n2, u, hx, mx, hdv, i, bz, four_dic, d0, d1, oi, -any_cons]; rfl)
          · have bz : b' = 0 := by omega
            rw [if_neg cb]
            subst bz
            cases q <;> (simp [d136, c136, startV, bf, e1, e2, xf, yf, n1, n2, oi, -any_cons]; rfl)
        · have u : anyV (.str "under") [.str "under", .str "same"] = some true := by rw [us_in]; decide +kernel
          have up : (("under" : Str) == "part") = false := by decide +kernel
          unfold opW
          rw [if_pos rfl]
          cases q <;> (simp [d136, c136, startV, bf, e1, e2, xf, yf, n1, n2, u, up, oi, -any_cons]; rfl)
        · have u : anyV (.str "same") [.str "under", .str "same"] = some true := by rw [us_in]; decide +kernel
          have up : (("same" : Str) == "part") = false := by decide +kernel
          unfold opW
          rw [if_neg (ne_of_beq_false a1), if_pos rfl]
          cases q <;> (simp [d136, c136, startV, bf, e1, e2, xf, yf, n1, n2, u, up, a1, oi, -any_cons]; rfl)
end
end VX
end

section
set_option Elab.async false
set_option linter.all false
set_option maxRecDepth 100000
set_option maxHeartbeats 8000000
/-! K03d: names, failing, boxes. -/
namespace VX
open PySem IX
section
variable {T : Tbl} {fr : Nat → Bool} {m c : Nat} {v : V}
theorem strs_fz3 (ts : List Str) : V.fzL (ts.map V.str) = true := by rw [fzL_all]; simp
theorem names_eq3 [L : K03T T] : ∀ (t : Tm) {m top : Nat}, t.deep + 1 ≤ m → t.deep ≤ 20 → t.rng 1000000000 → callV T fr m 133 [t.v] = .ok (.lst true (t.names.map V.str)) [some t.v]
  | .num i, m, _, hm, _, hr => by
    obtain ⟨m, rfl⟩ : ∃ n, m = n + 1 := ⟨m - 1, by omega⟩
    rw [call_def L.namesIn rfl]
    simp [d133, c133, startV, Tm.v, Tm.names]
    rfl
  | .box s, m, _, hm, _, hr => by
    obtain ⟨m, rfl⟩ : ∃ n, m = n + 1 := ⟨m - 1, by omega⟩
    rw [call_def L.namesIn rfl]
    have k1 : (("box" : Str) == "number") = false := by decide +kernel
    simp [d133, c133, startV, Tm.v, Tm.names, k1]
    rfl
  | .op w x y, m, _, hm, h20, hr => by
    obtain ⟨m, rfl⟩ : ∃ n, m = n + 1 := ⟨m - 1, by omega⟩
    have hd : max x.deep y.deep + 1 + 1 ≤ m + 1 := hm
    have hd2 : max x.deep y.deep + 1 ≤ 20 := h20
    obtain ⟨hw, rx, ry⟩ := hr
    have e1 := names_eq3 x (m := m) (top := 0) (by omega) (by omega) rx
    have e2 := names_eq3 y (m := m) (top := 0) (by omega) (by omega) ry
    have l1 := names_len x
    have l2 := names_len y
    have p1 : 2 ^ x.deep ≤ 2 ^ 19 := Nat.pow_le_pow_right (by decide) (by omega)
    have p2 : 2 ^ y.deep ≤ 2 ^ 19 := Nat.pow_le_pow_right (by decide) (by omega)
    have xf := Tm.fz x
    have yf := Tm.fz y
    obtain ⟨n1, n2⟩ := words_nb hw
    rw [call_def L.namesIn rfl]
    have vx : (Tm.op w x y).v = .tup [.str w, x.v, y.v] := rfl
    have nx : (Tm.op w x y).names = x.names ++ y.names := rfl
    rw [vx, nx, List.map_append]
    have f1 := strs_fz3 x.names
    have f2 := strs_fz3 y.names
    have ad : binV .add (.lst true (x.names.map V.str)) (.lst true (y.names.map V.str)) = some (.lst true (x.names.map V.str ++ y.names.map V.str)) := by
      show (if (x.names.map V.str).length + (y.names.map V.str).length ≤ 16777216 ∧ (V.fzL (x.names.map V.str) && V.fzL (y.names.map V.str)) = true then some (V.lst true (x.names.map V.str ++ y.names.map V.str)) else none) = _
      rw [if_pos ⟨by rw [List.length_map, List.length_map]; omega, by rw [f1, f2]; rfl⟩]
    clear vx nx
    generalize x.names.map V.str = X1 at *
    generalize y.names.map V.str = Y1 at *
    generalize x.v = XV at *
    generalize y.v = YV at *
    simp [d133, c133, startV, e1, e2, xf, yf, n1, n2, ad]
    rfl
theorem bn_in {w : Str} : anyV (.str w) [.str "box", .str "number"] = some ((("box" : Str) == w) || ((("number" : Str) == w) || false)) := rfl
theorem nb_in {w : Str} : anyV (.str w) [.str "number", .str "box"] = some ((("number" : Str) == w) || ((("box" : Str) == w) || false)) := rfl
theorem words_bn {w : Str} (hw : w ∈ words6) : anyV (.str w) [.str "box", .str "number"] = some false ∧ anyV (.str w) [.str "number", .str "box"] = some false := by
  rw [bn_in, nb_in]
  rcases w6 hw with rfl | rfl | rfl | rfl | rfl | rfl <;> decide +kernel
theorem lawNames_eq3 [L : K03T T] : ∀ (t : Tm) {m top : Nat}, t.deep + 1 ≤ m → t.deep ≤ 20 → t.rng 1000000000 → callV T fr m 137 [t.v] = .ok (.lst true (t.names.map V.str)) [some t.v]
  | .num i, m, _, hm, _, hr => by
    obtain ⟨m, rfl⟩ : ∃ n, m = n + 1 := ⟨m - 1, by omega⟩
    rw [call_def L.lawNames rfl]
    have a1 : anyV (.str "number") [.str "box", .str "number"] = some true := by rw [bn_in]; decide +kernel
    have k1 : (("number" : Str) == "box") = false := by decide +kernel
    simp [d137, c137, startV, Tm.v, Tm.names, a1, k1, -any_cons]
    rfl
  | .box s, m, _, hm, _, hr => by
    obtain ⟨m, rfl⟩ : ∃ n, m = n + 1 := ⟨m - 1, by omega⟩
    rw [call_def L.lawNames rfl]
    have a1 : anyV (.str "box") [.str "box", .str "number"] = some true := by rw [bn_in]; decide +kernel
    simp [d137, c137, startV, Tm.v, Tm.names, a1, -any_cons]
    rfl
  | .op w x y, m, _, hm, h20, hr => by
    obtain ⟨m, rfl⟩ : ∃ n, m = n + 1 := ⟨m - 1, by omega⟩
    have hd : max x.deep y.deep + 1 + 1 ≤ m + 1 := hm
    have hd2 : max x.deep y.deep + 1 ≤ 20 := h20
    obtain ⟨hw, rx, ry⟩ := hr
    have e1 := lawNames_eq3 x (m := m) (top := 0) (by omega) (by omega) rx
    have e2 := lawNames_eq3 y (m := m) (top := 0) (by omega) (by omega) ry
    have l1 := names_len x
    have l2 := names_len y
    have p1 : 2 ^ x.deep ≤ 2 ^ 19 := Nat.pow_le_pow_right (by decide) (by omega)
    have p2 : 2 ^ y.deep ≤ 2 ^ 19 := Nat.pow_le_pow_right (by decide) (by omega)
    have xf := Tm.fz x
    have yf := Tm.fz y
    have a1 := (words_bn hw).1
    rw [call_def L.lawNames rfl]
    have vx : (Tm.op w x y).v = .tup [.str w, x.v, y.v] := rfl
    have nx : (Tm.op w x y).names = x.names ++ y.names := rfl
    rw [vx, nx, List.map_append]
    have f1 := strs_fz3 x.names
    have f2 := strs_fz3 y.names
    have ad : binV .add (.lst true (x.names.map V.str)) (.lst true (y.names.map V.str)) = some (.lst true (x.names.map V.str ++ y.names.map V.str)) := by
      show (if (x.names.map V.str).length + (y.names.map V.str).length ≤ 16777216 ∧ (V.fzL (x.names.map V.str) && V.fzL (y.names.map V.str)) = true then some (V.lst true (x.names.map V.str ++ y.names.map V.str)) else none) = _
      rw [if_pos ⟨by rw [List.length_map, List.length_map]; omega, by rw [f1, f2]; rfl⟩]
    clear vx nx
    generalize x.names.map V.str = X1 at *
    generalize y.names.map V.str = Y1 at *
    generalize x.v = XV at *
    generalize y.v = YV at *
    simp [d137, c137, startV, e1, e2, xf, yf, a1, ad, -any_cons]
    rfl
theorem strsV_map : ∀ ts : List Str, strsV (ts.map V.str) = some ts
  | [] => rfl
  | t :: r => by
    show (strsV (r.map V.str)).map (fun c => t :: c) = _
    rw [strsV_map r]; rfl
theorem ss_strs {ts : List Str} (h : ts.length < 4000) : ssV (ts.map V.str) = some (.lst true ((sortU ts).map V.str)) := by
  cases ts with
  | nil => rfl
  | cons t r =>
    show (match strsV ((t :: r).map V.str) with
      | some ys => if ys.length < 4000 then some (V.lst true ((sortU ys).map V.str)) else none
      | none => none) = _
    rw [strsV_map]
    exact if_pos h
theorem insU_len (x : Str) : ∀ l : List Str, (insU x l).length ≤ l.length + 1
  | [] => Nat.le_refl _
  | y :: r => by
    unfold insU
    split
    · have := insU_len x r
      rw [List.length_cons, List.length_cons]; omega
    · split
      · exact Nat.le_succ _
      · exact Nat.le_refl _
theorem sortU_len : ∀ l : List Str, (sortU l).length ≤ l.length
  | [] => Nat.le_refl _
  | x :: r => by
    have h1 := insU_len x (sortU r)
    have h2 := sortU_len r
    show (insU x (sortU r)).length ≤ r.length + 1
    omega
theorem mem_insU {x y : Str} : ∀ {l : List Str}, y ∈ insU x l ↔ y = x ∨ y ∈ l
  | [] => by simp [insU]
  | z :: r => by
    unfold insU
    by_cases c : ltS z x = true
    · rw [if_pos c, List.mem_cons, mem_insU, List.mem_cons]
      constructor
      · rintro (h | h | h)
        · exact .inr (.inl h)
        · exact .inl h
        · exact .inr (.inr h)
      · rintro (h | h | h)
        · exact .inr (.inl h)
        · exact .inl h
        · exact .inr (.inr h)
    · rw [if_neg c]
      by_cases c2 : x = z
      · rw [if_pos c2, List.mem_cons, c2]
        constructor
        · intro h; exact .inr h
        · rintro (h | h)
          · exact .inl h
          · exact h
      · rw [if_neg c2, List.mem_cons]
theorem mem_sortU {y : Str} : ∀ {l : List Str}, y ∈ sortU l ↔ y ∈ l
  | [] => Iff.rfl
  | x :: r => by
    show y ∈ insU x (sortU r) ↔ _
    rw [mem_insU, mem_sortU, List.mem_cons]
theorem asked_eq [L : K03T T] {t : Tm} (hm : t.deep + 2 ≤ m) (hd : t.deep ≤ 11) (hr : t.rng 1000000000) : callV T fr m 134 [t.v] = .ok (.tup ((sortU t.names).map V.str)) [some t.v] := by
  obtain ⟨m, rfl⟩ : ∃ n, m = n + 1 := ⟨m - 1, by omega⟩
  have e1 := names_eq3 (T := T) (fr := fr) t (m := m) (top := 0) (by omega) (by omega) hr
  have p1 : 2 ^ t.deep ≤ 2 ^ 11 := Nat.pow_le_pow_right (by decide) (by omega)
  have l1 := names_len t
  have ss : biV .sortset [.lst true (t.names.map V.str)] = some (.lst true ((sortU t.names).map V.str)) := ss_strs (by omega)
  have sf := strs_fz3 (sortU t.names)
  have tl := bi_tupL (q := true) sf
  have tf := Tm.fz t
  rw [call_def L.asked rfl]
  generalize (sortU t.names).map V.str = SN at *
  generalize t.names.map V.str = TN at *
  generalize t.v = TV at *
  simp [d134, c134, startV, e1, ss, tl, tf, sf]
  rfl
theorem fl_in {w : Str} : anyV (.str w) [.str "plus", .str "less", .str "times", .str "part"] = some ((("plus" : Str) == w) || ((("less" : Str) == w) || ((("times" : Str) == w) || ((("part" : Str) == w) || false)))) := rfl
theorem fl_us {w : Str} (hw : w ∈ words6) : anyV (.str w) [.str "plus", .str "less", .str "times", .str "part"] = some (!(w == "under" || w == "same")) ∧ anyV (.str w) [.str "under", .str "same"] = some (w == "under" || w == "same") := by
  rw [fl_in, us_in]
  rcases w6 hw with rfl | rfl | rfl | rfl | rfl | rfl <;> decide +kernel
theorem may_eq [L : K03T T] : ∀ (t : Tm) {m top : Nat}, t.deep + 1 ≤ m → t.rng 1000000000 → callV T fr m 135 [t.v] = .ok (.bl t.may) [some t.v]
  | .num i, m, _, hm, hr => by
    obtain ⟨m, rfl⟩ : ∃ n, m = n + 1 := ⟨m - 1, by omega⟩
    rw [call_def L.mayFail rfl]
    have a1 : anyV (.str "number") [.str "number", .str "box"] = some true := by rw [nb_in]; decide +kernel
    simp [d135, c135, startV, Tm.v, Tm.may, a1, -any_cons]
    rfl
  | .box s, m, _, hm, hr => by
    obtain ⟨m, rfl⟩ : ∃ n, m = n + 1 := ⟨m - 1, by omega⟩
    rw [call_def L.mayFail rfl]
    have a1 : anyV (.str "box") [.str "number", .str "box"] = some true := by rw [nb_in]; decide +kernel
    simp [d135, c135, startV, Tm.v, Tm.may, a1, -any_cons]
    rfl
  | .op w x y, m, _, hm, hr => by
    obtain ⟨m, rfl⟩ : ∃ n, m = n + 1 := ⟨m - 1, by omega⟩
    have hd : max x.deep y.deep + 1 + 1 ≤ m + 1 := hm
    obtain ⟨hw, rx, ry⟩ := hr
    have e1 := may_eq x (m := m) (top := 0) (by omega) rx
    have e2 := may_eq y (m := m) (top := 0) (by omega) ry
    have xf := Tm.fz x
    have yf := Tm.fz y
    have a1 := (words_bn hw).2
    have a2 := (fl_us hw).1
    have tv : toV (D.tup [D.str "plus", D.str "less", D.str "times", D.str "part"]) = some (.tup [.str "plus", .str "less", .str "times", .str "part"]) := rfl
    rw [call_def L.mayFail rfl]
    have vx : (Tm.op w x y).v = .tup [.str w, x.v, y.v] := rfl
    have nx : (Tm.op w x y).may = (!(w == "under" || w == "same") || (x.may || y.may)) := rfl
    rw [vx, nx]
    generalize (!(w == "under" || w == "same")) = F at *
    generalize x.may = X1 at *
    generalize y.may = Y1 at *
    generalize x.v = XV at *
    generalize y.v = YV at *
    cases F <;> cases X1 <;> (simp [d135, c135, startV, e1, e2, xf, yf, a1, a2, tv, -any_cons]; rfl)
theorem lawMay_eq [L : K03T T] : ∀ (t : Tm) {m top : Nat}, t.deep + 1 ≤ m → t.rng 1000000000 → callV T fr m 138 [t.v] = .ok (.bl t.may) [some t.v]
  | .num i, m, _, hm, hr => by
    obtain ⟨m, rfl⟩ : ∃ n, m = n + 1 := ⟨m - 1, by omega⟩
    rw [call_def L.lawMay rfl]
    have a1 : anyV (.str "number") [.str "box", .str "number"] = some true := by rw [bn_in]; decide +kernel
    simp [d138, c138, startV, Tm.v, Tm.may, a1, -any_cons]
    rfl
  | .box s, m, _, hm, hr => by
    obtain ⟨m, rfl⟩ : ∃ n, m = n + 1 := ⟨m - 1, by omega⟩
    rw [call_def L.lawMay rfl]
    have a1 : anyV (.str "box") [.str "box", .str "number"] = some true := by rw [bn_in]; decide +kernel
    simp [d138, c138, startV, Tm.v, Tm.may, a1, -any_cons]
    rfl
  | .op w x y, m, _, hm, hr => by
    obtain ⟨m, rfl⟩ : ∃ n, m = n + 1 := ⟨m - 1, by omega⟩
    have hd : max x.deep y.deep + 1 + 1 ≤ m + 1 := hm
    obtain ⟨hw, rx, ry⟩ := hr
    have e1 := lawMay_eq x (m := m) (top := 0) (by omega) rx
    have e2 := lawMay_eq y (m := m) (top := 0) (by omega) ry
    have xf := Tm.fz x
    have yf := Tm.fz y
    have a1 := (words_bn hw).1
    have a2 := (fl_us hw).2
    rw [call_def L.lawMay rfl]
    have vx : (Tm.op w x y).v = .tup [.str w, x.v, y.v] := rfl
    have nx : (Tm.op w x y).may = (!(w == "under" || w == "same") || (x.may || y.may)) := rfl
    rw [vx, nx]
    generalize (w == "under" || w == "same") = F at *
    generalize x.may = X1 at *
    generalize y.may = Y1 at *
    generalize x.v = XV at *
    generalize y.v = YV at *
    cases F <;> cases X1 <;> (simp [d138, c138, startV, e1, e2, xf, yf, a1, a2, -any_cons]; rfl)
def _root_.VX.V.isNon : V → Bool
  | .non => true
  | _ => false
theorem ne_oi (r : Option Int) : neV (oi r) (oi r) = some false := by
  cases r with
  | none => rfl
  | some i =>
    show some (!(i == i)) = some false
    rw [beq_self_eq_true]; rfl
theorem told_eq3 [L : K03T T] {top : Int} {ks : List Str} {vs : List Int} {q : Bool} (t0 : 1 ≤ top) (t1 : top ≤ 1000000000) (b : Bxs top ks vs) {t : Tm} (hm : t.deep + 3 ≤ m) (hr : t.rng top) :
    callV T fr m 140 [t.v, .int top, bx q ks vs] = .ok (.bl true) [some t.v, some (.int top), some (bx q ks vs)] := by
  obtain ⟨m, rfl⟩ : ∃ n, m = n + 1 := ⟨m - 1, by omega⟩
  have e1 := lawWorth_eq (T := T) (fr := fr) (q := q) t0 t1 b t (m := m) (by omega) hr
  have e2 := worth_eq (T := T) (fr := fr) (q := q) t0 t1 b t (m := m) (by omega) hr
  have e3 := may_eq (T := T) (fr := fr) t (m := m) (top := 0) (by omega) (Tm.rng_mono t1 hr)
  have hmay := may_wth (top := top) (B := gB ks vs) (t := t)
  have tf := Tm.fz t
  have bf := bx_fz (q := q) (ks := ks) (vs := vs)
  have bf2 := bx_fz (q := true) (ks := ks) (vs := vs)
  have dd : biV .dict [bx q ks vs] = some (bx true ks vs) := bi_dictD (by rw [fzL_all]; simp)
  have nd := ne_bx b (p := q) (q := true)
  have no := ne_oi (wth top (gB ks vs) t)
  have of := oi_fz (wth top (gB ks vs) t)
  have ib : isAnyV (oi (wth top (gB ks vs) t)) [.bool] = some false := by cases wth top (gB ks vs) t <;> rfl
  have io : isV (oi (wth top (gB ks vs) t)) .non = some (oi (wth top (gB ks vs) t)).isNon := by cases wth top (gB ks vs) t <;> rfl
  have hq : (oi (wth top (gB ks vs) t)).isNon = true → t.may = true := by
    intro h
    cases q2 : t.may with
    | true => rfl
    | false =>
      obtain ⟨x, ex⟩ := hmay q2
      rw [ex] at h; cases h
  clear hmay
  rw [call_def L.told rfl]
  generalize bx q ks vs = BX at *
  generalize bx true ks vs = BT at *
  generalize oi (wth top (gB ks vs) t) = O at *
  generalize t.may = MA at *
  generalize t.v = TV at *
  cases hn : O.isNon with
  | true =>
    rw [hn] at io hq
    rw [hq rfl] at e3
    cases q <;> (simp [d140, c140, startV, e1, e2, e3, tf, bf, bf2, dd, nd, no, of, ib, io, -ne_eq]; rfl)
  | false =>
    rw [hn] at io
    cases q <;> (simp [d140, c140, startV, e1, e2, e3, tf, bf, bf2, dd, nd, no, of, ib, io, -ne_eq]; rfl)
end
end VX
end

section
set_option Elab.async false
set_option linter.all false
set_option maxRecDepth 100000
set_option maxHeartbeats 8000000
/-! LLaw: a law's cells. -/
namespace VX
open PySem IX
theorem enumV_get : ∀ {xs : List V} {k j : Nat} {x : V}, (enumV k xs)[j]? = some x → ∃ y, xs[j]? = some y ∧ x = .tup [.int ((k + j : Nat) : Int), y]
  | [], k, j, x, h => by cases h
  | y :: ys, k, 0, x, h => by cases h; exact ⟨y, rfl, rfl⟩
  | y :: ys, k, j + 1, x, h => by
    have h' : (enumV (k + 1) ys)[j]? = some x := by simpa [enumV] using h
    obtain ⟨z, hz, e⟩ := enumV_get h'
    exact ⟨z, by simpa using hz, by rw [e, show k + 1 + j = k + (j + 1) by omega]⟩
theorem enumV_len : ∀ {xs : List V} {k : Nat}, (enumV k xs).length = xs.length
  | [], k => rfl
  | y :: ys, k => by show (enumV (k + 1) ys).length + 1 = _; rw [enumV_len]; rfl
/-- the cells that are walked: the script's first ones, or one that is given -/
theorem cut_ints {ns : List Int} {k : Nat} : cutV (ns.map V.int) none (some (k : Int)) = (ns.take k).map V.int := by
  unfold cutV
  rw [HT.sIx_none, HT.sIx_nat, List.length_map, List.map_take]
  show (ns.map V.int).take (min k ns.length - 0) = _
  rw [Nat.sub_zero]
  by_cases h : k ≤ ns.length
  · rw [Nat.min_eq_left h]
  · rw [Nat.min_eq_right (by omega), List.take_of_length_le (by rw [List.length_map]; omega), List.take_of_length_le (by rw [List.length_map]; omega)]
theorem ints_fz (ns : List Int) : V.fzL (ns.map V.int) = true := by rw [fzL_all]; simp
end VX
end

section
set_option Elab.async false
set_option linter.all false
set_option maxRecDepth 100000
set_option maxHeartbeats 8000000
/-! K03e: law_k03: the whole. -/
namespace VX
open PySem IX
def b139 : IX.S := (.seq (.set 5 (.call 110 (.cons (.loc 0) (.cons (.loc 1) .nil))))
    (.seq (.ite (.bop .gt (.call 106 (.cons (.loc 0) (.cons (.cst (.int 4)) .nil))) (.cst (.int 0))) (.seq (.seti (.loc 3) (.loc 4) (.loc 5))
    .skip) .skip)
    .skip))
theorem c139_eq : c139 = (.seq (.set 3 (.dic .nil))
    (.seq (.loop [4] false (.loc 2) b139)
    (.seq (.ret (.loc 3))
    .skip))) := rfl
def b141a : IX.S := (.seq (.set 6 (.tup (.cons (.call 107 (.cons (.loc 2) (.cons (.lst (.cons (.cst (.str "plus")) (.cons (.cst (.str "less")) (.cons (.cst (.str "under")) (.cons (.cst (.str "same")) .nil))))) .nil))) (.cons (.loc 6) (.cons (.tup (.cons (.cst (.str "box")) (.cons (.call 107 (.cons (.loc 2) (.cons (.slc (.loc 5) .nil (.cst (.int 3))) .nil))) .nil))) .nil)))))
    .skip)
def b141b : IX.S := (.seq (.ite (.not (.call 140 (.cons (.loc 6) (.cons (.loc 11) (.cons (.loc 10) .nil))))) (.seq (.ret (.cst (.bl false)))
    .skip) .skip)
    .skip)
def b141c : IX.S := (.seq (.ite (.bop .notin (.loc 13) (.loc 9)) (.seq (.seti (.loc 12) (.loc 13) (.call 110 (.cons (.loc 2) (.cons (.loc 3) .nil))))
    .skip) .skip)
    .skip)
def t141b : IX.S := (.seq (.set 12 (.bi .dict (.cons (.loc 10) .nil)))
    (.seq (.loop [13] false (.loc 5) b141c)
    (.seq (.ite (.bop .ne (.call 132 (.cons (.loc 6) (.cons (.loc 3) (.cons (.loc 12) .nil)))) (.call 136 (.cons (.loc 6) (.cons (.loc 3) (.cons (.loc 10) .nil))))) (.seq (.ret (.cst (.bl false)))
    .skip) .skip)
    (.seq (.exp (.me .clear (.loc 10) .nil))
    (.seq (.ret (.call 140 (.cons (.loc 6) (.cons (.loc 3) (.cons (.loc 10) .nil)))))
    .skip)))))
def t141a : IX.S := (.seq (.loop [8] false (.rng1 (.call 106 (.cons (.loc 2) (.cons (.cst (.int 3)) .nil)))) b141a)
    (.seq (.set 9 (.bi .tuple (.cons (.bi .sortset (.cons (.call 137 (.cons (.loc 6) .nil)) .nil)) .nil)))
    (.seq (.ite (.or (.bop .ne (.call 134 (.cons (.loc 6) .nil)) (.loc 9)) (.not (.isi (.call 134 (.cons (.loc 6) .nil)) [.tuple]))) (.seq (.ret (.cst (.bl false)))
    .skip) .skip)
    (.seq (.ite (.or (.bop .ne (.call 135 (.cons (.loc 6) .nil)) (.call 138 (.cons (.loc 6) .nil))) (.not (.isi (.call 135 (.cons (.loc 6) .nil)) [.bool]))) (.seq (.ret (.cst (.bl false)))
    .skip) .skip)
    (.seq (.set 10 (.call 139 (.cons (.loc 2) (.cons (.bi .min (.cons (.loc 3) (.cons (.loc 4) .nil))) (.cons (.loc 5) .nil)))))
    (.seq (.loop [11] false (.tup (.cons (.loc 3) (.cons (.loc 4) (.cons (.loc 3) .nil)))) b141b)
    t141b))))))
def w141 : IX.S := (.ite (.bop .eq (.loc 7) (.cst (.int 0))) (.seq (.set 6 (.tup (.cons (.cst (.str "times")) (.cons (.tup (.cons (.cst (.str "number")) (.cons (.cst (.int 0)) .nil))) (.cons (.tup (.cons (.cst (.str "part")) (.cons (.loc 6) (.cons (.tup (.cons (.cst (.str "number")) (.cons (.cst (.int 0)) .nil))) .nil)))) .nil)))))
    .skip) (.seq (.ite (.bop .eq (.loc 7) (.cst (.int 1))) (.seq (.set 6 (.tup (.cons (.cst (.str "under")) (.cons (.tup (.cons (.cst (.str "less")) (.cons (.tup (.cons (.cst (.str "number")) (.cons (.cst (.int 0)) .nil))) (.cons (.tup (.cons (.cst (.str "number")) (.cons (.cst (.int 1)) .nil))) .nil)))) (.cons (.loc 6) .nil)))))
    .skip) .skip)
    .skip))
theorem c141_eq : c141 = (.seq (.set 2 (.call 105 (.cons (.loc 0) (.cons (.loc 1) .nil))))
    (.seq (.set 3 (.call 109 (.cons (.loc 2) .nil)))
    (.seq (.set 4 (.call 109 (.cons (.loc 2) .nil)))
    (.seq (.set 5 (.call 108 (.cons (.loc 2) (.cons (.cst (.int 4)) .nil))))
    (.seq (.set 6 (.call 111 (.cons (.loc 2) (.cons (.bi .min (.cons (.loc 3) (.cons (.loc 4) .nil))) (.cons (.slc (.loc 5) .nil (.cst (.int 3))) (.cons (.bop .add (.cst (.int 1)) (.call 106 (.cons (.loc 2) (.cons (.cst (.int 3)) .nil)))) .nil))))))
    (.seq (.set 7 (.call 106 (.cons (.loc 2) (.cons (.cst (.int 6)) .nil))))
    (.seq w141 t141a))))))) := rfl
def b142 : IX.S := (.seq (.ite (.not (.call 141 (.cons (.loc 2) (.cons (.loc 1) .nil)))) (.seq (.ret (.cst (.bl false)))
    .skip) .skip)
    .skip)
theorem c142_eq : c142 = (.seq (.loop [1, 2] true (.enum (.slc (.bop .add (.loc 0) (.lst (.cons (.cst (.int 3)) .nil))) .nil (.bi .max (.cons (.cst (.int 1)) (.cons (.bi .min (.cons (.cst (.int 24)) (.cons (.bi .len (.cons (.loc 0) .nil)) .nil))) .nil))))) b142)
    (.seq (.ret (.cst (.bl true)))
    .skip)) := rfl
section
variable {T : Tbl} {fr : Nat → Bool} {m c : Nat} {v : V}
theorem boxes_loop [L : K03T T] (hm : 2 ≤ m) {top : Int} (t0 : 0 ≤ top) {ns : List Str} (hn : ns.length ≤ 100) (d : Dr v c) (hc : c < 800000) :
    ∃ (ks : List Str) (vs : List Int) (v' : V) (y4 y5 : Option V), Bxs top ks vs ∧ ks.length ≤ ns.length ∧ Dr v' (c + 3 * ns.length) ∧
      loopV (lpV ⟨callV T fr m, T.meth, T.init, fr⟩ [4] false b139) (ns.map V.str) [some v, some (.int top), some (.lst false (ns.map V.str)), some (.dic true [] []), none, none]
      = .ok .nx [some v', some (.int top), some (.lst false (ns.map V.str)), some (bx true ks vs), y4, y5] := by
  obtain ⟨σ', e, ks, vs, v', y4, y5, b, lk, dv, hσ⟩ := loop_inv (fn := lpV ⟨callV T fr m, T.meth, T.init, fr⟩ [4] false b139)
    (I := fun j σ => ∃ (ks : List Str) (vs : List Int) (v' : V) (y4 y5 : Option V), Bxs top ks vs ∧ ks.length ≤ j ∧ Dr v' (c + 3 * j) ∧ σ = [some v', some (.int top), some (.lst false (ns.map V.str)), some (bx true ks vs), y4, y5])
    (xs := ns.map V.str) (σ := [some v, some (.int top), some (.lst false (ns.map V.str)), some (.dic true [] []), none, none]) 0
    (fun j x σ hx ⟨ks, vs, v', y4, y5, b, lk, dv, hσ⟩ => by
      have jl := (List.getElem?_eq_some_iff.mp hx).1
      rw [List.length_map] at jl
      rw [List.getElem?_map] at hx
      obtain ⟨s, _, rfl⟩ := Option.map_eq_some_iff.mp hx
      obtain ⟨i, v1, i0, i1, d1, e1⟩ := number_eq (T := T) (fr := fr) (m := m) hm dv (by omega) t0
      obtain ⟨w, v2, w0, w1, d2, e2⟩ := next_eq (T := T) (fr := fr) (m := m) (by omega) d1 (by omega) (z := 4) (by decide) (by decide)
      have vf := dv.fz
      have vf1 := d1.fz
      have vf2 := d2.fz
      have bf := bx_fz (q := true) (ks := ks) (vs := vs)
      have sb := seti_bx (ks := ks) (vs := vs) (by omega) (s := s) (i := i)
      have bp := b.put (s := s) i0 i1
      have lp := len_put ks vs s i
      subst hσ
      by_cases hw : 0 < w
      · refine ⟨[some v2, some (.int top), some (.lst false (ns.map V.str)), some (bx true (putB ks vs s i).1 (putB ks vs s i).2), some (.str s), some (.int i)], ?_, (putB ks vs s i).1, (putB ks vs s i).2, v2, _, _, bp, by omega, d2.mono (by omega), rfl⟩
        clear bp lp
        generalize bx true (putB ks vs s i).1 (putB ks vs s i).2 = BN at *
        generalize bx true ks vs = BX at *
        generalize ns.map V.str = NS at *
        rw [lpV_eq]
        simp [b139, e1, e2, vf, vf1, vf2, bf, sb, hw]
      · refine ⟨[some v2, some (.int top), some (.lst false (ns.map V.str)), some (bx true ks vs), some (.str s), some (.int i)], ?_, ks, vs, v2, _, _, b, by omega, d2.mono (by omega), rfl⟩
        generalize bx true ks vs = BX at *
        generalize ns.map V.str = NS at *
        rw [lpV_eq]
        simp [b139, e1, e2, vf, vf1, vf2, bf, hw])
    ⟨[], [], v, none, none, .nil, Nat.zero_le _, d.mono (by omega), rfl⟩
  subst hσ
  rw [List.length_map] at lk dv
  exact ⟨ks, vs, v', y4, y5, b, by omega, dv.mono (by omega), e⟩
theorem boxes_eq [L : K03T T] (hm : 3 ≤ m) {top : Int} (t0 : 0 ≤ top) {ns : List Str} (hn : ns.length ≤ 100) (d : Dr v c) (hc : c < 800000) {q : Bool} :
    ∃ (ks : List Str) (vs : List Int) (v' : V), Bxs top ks vs ∧ ks.length ≤ ns.length ∧ Dr v' (c + 3 * ns.length) ∧
      callV T fr m 139 [v, .int top, .lst q (ns.map V.str)] = .ok (bx true ks vs) [some v', some (.int top), some (.lst false (ns.map V.str))] := by
  obtain ⟨m, rfl⟩ : ∃ n, m = n + 1 := ⟨m - 1, by omega⟩
  obtain ⟨ks, vs, v', y4, y5, b, lk, dv, e⟩ := boxes_loop (T := T) (fr := fr) (m := m) (by omega) t0 hn d hc
  refine ⟨ks, vs, v', b, lk, dv, ?_⟩
  have nf := strs_fz3 ns
  have fz0 : V.freezeL (ns.map V.str) = ns.map V.str := freezeL_fz _ nf
  have vf := d.fz
  have vf' := dv.fz
  have bf := bx_fz (q := true) (ks := ks) (vs := vs)
  have hd : d139.body = c139 := rfl
  rw [call_def L.boxes rfl, hd, c139_eq]
  have hs : startV d139 [v, .int top, .lst q (ns.map V.str)] = [some v, some (.int top), some (.lst q (ns.map V.str)), none, none, none] := rfl
  rw [hs]
  generalize bx true ks vs = BX at *
  generalize ns.map V.str = NS at *
  cases q <;> (simp [e, vf, vf', nf, fz0, bf, -lpV_eq]; rfl)
theorem cut3 {ns : List Str} : cutV (ns.map V.str) none (some 3) = (ns.take 3).map V.str := by
  show ((ns.map V.str).drop (HT.sIx (ns.map V.str).length 0 none)).take _ = _
  rw [show HT.sIx (ns.map V.str).length 0 none = 0 from rfl, List.drop_zero, Nat.sub_zero]
  have : HT.sIx (ns.map V.str).length (ns.map V.str).length (some 3) = min 3 ns.length := by
    rw [List.length_map]
    unfold HT.sIx
    simp
  rw [this, ← List.map_take, show min 3 ns.length = min ns.length 3 from Nat.min_comm _ _]
  congr 1
  rw [List.take_eq_take_iff]
  omega
theorem right_wrap [L : K03T T] (hm : 3 ≤ m) {M : Int} {ns : List Str} (h0 : ns ≠ []) (hn : ns.length ≤ 100) {n : Nat} (hn2 : n ≤ 10) {t : Tm} (ht : t.rng M) (d : Dr v c) (hc : c < 700000) {x0 x1 x3 x4 x7 x8 : Option V} :
    ∃ (t' : Tm) (v' : V) (y8 : Option V), t'.rng M ∧ t'.deep ≤ t.deep + n ∧ Dr v' (c + 2 * n) ∧
      loopV (lpV ⟨callV T fr m, T.meth, T.init, fr⟩ [8] false b141a) (rangeV 0 n) [x0, x1, some v, x3, x4, some (.lst true (ns.map V.str)), some t.v, x7, x8, none, none, none, none, none]
      = .ok .nx [x0, x1, some v', x3, x4, some (.lst true (ns.map V.str)), some t'.v, x7, y8, none, none, none, none, none] := by
  have nf := strs_fz3 ns
  have sl := slc_lst (q := true) (lo := none) (hi := some 3) nf
  rw [cut3] at sl
  have nf3 := strs_fz3 (ns.take 3)
  obtain ⟨σ', e, t', v', y8, rt, dt, dv, hσ⟩ := loop_inv (fn := lpV ⟨callV T fr m, T.meth, T.init, fr⟩ [8] false b141a)
    (I := fun j σ => ∃ (t' : Tm) (v' : V) (y8 : Option V), t'.rng M ∧ t'.deep ≤ t.deep + j ∧ Dr v' (c + 2 * j) ∧ σ = [x0, x1, some v', x3, x4, some (.lst true (ns.map V.str)), some t'.v, x7, y8, none, none, none, none, none])
    (xs := rangeV 0 n) (σ := [x0, x1, some v, x3, x4, some (.lst true (ns.map V.str)), some t.v, x7, x8, none, none, none, none, none]) 0
    (fun j x σ hx ⟨t', v', y8, rt, dt, dv, hσ⟩ => by
      rw [rangeV_eq] at hx
      have jl := (List.getElem?_eq_some_iff.mp hx).1
      rw [List.length_map, List.length_range] at jl
      rw [List.getElem?_map] at hx
      obtain ⟨k, _, rfl⟩ := Option.map_eq_some_iff.mp hx
      obtain ⟨k1, y, v1, hy, d1, e1⟩ := pick_lst (T := T) (fr := fr) (m := m) (q := true) (by omega) dv (by omega) (xs := [.str "plus", .str "less", .str "under", .str "same"]) (by simp) (by simp) (by simp)
      have hy' : ∃ s, y = .str s ∧ s ∈ words6 := by
        have := List.mem_of_getElem? hy
        simp only [List.mem_cons, List.mem_nil_iff, or_false] at this
        rcases this with rfl | rfl | rfl | rfl <;> exact ⟨_, rfl, by decide +kernel⟩
      obtain ⟨w, rfl, hw⟩ := hy'
      obtain ⟨k2, y2, v2, hy2, d2, e2⟩ := pick_lst (T := T) (fr := fr) (m := m) (q := true) (by omega) d1 (by omega) (xs := (ns.take 3).map V.str) (by
        intro z
        have := List.map_eq_nil_iff.mp z
        rw [List.take_eq_nil_iff] at this
        rcases this with h | h
        · cases h
        · exact h0 h) (by rw [List.length_map, List.length_take]; omega) nf3
      rw [List.getElem?_map] at hy2
      obtain ⟨s, _, rfl⟩ := Option.map_eq_some_iff.mp hy2
      have vf := dv.fz
      have vf1 := d1.fz
      have vf2 := d2.fz
      have tf := Tm.fz t'
      subst hσ
      refine ⟨[x0, x1, some v2, x3, x4, some (.lst true (ns.map V.str)), some (Tm.op w t' (.box s)).v, x7, some (.int (0 + (k : Int))), none, none, none, none, none], ?_, .op w t' (.box s), v2, _, ⟨hw, rt, True.intro⟩, ?_, d2.mono (by omega), rfl⟩
      · have hv : (Tm.op w t' (.box s)).v = .tup [.str w, t'.v, .tup [.str "box", .str s]] := rfl
        rw [hv]
        clear hv
        generalize (0 + (k : Int)) = K at *
        generalize (ns.take 3).map V.str = N3 at *
        generalize ns.map V.str = NS at *
        generalize t'.v = TV at *
        rw [lpV_eq]
        simp [b141a, e1, e2, vf, vf1, vf2, tf, sl, nf3]
      · show max t'.deep 0 + 1 ≤ _
        omega)
    ⟨t, v, x8, ht, Nat.le_refl _, d.mono (by omega), rfl⟩
  subst hσ
  have hl : (rangeV 0 n).length = n := by rw [rangeV_eq, List.length_map, List.length_range]
  rw [hl] at dt dv
  exact ⟨t', v', y8, rt, by omega, dv.mono (by omega), e⟩
theorem right_tolds [L : K03T T] {tp ot : Int} {ks : List Str} {vs : List Int} {t : Tm} {M : Int} (m1 : 1 ≤ M) (mt : M ≤ tp) (mo : M ≤ ot) (tp1 : tp ≤ 1000000000) (ot1 : ot ≤ 1000000000) (b : Bxs M ks vs) (rt : t.rng M) (hm : t.deep + 3 ≤ m) {x0 x1 x2 x3 x4 x5 x7 x8 x9 x11 : Option V} :
    ∃ (y11 : Option V), loopV (lpV ⟨callV T fr m, T.meth, T.init, fr⟩ [11] false b141b) [.int tp, .int ot, .int tp] [x0, x1, x2, x3, x4, x5, some t.v, x7, x8, x9, some (bx true ks vs), x11, none, none]
      = .ok .nx [x0, x1, x2, x3, x4, x5, some t.v, x7, x8, x9, some (bx true ks vs), y11, none, none] := by
  have e1 := told_eq3 (T := T) (fr := fr) (q := true) (by omega) tp1 (b.mono mt) hm (Tm.rng_mono mt rt)
  have e2 := told_eq3 (T := T) (fr := fr) (q := true) (by omega) ot1 (b.mono mo) hm (Tm.rng_mono mo rt)
  have bf := bx_fz (q := true) (ks := ks) (vs := vs)
  have tf := Tm.fz t
  refine ⟨some (.int tp), ?_⟩
  generalize bx true ks vs = BX at *
  generalize t.v = TV at *
  simp [b141b, e1, e2, bf, tf, loop_cons, loop_nil]
theorem right_more [L : K03T T] (hm : 2 ≤ m) {top : Int} (t0 : 0 ≤ top) {t : Tm} {ns : List Str} (hn : ns.length ≤ 100) {ks : List Str} {vs : List Int} (b : Bxs top ks vs) (lk : ks.length ≤ 100) (d : Dr v c) (hc : c < 700000) {x0 x1 x4 x5 x6 x7 x8 x10 x11 : Option V} :
    ∃ (ks' : List Str) (vs' : List Int) (v' : V) (y13 : Option V), Bxs top ks' vs' ∧ (∀ s ∈ t.names, gB ks' vs' s = gB ks vs s) ∧ Dr v' (c + 2 * ns.length) ∧
      loopV (lpV ⟨callV T fr m, T.meth, T.init, fr⟩ [13] false b141c) (ns.map V.str) [x0, x1, some v, some (.int top), x4, x5, x6, x7, x8, some (.tup ((sortU t.names).map V.str)), x10, x11, some (bx true ks vs), none]
      = .ok .nx [x0, x1, some v', some (.int top), x4, x5, x6, x7, x8, some (.tup ((sortU t.names).map V.str)), x10, x11, some (bx true ks' vs'), y13] := by
  obtain ⟨σ', e, ks', vs', v', y13, b', same, lk', dv, hσ⟩ := loop_inv (fn := lpV ⟨callV T fr m, T.meth, T.init, fr⟩ [13] false b141c)
    (I := fun j σ => ∃ (ks' : List Str) (vs' : List Int) (v' : V) (y13 : Option V), Bxs top ks' vs' ∧ (∀ s ∈ t.names, gB ks' vs' s = gB ks vs s) ∧ ks'.length ≤ 100 + j ∧ Dr v' (c + 2 * j) ∧
      σ = [x0, x1, some v', some (.int top), x4, x5, x6, x7, x8, some (.tup ((sortU t.names).map V.str)), x10, x11, some (bx true ks' vs'), y13])
    (xs := ns.map V.str) (σ := [x0, x1, some v, some (.int top), x4, x5, x6, x7, x8, some (.tup ((sortU t.names).map V.str)), x10, x11, some (bx true ks vs), none]) 0
    (fun j x σ hx ⟨ks', vs', v', y13, b', same, lk', dv, hσ⟩ => by
      have jl := (List.getElem?_eq_some_iff.mp hx).1
      rw [List.length_map] at jl
      rw [List.getElem?_map] at hx
      obtain ⟨s, _, rfl⟩ := Option.map_eq_some_iff.mp hx
      have ai := any_strs (s := s) (ts := sortU t.names)
      have vf := dv.fz
      have bf := bx_fz (q := true) (ks := ks') (vs := vs')
      have mf := strs_fz3 (sortU t.names)
      subst hσ
      cases hi : (sortU t.names).any (· == s) with
      | true =>
        rw [hi] at ai
        refine ⟨[x0, x1, some v', some (.int top), x4, x5, x6, x7, x8, some (.tup ((sortU t.names).map V.str)), x10, x11, some (bx true ks' vs'), some (.str s)], ?_, ks', vs', v', _, b', same, by omega, dv.mono (by omega), rfl⟩
        generalize bx true ks' vs' = BX at *
        generalize (sortU t.names).map V.str = SN at *
        rw [lpV_eq]
        simp [b141c, ai, vf, bf, mf, -any_cons]
      | false =>
        rw [hi] at ai
        obtain ⟨i, v1, i0, i1, d1, e1⟩ := number_eq (T := T) (fr := fr) (m := m) hm dv (by omega) t0
        have vf1 := d1.fz
        have sb := seti_bx (ks := ks') (vs := vs') (by omega) (s := s) (i := i)
        have lp := len_put ks' vs' s i
        refine ⟨[x0, x1, some v1, some (.int top), x4, x5, x6, x7, x8, some (.tup ((sortU t.names).map V.str)), x10, x11, some (bx true (putB ks' vs' s i).1 (putB ks' vs' s i).2), some (.str s)], ?_, (putB ks' vs' s i).1, (putB ks' vs' s i).2, v1, _, b'.put i0 i1, fun u hu => ?_, by omega, d1.mono (by omega), rfl⟩
        · generalize bx true (putB ks' vs' s i).1 (putB ks' vs' s i).2 = BN at *
          generalize bx true ks' vs' = BX at *
          generalize (sortU t.names).map V.str = SN at *
          rw [lpV_eq]
          simp [b141c, ai, e1, vf, vf1, bf, mf, sb, -any_cons]
        · rw [gB_put b' (fun z => ?_), same u hu]
          subst z
          have := List.any_eq_false.mp hi s (mem_sortU.mpr hu)
          simp at this)
    ⟨ks, vs, v, none, b, fun _ _ => rfl, by omega, d.mono (by omega), rfl⟩
  subst hσ
  rw [List.length_map] at dv
  exact ⟨ks', vs', v', y13, b', same, dv.mono (by omega), e⟩
theorem ne_strs (ts : List Str) : neV (.tup (ts.map V.str)) (.tup (ts.map V.str)) = some false := by
  have key : ∀ ts : List Str, eqVL (eqV 59) (ts.map V.str) (ts.map V.str) = some true := by
    intro ts
    induction ts with
    | nil => rfl
    | cons t r ih =>
      show kan (eqV 59 (.str t) (.str t)) (eqVL (eqV 59) (r.map V.str) (r.map V.str)) = _
      rw [ih]
      show some ((t == t) && true) = _
      rw [beq_self_eq_true]; rfl
  show ((eqVL (eqV 59) (ts.map V.str) (ts.map V.str)).map fun b => b && (ts.map V.str).length == (ts.map V.str).length).map (!·) = _
  rw [key ts, beq_self_eq_true]; rfl
theorem right_b [L : K03T T] (hm : 12 ≤ m) {M tp : Int} (m1 : 1 ≤ M) (mt : M ≤ tp) (tp1 : tp ≤ 1000000000) {t : Tm} (rt : t.rng M) (dt : t.deep ≤ 8) {ns : List Str} (hn : ns.length ≤ 100) {ks : List Str} {vs : List Int} (b : Bxs M ks vs) (lk : ks.length ≤ 100) (d : Dr v c) (hc : c < 700000) {x0 x1 x4 x7 x8 x11 : Option V} :
    ∃ σ', exV ⟨callV T fr m, T.meth, T.init, fr⟩ t141b [x0, x1, some v, some (.int tp), x4, some (.lst false (ns.map V.str)), some t.v, x7, x8, some (.tup ((sortU t.names).map V.str)), some (bx true ks vs), x11, none, none]
      = .ok (.rt (.bl true)) σ' := by
  have bt := b.mono mt
  have rtp := Tm.rng_mono mt rt
  obtain ⟨ks', vs', v', y13, b', same, dv, el⟩ := right_more (T := T) (fr := fr) (m := m) (by omega) (top := tp) (by omega) (t := t) hn bt lk d hc (x0 := x0) (x1 := x1) (x4 := x4) (x5 := some (.lst false (ns.map V.str))) (x6 := some t.v) (x7 := x7) (x8 := x8) (x10 := some (bx true ks vs)) (x11 := x11)
  have e1 := worth_eq (T := T) (fr := fr) (q := true) (by omega) tp1 b' t (m := m) (by omega) rtp
  have e2 := lawWorth_eq (T := T) (fr := fr) (q := true) (by omega) tp1 bt t (m := m) (by omega) rtp
  rw [wth_same same] at e1
  have no := ne_oi (wth tp (gB ks vs) t)
  have of := oi_fz (wth tp (gB ks vs) t)
  have e3 := told_eq3 (T := T) (fr := fr) (q := true) (m := m) (by omega) tp1 (Bxs.nil (top := tp)) (t := t) (by omega) rtp
  have e3' : callV T fr m 140 [t.v, .int tp, .dic true [] []] = .ok (.bl true) [some t.v, some (.int tp), some (.dic true [] [])] := e3
  have nf := strs_fz3 ns
  have mf := strs_fz3 (sortU t.names)
  have tf := Tm.fz t
  have vf := d.fz
  have vf' := dv.fz
  have bf := bx_fz (q := true) (ks := ks) (vs := vs)
  have bf' := bx_fz (q := true) (ks := ks') (vs := vs')
  have dd : biV .dict [bx true ks vs] = some (bx true ks vs) := bi_dictD (by rw [fzL_all]; simp)
  have ct : meTyV .clear (some (bx true ks vs)) = true := rfl
  have cl : meV .clear (bx true ks vs) [] = some (.non, some (.dic true [] [])) := rfl
  clear e3 same
  refine ⟨[x0, x1, some v', some (.int tp), x4, some (.lst false (ns.map V.str)), some t.v, x7, x8, some (.tup ((sortU t.names).map V.str)), some (.dic true [] []), x11, some (bx true ks' vs'), y13], ?_⟩
  generalize bx true ks' vs' = BN at *
  generalize bx true ks vs = BX at *
  generalize oi (wth tp (gB ks vs) t) = O at *
  generalize (sortU t.names).map V.str = SN at *
  generalize ns.map V.str = NS at *
  generalize t.v = TV at *
  simp [t141b, el, e1, e2, e3', no, of, nf, mf, tf, vf, vf', bf, bf', dd, ct, cl, -lpV_eq, -ne_eq]
theorem right_a [L : K03T T] (hm : 12 ≤ m) {M tp ot : Int} (m1 : 1 ≤ M) (mt : M ≤ tp) (mo : M ≤ ot) (tp1 : tp ≤ 1000000000) (ot1 : ot ≤ 1000000000) (hM : (if ot < tp then ot else tp) = M) {t : Tm} (rt : t.rng M) (dt : t.deep ≤ 5) {ns : List Str} (h0 : ns ≠ []) (hn : ns.length ≤ 20) (d : Dr v c) (hc : c < 600000) {x0 x1 x7 : Option V} :
    ∃ σ', exV ⟨callV T fr m, T.meth, T.init, fr⟩ t141a [x0, x1, some v, some (.int tp), some (.int ot), some (.lst true (ns.map V.str)), some t.v, x7, none, none, none, none, none, none]
      = .ok (.rt (.bl true)) σ' := by
  obtain ⟨r, v1, r0, r1, d1, e1⟩ := next_eq (T := T) (fr := fr) (m := m) (by omega) d (by omega) (z := 3) (by decide) (by decide)
  obtain ⟨n, rfl⟩ : ∃ n : Nat, r = n := ⟨r.toNat, by omega⟩
  obtain ⟨t', v2, y8, rt', dt', d2, e2⟩ := right_wrap (T := T) (fr := fr) (m := m) (by omega) h0 (by omega) (n := n) (by omega) rt d1 (by omega) (x0 := x0) (x1 := x1) (x3 := some (.int tp)) (x4 := some (.int ot)) (x7 := x7) (x8 := none)
  have dt7 : t'.deep ≤ 7 := by omega
  have r9 := Tm.rng_mono (show M ≤ 1000000000 by omega) rt'
  have e3 := lawNames_eq3 (T := T) (fr := fr) t' (m := m) (top := 0) (by omega) (by omega) r9
  have p1 : 2 ^ t'.deep ≤ 2 ^ 7 := Nat.pow_le_pow_right (by decide) dt7
  have l1 := names_len t'
  have ss : biV .sortset [.lst true (t'.names.map V.str)] = some (.lst true ((sortU t'.names).map V.str)) := ss_strs (by omega)
  have mf := strs_fz3 (sortU t'.names)
  have tl := bi_tupL (q := true) mf
  have e4 := asked_eq (T := T) (fr := fr) (m := m) (t := t') (by omega) (by omega) r9
  have ns4 := ne_strs (sortU t'.names)
  have e5 := may_eq (T := T) (fr := fr) t' (m := m) (top := 0) (by omega) r9
  have e6 := lawMay_eq (T := T) (fr := fr) t' (m := m) (top := 0) (by omega) r9
  obtain ⟨ks, vs, v3, b, lk, d3, e7⟩ := boxes_eq (T := T) (fr := fr) (m := m) (by omega) (top := M) (by omega) (ns := ns) (by omega) d2 (by omega) (q := true)
  obtain ⟨y11, e8⟩ := right_tolds (T := T) (fr := fr) (m := m) m1 mt mo tp1 ot1 b rt' (by omega) (x0 := x0) (x1 := x1) (x2 := some v3) (x3 := some (.int tp)) (x4 := some (.int ot)) (x5 := some (.lst false (ns.map V.str))) (x7 := x7) (x8 := y8) (x9 := some (.tup ((sortU t'.names).map V.str))) (x11 := none)
  obtain ⟨σ', e9⟩ := right_b (T := T) (fr := fr) (m := m) hm m1 mt tp1 rt' (by omega) (ns := ns) (by omega) b (by omega) d3 (by omega) (x0 := x0) (x1 := x1) (x4 := some (.int ot)) (x7 := x7) (x8 := y8) (x11 := y11)
  refine ⟨σ', ?_⟩
  have mn : biV .min [.int tp, .int ot] = some (.int M) := by
    show some (V.int (if ot < tp then ot else tp)) = _
    rw [hM]
  have nm : neV (.bl t'.may) (.bl t'.may) = some false := by cases t'.may <;> rfl
  have sm := small_nat (n := n) (by omega)
  have nf := strs_fz3 ns
  have tf := Tm.fz t'
  have tf0 := Tm.fz t
  have vf := d.fz
  have vf1 := d1.fz
  have vf2 := d2.fz
  have vf3 := d3.fz
  have bf := bx_fz (q := true) (ks := ks) (vs := vs)
  have tn : (n : Int).toNat = n := by omega
  rw [← tn] at e2
  generalize bx true ks vs = BX at *
  generalize (sortU t'.names).map V.str = SN at *
  generalize t'.names.map V.str = TN at *
  generalize t'.may = MA at *
  generalize ns.map V.str = NS at *
  generalize t'.v = TV at *
  generalize t.v = TV0 at *
  generalize (n : Int) = N at *
  simp [t141a, e1, e2, e3, e4, e5, e6, e7, e8, e9, ss, mf, tl, ns4, mn, nm, kr2_ok sm, nf, tf, tf0, vf, vf1, vf2, vf3, bf, -lpV_eq, -ne_eq]
theorem right_eq [L : K03T T] (hm : 13 ≤ m) {cell : Int} {k : Nat} (hk : k ≤ 1000) : ∃ a b, callV T fr m 141 [.int cell, .int (k : Int)] = .ok (.bl true) [a, b] := by
  obtain ⟨m, rfl⟩ : ∃ n, m = n + 1 := ⟨m - 1, by omega⟩
  obtain ⟨v0, d0, e0⟩ := begun_eq (T := T) (fr := fr) (m := m) (by omega) (cell := cell) (k := (k : Int)) (by omega) (by omega)
  obtain ⟨tp, v1, tp0, tp1, d1, e1⟩ := top_eq (T := T) (fr := fr) (m := m) (by omega) d0 (by omega)
  obtain ⟨ot, v2, ot0, ot1, d2, e2⟩ := top_eq (T := T) (fr := fr) (m := m) (by omega) d1 (by omega)
  obtain ⟨lead, tail, v3, hl, ht, d3, e3⟩ := names_eq (T := T) (fr := fr) (m := m) (by omega) d2 (by omega) (k := 4) (by decide)
  obtain ⟨N0, hN0⟩ : ∃ N : List Str, N = (List.range 4).map (nm lead tail) := ⟨_, rfl⟩
  have hN1 : (List.range 4).map (fun j => V.str (nm lead tail j)) = N0.map V.str := by rw [hN0, List.map_map]; rfl
  have e3' : callV T fr m 108 [v2, .int 4] = .ok (.lst true (N0.map V.str)) [some v3, some (.int 4)] := by rw [← hN1]; exact e3
  have lN0 : N0.length = 4 := by rw [hN0]; rfl
  have nN0 : N0 ≠ [] := by intro z; rw [z] at lN0; cases lN0
  clear e3 hN1
  obtain ⟨M, hM⟩ : ∃ M : Int, (if ot < tp then ot else tp) = M := ⟨_, rfl⟩
  have m1 : 1 ≤ M := by rw [← hM]; split <;> omega
  have mt : M ≤ tp := by rw [← hM]; split <;> omega
  have mo : M ≤ ot := by rw [← hM]; split <;> omega
  have mn : biV .min [.int tp, .int ot] = some (.int M) := by
    show some (V.int (if ot < tp then ot else tp)) = _
    rw [hM]
  have nf := strs_fz3 N0
  have nf3 := strs_fz3 (N0.take 3)
  have sl := slc_lst (q := true) (lo := none) (hi := some 3) nf
  rw [cut3] at sl
  obtain ⟨r, v4, r0, r1, d4, e4⟩ := next_eq (T := T) (fr := fr) (m := m) (by omega) d3 (by omega) (z := 3) (by decide) (by decide)
  obtain ⟨n, rfl⟩ : ∃ n : Nat, r = n := ⟨r.toNat, by omega⟩
  have n3 : (N0.take 3) ≠ [] := by
    intro z
    rw [List.take_eq_nil_iff] at z
    rcases z with h | h
    · cases h
    · exact nN0 h
  have td : tdraws (n + 1) ≤ 38 := by
    have : n = 0 ∨ n = 1 ∨ n = 2 := by omega
    rcases this with rfl | rfl | rfl <;> decide
  obtain ⟨t, v5, to, d5, e5⟩ := term_eq (T := T) (fr := fr) (q := true) (top := M) (by omega) n3 (by rw [List.length_take]; omega) (n + 1) (m := m) (by omega) d4 (by omega)
  rw [show ((n + 1 : Nat) : Int) = 1 + (n : Int) by omega] at e5
  obtain ⟨tr, td2⟩ := Tm.ok_rng to
  obtain ⟨w, v6, w0, w1, d6, e6⟩ := next_eq (T := T) (fr := fr) (m := m) (by omega) d5 (by omega) (z := 6) (by decide) (by decide)
  have hd : d141.body = c141 := rfl
  rw [call_def L.right rfl, hd, c141_eq]
  have hs : startV d141 [.int cell, .int (k : Int)] = [some (.int cell), some (.int (k : Int)), none, none, none, none, none, none, none, none, none, none, none, none] := rfl
  rw [hs]
  have fin : ∀ σ : Sv, finV d141 σ = [slot σ 0, slot σ 1] := fun _ => rfl
  have tf := Tm.fz t
  have vf := d0.fz
  have vf1 := d1.fz
  have vf2 := d2.fz
  have vf3 := d3.fz
  have vf4 := d4.fz
  have vf5 := d5.fz
  have vf6 := d6.fz
  have go : ∀ (t' : Tm), t'.rng M → t'.deep ≤ 5 → exV ⟨callV T fr m, T.meth, T.init, fr⟩ w141 [some (.int cell), some (.int (k : Int)), some v6, some (.int tp), some (.int ot), some (.lst true (N0.map V.str)), some t.v, some (.int w), none, none, none, none, none, none] = .ok .nx [some (.int cell), some (.int (k : Int)), some v6, some (.int tp), some (.int ot), some (.lst true (N0.map V.str)), some t'.v, some (.int w), none, none, none, none, none, none] →
      ∃ a b, leaveV d141 (exV ⟨callV T fr m, T.meth, T.init, fr⟩ (.seq (.set 2 (.call 105 (.cons (.loc 0) (.cons (.loc 1) .nil))))
    (.seq (.set 3 (.call 109 (.cons (.loc 2) .nil)))
    (.seq (.set 4 (.call 109 (.cons (.loc 2) .nil)))
    (.seq (.set 5 (.call 108 (.cons (.loc 2) (.cons (.cst (.int 4)) .nil))))
    (.seq (.set 6 (.call 111 (.cons (.loc 2) (.cons (.bi .min (.cons (.loc 3) (.cons (.loc 4) .nil))) (.cons (.slc (.loc 5) .nil (.cst (.int 3))) (.cons (.bop .add (.cst (.int 1)) (.call 106 (.cons (.loc 2) (.cons (.cst (.int 3)) .nil)))) .nil))))))
    (.seq (.set 7 (.call 106 (.cons (.loc 2) (.cons (.cst (.int 6)) .nil))))
    (.seq w141 t141a))))))) [some (.int cell), some (.int (k : Int)), none, none, none, none, none, none, none, none, none, none, none, none]) = .ok (.bl true) [a, b] := by
    intro t' rt dt ew
    obtain ⟨σ', ea⟩ := right_a (T := T) (fr := fr) (m := m) (by omega) m1 mt mo tp1 ot1 hM rt dt nN0 (by omega) d6 (by omega) (x0 := some (.int cell)) (x1 := some (.int (k : Int))) (x7 := some (.int w))
    refine ⟨slot σ' 0, slot σ' 1, ?_⟩
    rw [← fin]
    have tf' := Tm.fz t'
    clear hN0 to tr td2 rt dt
    generalize (N0.take 3).map V.str = N3 at *
    generalize N0.map V.str = NS at *
    generalize t'.v = TV' at *
    generalize t.v = TV at *
    generalize (n : Int) = N at *
    generalize (k : Int) = K at *
    simp [e0, e1, e2, e3', e4, e5, e6, ew, ea, mn, sl, nf, nf3, tf, tf', vf, vf1, vf2, vf3, vf4, vf5, vf6]
  have z1 : (("times" : Str) ∈ words6) ∧ (("part" : Str) ∈ words6) ∧ (("under" : Str) ∈ words6) ∧ (("less" : Str) ∈ words6) := by decide +kernel
  by_cases h0 : w = 0
  · subst h0
    refine go (.op "times" (.num 0) (.op "part" t (.num 0))) ⟨z1.1, ⟨by omega, by omega⟩, z1.2.1, tr, ⟨by omega, by omega⟩⟩ (by show max 0 (max t.deep 0 + 1) + 1 ≤ 5; omega) ?_
    have hv : (Tm.op "times" (.num 0) (.op "part" t (.num 0))).v = .tup [.str "times", .tup [.str "number", .int 0], .tup [.str "part", t.v, .tup [.str "number", .int 0]]] := rfl
    rw [hv]
    generalize N0.map V.str = NS at *
    generalize t.v = TV at *
    generalize (k : Int) = K at *
    simp [w141, tf, vf6]
  · by_cases h1 : w = 1
    · subst h1
      refine go (.op "under" (.op "less" (.num 0) (.num 1)) t) ⟨z1.2.2.1, ⟨z1.2.2.2, ⟨by omega, by omega⟩, ⟨by omega, by omega⟩⟩, tr⟩ (by show max (max 0 0 + 1) t.deep + 1 ≤ 5; omega) ?_
      have hv : (Tm.op "under" (.op "less" (.num 0) (.num 1)) t).v = .tup [.str "under", .tup [.str "less", .tup [.str "number", .int 0], .tup [.str "number", .int 1]], t.v] := rfl
      rw [hv]
      generalize N0.map V.str = NS at *
      generalize t.v = TV at *
      generalize (k : Int) = K at *
      simp [w141, tf, vf6]
    · refine go t tr (by omega) ?_
      have b0 : (w == 0) = false := by simpa using h0
      have b1 : (w == 1) = false := by simpa using h1
      generalize N0.map V.str = NS at *
      generalize t.v = TV at *
      generalize (k : Int) = K at *
      simp [w141, tf, vf6, b0, b1]
theorem k03_loop [L : K03T T] (hm : 13 ≤ m) {cs : List Int} (hl : cs.length ≤ 64) {S : V} {x1 x2 : Option V} :
    ∃ y1 y2 : Option V, loopV (lpV ⟨callV T fr m, T.meth, T.init, fr⟩ [1, 2] true b142) (enumV 0 (cs.map V.int)) [some S, x1, x2] = .ok .nx [some S, y1, y2] := by
  obtain ⟨σ', e, y1, y2, hσ⟩ := loop_inv (fn := lpV ⟨callV T fr m, T.meth, T.init, fr⟩ [1, 2] true b142)
    (I := fun j σ => ∃ y1 y2 : Option V, σ = [some S, y1, y2])
    (xs := enumV 0 (cs.map V.int)) (σ := [some S, x1, x2]) 0
    (fun j x σ hx ⟨y1, y2, hσ⟩ => by
      have jl := (List.getElem?_eq_some_iff.mp hx).1
      rw [enumV_len, List.length_map] at jl
      obtain ⟨y, hy, rfl⟩ := enumV_get hx
      rw [List.getElem?_map] at hy
      obtain ⟨cell, _, rfl⟩ := Option.map_eq_some_iff.mp hy
      obtain ⟨a, b, e⟩ := right_eq (T := T) (fr := fr) (m := m) hm (cell := cell) (k := 0 + j) (by omega)
      subst hσ
      refine ⟨_, ?_, some (.int ((0 + j : Nat) : Int)), some (.int cell), rfl⟩
      generalize ((0 + j : Nat) : Int) = K at *
      rw [lpV_eq]
      simp [b142, e, -lpV_eq])
    ⟨x1, x2, rfl⟩
  subst hσ
  exact ⟨y1, y2, e⟩
theorem k03_true [L : K03T T] {n : Nat} (hn : 14 ≤ n) (ns : List Int) (hl : ns.length ≤ 63) : ∃ σ, callV T fr n 142 [.lck (ns.map V.int)] = .ok (.bl true) σ := by
  obtain ⟨m, rfl⟩ : ∃ k, n = k + 1 := ⟨n - 1, by omega⟩
  have fz := ints_fz ns
  have hd : d142.body = c142 := rfl
  rw [call_def L.law rfl, hd, c142_eq]
  obtain ⟨k, hk⟩ : ∃ k : Nat, k = max 1 (min 24 ns.length) := ⟨_, rfl⟩
  obtain ⟨y1, y2, e⟩ := k03_loop (T := T) (fr := fr) (m := m) (by omega) (cs := (ns ++ [3]).take k) (by rw [List.length_take]; omega) (S := .lck (ns.map V.int)) (x1 := none) (x2 := none)
  have hs : startV d142 [.lck (ns.map V.int)] = [some (.lck (ns.map V.int)), none, none] := rfl
  have ad : binV .add (.lck (ns.map V.int)) (.lst true [.int 3]) = some (.lst true ((ns ++ [3]).map V.int)) := by
    show (if (ns.map V.int).length + ([V.int 3] : List V).length ≤ 16777216 ∧ (V.fzL (ns.map V.int) && V.fzL [V.int 3]) = true then some (V.lst true (ns.map V.int ++ [.int 3])) else none) = _
    rw [if_pos ⟨by rw [List.length_map]; show ns.length + 1 ≤ _; omega, by rw [fz]; rfl⟩, List.map_append]; rfl
  have le : biV .len [.lck (ns.map V.int)] = some (.int (ns.length : Int)) := by
    show some (V.int ((ns.map V.int).length : Int)) = _
    rw [List.length_map]
  have mi : biV .min [.int 24, .int (ns.length : Int)] = some (.int ((min 24 ns.length : Nat) : Int)) := by
    show some (V.int (if (ns.length : Int) < 24 then (ns.length : Int) else 24)) = _
    congr 2
    split <;> omega
  have ma : biV .max [.int 1, .int ((min 24 ns.length : Nat) : Int)] = some (.int (k : Int)) := by
    show some (V.int (if ((min 24 ns.length : Nat) : Int) > 1 then ((min 24 ns.length : Nat) : Int) else 1)) = _
    congr 2
    split <;> omega
  have fz2 := ints_fz (ns ++ [3])
  have fz3 := ints_fz ((ns ++ [3]).take k)
  have sl := slc_lst (q := true) (lo := none) (hi := some (k : Int)) fz2
  rw [cut_ints] at sl
  rw [hs]
  generalize ((ns ++ [3]).take k).map V.int = CS at *
  generalize (ns ++ [3]).map V.int = NS3 at *
  generalize ns.map V.int = NS at *
  generalize (ns.length : Int) = LN at *
  generalize ((min 24 ns.length : Nat) : Int) = MN at *
  generalize (k : Int) = KK at *
  simp [sl, e, fz, fz2, fz3, ad, le, mi, ma, -lpV_eq, -bi_lenK]
end
end VX
end
section
set_option Elab.async false
set_option linter.all false
set_option maxRecDepth 100000
set_option maxHeartbeats 4000000
namespace K03
open PySem PySem.Spec PyProof.Rows L2 IX

def top (i : Nat) : Stmt := PySem.Challenge.pw_pausebook_k03_whole_worths.main.body.getD i (.Pass ⟨0, 0, 0, 0⟩)
def tbl : List (Str × GK) := [("FAILING", .cst (.tup [(.str "plus"), (.str "less"), (.str "times"), (.str "part")])),
  ("reckoned", .fn 131),
  ("worth", .fn 132),
  ("names_in", .fn 133),
  ("asked", .fn 134),
  ("may_fail", .fn 135),
  ("_law_begun", .fn 105),
  ("_law_next", .fn 106),
  ("_law_pick", .fn 107),
  ("_law_names", .fn 108),
  ("_law_top", .fn 109),
  ("_law_number", .fn 110),
  ("_law_term", .fn 111),
  ("_law_worth", .fn 136),
  ("_law_names_of", .fn 137),
  ("_law_may_fail", .fn 138),
  ("_law_boxes", .fn 139),
  ("_law_told_right", .fn 140),
  ("_law_right", .fn 141),
  ("law", .fn 142)]
def G : Gam := ⟨fun x => tbl.lookup x, fun _ => none⟩
abbrev N0 : List Str := ["word", "one", "other", "top", "found"]
abbrev N1 : List Str := ["A", "top", "boxes", "one", "other"]
abbrev N2 : List Str := ["A"]
abbrev N3 : List Str := ["A"]
abbrev N4 : List Str := ["A"]
abbrev N5 : List Str := ["_law_cell", "_law_k", "_law_seed"]
abbrev N6 : List Str := ["_law_draw", "_law_size", "_law_found", "_law_mixed"]
abbrev N7 : List Str := ["_law_draw", "_law_some"]
abbrev N8 : List Str := ["_law_draw", "_law_many", "_law_letters", "_law_lead", "_law_tail", "_law_k"]
abbrev N9 : List Str := ["_law_draw"]
abbrev N10 : List Str := ["_law_draw", "_law_top_here", "_law_way", "_law_small"]
abbrev N11 : List Str := ["_law_draw", "_law_top_here", "_law_names_here", "_law_deep", "_law_way", "_law_word", "_law_one"]
abbrev N12 : List Str := ["_law_ka", "_law_top_here", "_law_boxes_here", "_law_one", "_law_other", "_law_found"]
abbrev N13 : List Str := ["_law_ka"]
abbrev N14 : List Str := ["_law_ka"]
abbrev N15 : List Str := ["_law_draw", "_law_top_here", "_law_names_here", "_law_found", "_law_name", "_law_number_here"]
abbrev N16 : List Str := ["_law_ka", "_law_top_here", "_law_boxes_here", "_law_there", "_law_due", "_law_found"]
abbrev N17 : List Str := ["_law_cell", "_law_k", "_law_draw", "_law_top_here", "_law_other", "_law_names_here", "_law_ka", "_law_way", "_law_turn", "_law_mine", "_law_boxes_here", "_law_bound", "_law_more", "_law_name"]
abbrev N18 : List Str := ["_law_script", "_law_k", "_law_cell"]
def T : Tbl := ⟨fun i => match i with
  | 105 => some VX.d105
  | 106 => some VX.d106
  | 107 => some VX.d107
  | 108 => some VX.d108
  | 109 => some VX.d109
  | 110 => some VX.d110
  | 111 => some VX.d111
  | 131 => some VX.d131
  | 132 => some VX.d132
  | 133 => some VX.d133
  | 134 => some VX.d134
  | 135 => some VX.d135
  | 136 => some VX.d136
  | 137 => some VX.d137
  | 138 => some VX.d138
  | 139 => some VX.d139
  | 140 => some VX.d140
  | 141 => some VX.d141
  | 142 => some VX.d142
  | _ => none, fun _ _ => none, fun _ => none⟩
theorem sc0 : FnScope N0 ["word", "one", "other", "top"] (defScope (top 2)) := ⟨rfl, rfl, rfl, by decide +kernel, rfl, by decide +kernel, by decide +kernel⟩
theorem ok0 : compSs (compS G N0 60 (defScope (top 2))) (defBody (top 2)) = some VX.c131 := by kernel_rfl
theorem sc1 : FnScope N1 ["A", "top", "boxes"] (defScope (top 3)) := ⟨rfl, rfl, rfl, by decide +kernel, rfl, by decide +kernel, by decide +kernel⟩
theorem ok1 : compSs (compS G N1 60 (defScope (top 3))) (defBody (top 3)) = some VX.c132 := by kernel_rfl
theorem sc2 : FnScope N2 ["A"] (defScope (top 4)) := ⟨rfl, rfl, rfl, by decide +kernel, rfl, by decide +kernel, by decide +kernel⟩
theorem ok2 : compSs (compS G N2 60 (defScope (top 4))) (defBody (top 4)) = some VX.c133 := by kernel_rfl
theorem sc3 : FnScope N3 ["A"] (defScope (top 5)) := ⟨rfl, rfl, rfl, by decide +kernel, rfl, by decide +kernel, by decide +kernel⟩
theorem ok3 : compSs (compS G N3 60 (defScope (top 5))) (defBody (top 5)) = some VX.c134 := by kernel_rfl
theorem sc4 : FnScope N4 ["A"] (defScope (top 6)) := ⟨rfl, rfl, rfl, by decide +kernel, rfl, by decide +kernel, by decide +kernel⟩
theorem ok4 : compSs (compS G N4 60 (defScope (top 6))) (defBody (top 6)) = some VX.c135 := by kernel_rfl
theorem sc5 : FnScope N5 ["_law_cell", "_law_k"] (defScope (top 8)) := ⟨rfl, rfl, rfl, by decide +kernel, rfl, by decide +kernel, by decide +kernel⟩
theorem ok5 : compSs (compS G N5 60 (defScope (top 8))) (defBody (top 8)) = some VX.c105 := by kernel_rfl
theorem sc6 : FnScope N6 ["_law_draw", "_law_size"] (defScope (top 9)) := ⟨rfl, rfl, rfl, by decide +kernel, rfl, by decide +kernel, by decide +kernel⟩
theorem ok6 : compSs (compS G N6 60 (defScope (top 9))) (defBody (top 9)) = some VX.c106 := by kernel_rfl
theorem sc7 : FnScope N7 ["_law_draw", "_law_some"] (defScope (top 10)) := ⟨rfl, rfl, rfl, by decide +kernel, rfl, by decide +kernel, by decide +kernel⟩
theorem ok7 : compSs (compS G N7 60 (defScope (top 10))) (defBody (top 10)) = some VX.c107 := by kernel_rfl
theorem sc8 : FnScope N8 ["_law_draw", "_law_many"] (defScope (top 11)) := ⟨rfl, rfl, rfl, by decide +kernel, rfl, by decide +kernel, by decide +kernel⟩
theorem ok8 : compSs (compS G N8 60 (defScope (top 11))) (defBody (top 11)) = some VX.c108 := by kernel_rfl
theorem sc9 : FnScope N9 ["_law_draw"] (defScope (top 12)) := ⟨rfl, rfl, rfl, by decide +kernel, rfl, by decide +kernel, by decide +kernel⟩
theorem ok9 : compSs (compS G N9 60 (defScope (top 12))) (defBody (top 12)) = some VX.c109 := by kernel_rfl
theorem sc10 : FnScope N10 ["_law_draw", "_law_top_here"] (defScope (top 13)) := ⟨rfl, rfl, rfl, by decide +kernel, rfl, by decide +kernel, by decide +kernel⟩
theorem ok10 : compSs (compS G N10 60 (defScope (top 13))) (defBody (top 13)) = some VX.c110 := by kernel_rfl
theorem sc11 : FnScope N11 ["_law_draw", "_law_top_here", "_law_names_here", "_law_deep"] (defScope (top 14)) := ⟨rfl, rfl, rfl, by decide +kernel, rfl, by decide +kernel, by decide +kernel⟩
theorem ok11 : compSs (compS G N11 60 (defScope (top 14))) (defBody (top 14)) = some VX.c111 := by kernel_rfl
theorem sc12 : FnScope N12 ["_law_ka", "_law_top_here", "_law_boxes_here"] (defScope (top 15)) := ⟨rfl, rfl, rfl, by decide +kernel, rfl, by decide +kernel, by decide +kernel⟩
theorem ok12 : compSs (compS G N12 60 (defScope (top 15))) (defBody (top 15)) = some VX.c136 := by kernel_rfl
theorem sc13 : FnScope N13 ["_law_ka"] (defScope (top 16)) := ⟨rfl, rfl, rfl, by decide +kernel, rfl, by decide +kernel, by decide +kernel⟩
theorem ok13 : compSs (compS G N13 60 (defScope (top 16))) (defBody (top 16)) = some VX.c137 := by kernel_rfl
theorem sc14 : FnScope N14 ["_law_ka"] (defScope (top 17)) := ⟨rfl, rfl, rfl, by decide +kernel, rfl, by decide +kernel, by decide +kernel⟩
theorem ok14 : compSs (compS G N14 60 (defScope (top 17))) (defBody (top 17)) = some VX.c138 := by kernel_rfl
theorem sc15 : FnScope N15 ["_law_draw", "_law_top_here", "_law_names_here"] (defScope (top 18)) := ⟨rfl, rfl, rfl, by decide +kernel, rfl, by decide +kernel, by decide +kernel⟩
theorem ok15 : compSs (compS G N15 60 (defScope (top 18))) (defBody (top 18)) = some VX.c139 := by kernel_rfl
theorem sc16 : FnScope N16 ["_law_ka", "_law_top_here", "_law_boxes_here"] (defScope (top 19)) := ⟨rfl, rfl, rfl, by decide +kernel, rfl, by decide +kernel, by decide +kernel⟩
theorem ok16 : compSs (compS G N16 60 (defScope (top 19))) (defBody (top 19)) = some VX.c140 := by kernel_rfl
theorem sc17 : FnScope N17 ["_law_cell", "_law_k"] (defScope (top 20)) := ⟨rfl, rfl, rfl, by decide +kernel, rfl, by decide +kernel, by decide +kernel⟩
theorem ok17 : compSs (compS G N17 60 (defScope (top 20))) (defBody (top 20)) = some VX.c141 := by kernel_rfl
theorem sc18 : FnScope N18 ["_law_script"] (defScope (top 21)) := ⟨rfl, rfl, rfl, by decide +kernel, rfl, by decide +kernel, by decide +kernel⟩
theorem ok18 : compSs (compS G N18 60 (defScope (top 21))) (defBody (top 21)) = some VX.c142 := by kernel_rfl
instance lib : VX.K03T T := { reckoned := rfl, worth := rfl, namesIn := rfl, asked := rfl, mayFail := rfl, lawWorth := rfl, lawNames := rfl, lawMay := rfl, boxes := rfl, told := rfl, right := rfl, law := rfl, begun := rfl, next := rfl, pick := rfl, names := rfl, top := rfl, number := rfl, term := rfl }
theorem law_true : ∀ ns : List Int, ns.length ≤ 63 → ∃ h', callF T 60 142 [.lck (ns.map D.int)] [] = .ok (.bl true) h' := VX.law_V (fr := fun _ => false) fun ns hl => VX.k03_true (by decide) ns hl
theorem all_mk {l : PySem.W.OpenLaw} {w : World} {K : PySem.W.Frag} {h : Heap} {mg : Str → Option Value} {fa : Addr} (X : K.In h) (Gn : h.Ns mainGlobals mg) (hfa : mg "law" = some (.ref fa))
    {f0 f1 f2 f3 f4 f5 f6 f7 f8 f9 f10 f11 f12 f13 f14 f15 f16 f17 f18 : Addr} {od0 an0 od1 an1 od2 an2 od3 an3 od4 an4 od5 an5 od6 an6 od7 an7 od8 an8 od9 an9 od10 an10 od11 an11 od12 an12 od13 an13 od14 an14 od15 an15 od16 an16 od17 an17 od18 an18 : Option Addr} {sl0 sl1 sl2 sl3 sl4 sl5 sl6 sl7 sl8 sl9 sl10 sl11 sl12 sl13 sl14 sl15 sl16 sl17 sl18 : Array (Option Value)} {oc0 kV0 dc0 pm0 cd0 ct0 oc1 kV1 dc1 pm1 cd1 ct1 oc2 kV2 dc2 pm2 cd2 ct2 oc3 kV3 dc3 pm3 cd3 ct3 oc4 kV4 dc4 pm4 cd4 ct4 oc5 kV5 dc5 pm5 cd5 ct5 oc6 kV6 dc6 pm6 cd6 ct6 oc7 kV7 dc7 pm7 cd7 ct7 oc8 kV8 dc8 pm8 cd8 ct8 oc9 kV9 dc9 pm9 cd9 ct9 oc10 kV10 dc10 pm10 cd10 ct10 oc11 kV11 dc11 pm11 cd11 ct11 oc12 kV12 dc12 pm12 cd12 ct12 oc13 kV13 dc13 pm13 cd13 ct13 oc14 kV14 dc14 pm14 cd14 ct14 oc15 kV15 dc15 pm15 cd15 ct15 oc16 kV16 dc16 pm16 cd16 ct16 oc17 kV17 dc17 pm17 cd17 ct17 oc18 kV18 dc18 pm18 cd18 ct18 : Value} {p0 : Addr} {pd0 : Option Addr} {pn0 : Nat} {ps0 : Array (Option Value)} {tk0_0 tk0_1 tk0_2 tk0_3 : Tok}
    (a0 : PySem.W.nsIn K mainGlobals "reckoned" = some (some (.ref f0))) (l0 : K.lookup f0 = some ⟨oc0, od0, .func (PySem.W.fnOf "reckoned" "reckoned" (defArgs (top 2)) (defBody (top 2)) (defScope (top 2)) .none kV0 dc0 pm0 an0 cd0 ct0), sl0⟩) (c0 : PySem.W.codeIn K cd0 "reckoned" = true) (k0 : PySem.W.keepIn K (.ref f0) = true)
    (a1 : PySem.W.nsIn K mainGlobals "worth" = some (some (.ref f1))) (l1 : K.lookup f1 = some ⟨oc1, od1, .func (PySem.W.fnOf "worth" "worth" (defArgs (top 3)) (defBody (top 3)) (defScope (top 3)) .none kV1 dc1 pm1 an1 cd1 ct1), sl1⟩) (c1 : PySem.W.codeIn K cd1 "worth" = true) (k1 : PySem.W.keepIn K (.ref f1) = true)
    (a2 : PySem.W.nsIn K mainGlobals "names_in" = some (some (.ref f2))) (l2 : K.lookup f2 = some ⟨oc2, od2, .func (PySem.W.fnOf "names_in" "names_in" (defArgs (top 4)) (defBody (top 4)) (defScope (top 4)) .none kV2 dc2 pm2 an2 cd2 ct2), sl2⟩) (c2 : PySem.W.codeIn K cd2 "names_in" = true) (k2 : PySem.W.keepIn K (.ref f2) = true)
    (a3 : PySem.W.nsIn K mainGlobals "asked" = some (some (.ref f3))) (l3 : K.lookup f3 = some ⟨oc3, od3, .func (PySem.W.fnOf "asked" "asked" (defArgs (top 5)) (defBody (top 5)) (defScope (top 5)) .none kV3 dc3 pm3 an3 cd3 ct3), sl3⟩) (c3 : PySem.W.codeIn K cd3 "asked" = true) (k3 : PySem.W.keepIn K (.ref f3) = true)
    (a4 : PySem.W.nsIn K mainGlobals "may_fail" = some (some (.ref f4))) (l4 : K.lookup f4 = some ⟨oc4, od4, .func (PySem.W.fnOf "may_fail" "may_fail" (defArgs (top 6)) (defBody (top 6)) (defScope (top 6)) .none kV4 dc4 pm4 an4 cd4 ct4), sl4⟩) (c4 : PySem.W.codeIn K cd4 "may_fail" = true) (k4 : PySem.W.keepIn K (.ref f4) = true)
    (a5 : PySem.W.nsIn K mainGlobals "_law_begun" = some (some (.ref f5))) (l5 : K.lookup f5 = some ⟨oc5, od5, .func (PySem.W.fnOf "_law_begun" "_law_begun" (defArgs (top 8)) (defBody (top 8)) (defScope (top 8)) .none kV5 dc5 pm5 an5 cd5 ct5), sl5⟩) (c5 : PySem.W.codeIn K cd5 "_law_begun" = true) (k5 : PySem.W.keepIn K (.ref f5) = true)
    (a6 : PySem.W.nsIn K mainGlobals "_law_next" = some (some (.ref f6))) (l6 : K.lookup f6 = some ⟨oc6, od6, .func (PySem.W.fnOf "_law_next" "_law_next" (defArgs (top 9)) (defBody (top 9)) (defScope (top 9)) .none kV6 dc6 pm6 an6 cd6 ct6), sl6⟩) (c6 : PySem.W.codeIn K cd6 "_law_next" = true) (k6 : PySem.W.keepIn K (.ref f6) = true)
    (a7 : PySem.W.nsIn K mainGlobals "_law_pick" = some (some (.ref f7))) (l7 : K.lookup f7 = some ⟨oc7, od7, .func (PySem.W.fnOf "_law_pick" "_law_pick" (defArgs (top 10)) (defBody (top 10)) (defScope (top 10)) .none kV7 dc7 pm7 an7 cd7 ct7), sl7⟩) (c7 : PySem.W.codeIn K cd7 "_law_pick" = true) (k7 : PySem.W.keepIn K (.ref f7) = true)
    (a8 : PySem.W.nsIn K mainGlobals "_law_names" = some (some (.ref f8))) (l8 : K.lookup f8 = some ⟨oc8, od8, .func (PySem.W.fnOf "_law_names" "_law_names" (defArgs (top 11)) (defBody (top 11)) (defScope (top 11)) .none kV8 dc8 pm8 an8 cd8 ct8), sl8⟩) (c8 : PySem.W.codeIn K cd8 "_law_names" = true) (k8 : PySem.W.keepIn K (.ref f8) = true)
    (a9 : PySem.W.nsIn K mainGlobals "_law_top" = some (some (.ref f9))) (l9 : K.lookup f9 = some ⟨oc9, od9, .func (PySem.W.fnOf "_law_top" "_law_top" (defArgs (top 12)) (defBody (top 12)) (defScope (top 12)) .none kV9 dc9 pm9 an9 cd9 ct9), sl9⟩) (c9 : PySem.W.codeIn K cd9 "_law_top" = true) (k9 : PySem.W.keepIn K (.ref f9) = true)
    (a10 : PySem.W.nsIn K mainGlobals "_law_number" = some (some (.ref f10))) (l10 : K.lookup f10 = some ⟨oc10, od10, .func (PySem.W.fnOf "_law_number" "_law_number" (defArgs (top 13)) (defBody (top 13)) (defScope (top 13)) .none kV10 dc10 pm10 an10 cd10 ct10), sl10⟩) (c10 : PySem.W.codeIn K cd10 "_law_number" = true) (k10 : PySem.W.keepIn K (.ref f10) = true)
    (a11 : PySem.W.nsIn K mainGlobals "_law_term" = some (some (.ref f11))) (l11 : K.lookup f11 = some ⟨oc11, od11, .func (PySem.W.fnOf "_law_term" "_law_term" (defArgs (top 14)) (defBody (top 14)) (defScope (top 14)) .none kV11 dc11 pm11 an11 cd11 ct11), sl11⟩) (c11 : PySem.W.codeIn K cd11 "_law_term" = true) (k11 : PySem.W.keepIn K (.ref f11) = true)
    (a12 : PySem.W.nsIn K mainGlobals "_law_worth" = some (some (.ref f12))) (l12 : K.lookup f12 = some ⟨oc12, od12, .func (PySem.W.fnOf "_law_worth" "_law_worth" (defArgs (top 15)) (defBody (top 15)) (defScope (top 15)) .none kV12 dc12 pm12 an12 cd12 ct12), sl12⟩) (c12 : PySem.W.codeIn K cd12 "_law_worth" = true) (k12 : PySem.W.keepIn K (.ref f12) = true)
    (a13 : PySem.W.nsIn K mainGlobals "_law_names_of" = some (some (.ref f13))) (l13 : K.lookup f13 = some ⟨oc13, od13, .func (PySem.W.fnOf "_law_names_of" "_law_names_of" (defArgs (top 16)) (defBody (top 16)) (defScope (top 16)) .none kV13 dc13 pm13 an13 cd13 ct13), sl13⟩) (c13 : PySem.W.codeIn K cd13 "_law_names_of" = true) (k13 : PySem.W.keepIn K (.ref f13) = true)
    (a14 : PySem.W.nsIn K mainGlobals "_law_may_fail" = some (some (.ref f14))) (l14 : K.lookup f14 = some ⟨oc14, od14, .func (PySem.W.fnOf "_law_may_fail" "_law_may_fail" (defArgs (top 17)) (defBody (top 17)) (defScope (top 17)) .none kV14 dc14 pm14 an14 cd14 ct14), sl14⟩) (c14 : PySem.W.codeIn K cd14 "_law_may_fail" = true) (k14 : PySem.W.keepIn K (.ref f14) = true)
    (a15 : PySem.W.nsIn K mainGlobals "_law_boxes" = some (some (.ref f15))) (l15 : K.lookup f15 = some ⟨oc15, od15, .func (PySem.W.fnOf "_law_boxes" "_law_boxes" (defArgs (top 18)) (defBody (top 18)) (defScope (top 18)) .none kV15 dc15 pm15 an15 cd15 ct15), sl15⟩) (c15 : PySem.W.codeIn K cd15 "_law_boxes" = true) (k15 : PySem.W.keepIn K (.ref f15) = true)
    (a16 : PySem.W.nsIn K mainGlobals "_law_told_right" = some (some (.ref f16))) (l16 : K.lookup f16 = some ⟨oc16, od16, .func (PySem.W.fnOf "_law_told_right" "_law_told_right" (defArgs (top 19)) (defBody (top 19)) (defScope (top 19)) .none kV16 dc16 pm16 an16 cd16 ct16), sl16⟩) (c16 : PySem.W.codeIn K cd16 "_law_told_right" = true) (k16 : PySem.W.keepIn K (.ref f16) = true)
    (a17 : PySem.W.nsIn K mainGlobals "_law_right" = some (some (.ref f17))) (l17 : K.lookup f17 = some ⟨oc17, od17, .func (PySem.W.fnOf "_law_right" "_law_right" (defArgs (top 20)) (defBody (top 20)) (defScope (top 20)) .none kV17 dc17 pm17 an17 cd17 ct17), sl17⟩) (c17 : PySem.W.codeIn K cd17 "_law_right" = true) (k17 : PySem.W.keepIn K (.ref f17) = true)
    (a18 : PySem.W.nsIn K mainGlobals "law" = some (some (.ref f18))) (l18 : K.lookup f18 = some ⟨oc18, od18, .func (PySem.W.fnOf "law" "law" (defArgs (top 21)) (defBody (top 21)) (defScope (top 21)) .none kV18 dc18 pm18 an18 cd18 ct18), sl18⟩) (c18 : PySem.W.codeIn K cd18 "law" = true) (k18 : PySem.W.keepIn K (.ref f18) = true)
    (u0 : PySem.W.nsIn K mainGlobals "FAILING" = some (some (.ref p0))) (v0 : K.lookup p0 = some ⟨.type "tuple", pd0, .seq #[.str "plus" tk0_0, .str "less" tk0_1, .str "times" tk0_2, .str "part" tk0_3] pn0, ps0⟩)
    (z0 : PySem.W.nsIn K mainGlobals "len" = some none) (z1 : PySem.W.nsIn K mainGlobals "max" = some none) (z2 : PySem.W.nsIn K mainGlobals "min" = some none) (z3 : PySem.W.nsIn K mainGlobals "int" = some none) (z4 : PySem.W.nsIn K mainGlobals "str" = some none) (z5 : PySem.W.nsIn K mainGlobals "list" = some none) (z6 : PySem.W.nsIn K mainGlobals "tuple" = some none) (z7 : PySem.W.nsIn K mainGlobals "all" = some none) (z8 : PySem.W.nsIn K mainGlobals "isinstance" = some none) (z9 : PySem.W.nsIn K mainGlobals "range" = some none) (z10 : PySem.W.nsIn K mainGlobals "enumerate" = some none) (z11 : PySem.W.nsIn K mainGlobals "bool" = some none) (z12 : PySem.W.nsIn K mainGlobals "dict" = some none) (z13 : PySem.W.nsIn K mainGlobals "sorted" = some none) (z14 : PySem.W.nsIn K mainGlobals "set" = some none) :
    ∃ fd : FuncData, (∀ (s : Shared) (v : Value), BindsTo s fd ⟨[v], []⟩ [("_law_script", v)]) ∧ ∀ base : Heap, K.In base → base.Ns mainGlobals mg → FnOk l.prog w K mg base (L2.CX l.prog w) 60 fa fd ["_law_script"] (IX.spLaw K) := by
  have e := hfa.symm.trans (PySem.W.mg_of X Gn a18)
  cases e
  have D0 := def_at (G := G) (T := T) (f := 131) (fuel := 60) (d := VX.d131) X Gn a0 l0 c0 k0 sc0 (fun _ _ _ _ _ _ us hl => match us, hl with | [_, _, _, _], _ => rfl) rfl rfl rfl ok0
  have D1 := def_at (G := G) (T := T) (f := 132) (fuel := 60) (d := VX.d132) X Gn a1 l1 c1 k1 sc1 (fun _ _ _ _ _ _ us hl => match us, hl with | [_, _, _], _ => rfl) rfl rfl rfl ok1
  have D2 := def_at (G := G) (T := T) (f := 133) (fuel := 60) (d := VX.d133) X Gn a2 l2 c2 k2 sc2 (fun _ _ _ _ _ _ us hl => match us, hl with | [_], _ => rfl) rfl rfl rfl ok2
  have D3 := def_at (G := G) (T := T) (f := 134) (fuel := 60) (d := VX.d134) X Gn a3 l3 c3 k3 sc3 (fun _ _ _ _ _ _ us hl => match us, hl with | [_], _ => rfl) rfl rfl rfl ok3
  have D4 := def_at (G := G) (T := T) (f := 135) (fuel := 60) (d := VX.d135) X Gn a4 l4 c4 k4 sc4 (fun _ _ _ _ _ _ us hl => match us, hl with | [_], _ => rfl) rfl rfl rfl ok4
  have D5 := def_at (G := G) (T := T) (f := 105) (fuel := 60) (d := VX.d105) X Gn a5 l5 c5 k5 sc5 (fun _ _ _ _ _ _ us hl => match us, hl with | [_, _], _ => rfl) rfl rfl rfl ok5
  have D6 := def_at (G := G) (T := T) (f := 106) (fuel := 60) (d := VX.d106) X Gn a6 l6 c6 k6 sc6 (fun _ _ _ _ _ _ us hl => match us, hl with | [_, _], _ => rfl) rfl rfl rfl ok6
  have D7 := def_at (G := G) (T := T) (f := 107) (fuel := 60) (d := VX.d107) X Gn a7 l7 c7 k7 sc7 (fun _ _ _ _ _ _ us hl => match us, hl with | [_, _], _ => rfl) rfl rfl rfl ok7
  have D8 := def_at (G := G) (T := T) (f := 108) (fuel := 60) (d := VX.d108) X Gn a8 l8 c8 k8 sc8 (fun _ _ _ _ _ _ us hl => match us, hl with | [_, _], _ => rfl) rfl rfl rfl ok8
  have D9 := def_at (G := G) (T := T) (f := 109) (fuel := 60) (d := VX.d109) X Gn a9 l9 c9 k9 sc9 (fun _ _ _ _ _ _ us hl => match us, hl with | [_], _ => rfl) rfl rfl rfl ok9
  have D10 := def_at (G := G) (T := T) (f := 110) (fuel := 60) (d := VX.d110) X Gn a10 l10 c10 k10 sc10 (fun _ _ _ _ _ _ us hl => match us, hl with | [_, _], _ => rfl) rfl rfl rfl ok10
  have D11 := def_at (G := G) (T := T) (f := 111) (fuel := 60) (d := VX.d111) X Gn a11 l11 c11 k11 sc11 (fun _ _ _ _ _ _ us hl => match us, hl with | [_, _, _, _], _ => rfl) rfl rfl rfl ok11
  have D12 := def_at (G := G) (T := T) (f := 136) (fuel := 60) (d := VX.d136) X Gn a12 l12 c12 k12 sc12 (fun _ _ _ _ _ _ us hl => match us, hl with | [_, _, _], _ => rfl) rfl rfl rfl ok12
  have D13 := def_at (G := G) (T := T) (f := 137) (fuel := 60) (d := VX.d137) X Gn a13 l13 c13 k13 sc13 (fun _ _ _ _ _ _ us hl => match us, hl with | [_], _ => rfl) rfl rfl rfl ok13
  have D14 := def_at (G := G) (T := T) (f := 138) (fuel := 60) (d := VX.d138) X Gn a14 l14 c14 k14 sc14 (fun _ _ _ _ _ _ us hl => match us, hl with | [_], _ => rfl) rfl rfl rfl ok14
  have D15 := def_at (G := G) (T := T) (f := 139) (fuel := 60) (d := VX.d139) X Gn a15 l15 c15 k15 sc15 (fun _ _ _ _ _ _ us hl => match us, hl with | [_, _, _], _ => rfl) rfl rfl rfl ok15
  have D16 := def_at (G := G) (T := T) (f := 140) (fuel := 60) (d := VX.d140) X Gn a16 l16 c16 k16 sc16 (fun _ _ _ _ _ _ us hl => match us, hl with | [_, _, _], _ => rfl) rfl rfl rfl ok16
  have D17 := def_at (G := G) (T := T) (f := 141) (fuel := 60) (d := VX.d141) X Gn a17 l17 c17 k17 sc17 (fun _ _ _ _ _ _ us hl => match us, hl with | [_, _], _ => rfl) rfl rfl rfl ok17
  have D18 := def_at (G := G) (T := T) (f := 142) (fuel := 60) (d := VX.d142) X Gn a18 l18 c18 k18 sc18 (fun _ _ _ _ _ _ us hl => match us, hl with | [_], _ => rfl) rfl rfl rfl ok18
  have M : Mods K mg G T := mods_of (tbl := tbl) ⟨cst_tup X Gn u0 v0 (.cons (.str _ _ (by decide +kernel)) (.cons (.str _ _ (by decide +kernel)) (.cons (.str _ _ (by decide +kernel)) (.cons (.str _ _ (by decide +kernel)) (.nil))))) (by show 4 ≤ line; decide), ⟨_, _, _, D0⟩, ⟨_, _, _, D1⟩, ⟨_, _, _, D2⟩, ⟨_, _, _, D3⟩, ⟨_, _, _, D4⟩, ⟨_, _, _, D5⟩, ⟨_, _, _, D6⟩, ⟨_, _, _, D7⟩, ⟨_, _, _, D8⟩, ⟨_, _, _, D9⟩, ⟨_, _, _, D10⟩, ⟨_, _, _, D11⟩, ⟨_, _, _, D12⟩, ⟨_, _, _, D13⟩, ⟨_, _, _, D14⟩, ⟨_, _, _, D15⟩, ⟨_, _, _, D16⟩, ⟨_, _, _, D17⟩, ⟨_, _, _, D18⟩, trivial⟩ (non_of X Gn z0 z1 z2 z3 z4 z5 z6 z7 z8 z9 z10 z11 z12 z13 z14)
  exact ⟨_, fun s v => .of_eq rfl, fun base _ _ => law_fn M D18 law_true⟩
end K03
open PySem PySem.W PyProof.Rows
set_option maxRecDepth 100000 in
set_option maxHeartbeats 0 in
theorem PySem.Challenge.cw_pausebook_k03_whole_worths_holds : PySem.Challenge.rw_pausebook_k03_whole_worths.Holds := by
  w_on; o_law; k_head; (case hw => w_witness2)
  k_fill
  refine IX.walk_law (l := PySem.Challenge.rw_pausebook_k03_whole_worths) (x := "_law_script") rfl rfl (fun w h Y => PySem.W.kIn_of Y) ?F
  case F =>
    intro w mg fa h KX Gn hmg
    refine' K03.all_mk KX Gn hmg ?a0 ?l0 ?c0 ?k0 ?a1 ?l1 ?c1 ?k1 ?a2 ?l2 ?c2 ?k2 ?a3 ?l3 ?c3 ?k3 ?a4 ?l4 ?c4 ?k4 ?a5 ?l5 ?c5 ?k5 ?a6 ?l6 ?c6 ?k6 ?a7 ?l7 ?c7 ?k7 ?a8 ?l8 ?c8 ?k8 ?a9 ?l9 ?c9 ?k9 ?a10 ?l10 ?c10 ?k10 ?a11 ?l11 ?c11 ?k11 ?a12 ?l12 ?c12 ?k12 ?a13 ?l13 ?c13 ?k13 ?a14 ?l14 ?c14 ?k14 ?a15 ?l15 ?c15 ?k15 ?a16 ?l16 ?c16 ?k16 ?a17 ?l17 ?c17 ?k17 ?a18 ?l18 ?c18 ?k18 ?u0 ?v0 ?z0 ?z1 ?z2 ?z3 ?z4 ?z5 ?z6 ?z7 ?z8 ?z9 ?z10 ?z11 ?z12 ?z13 ?z14
    (case a0 => k_is)
    (case l0 => k_is)
    (case c0 => k_is)
    (case k0 => k_is)
    (case a1 => k_is)
    (case l1 => k_is)
    (case c1 => k_is)
    (case k1 => k_is)
    (case a2 => k_is)
    (case l2 => k_is)
    (case c2 => k_is)
    (case k2 => k_is)
    (case a3 => k_is)
    (case l3 => k_is)
    (case c3 => k_is)
    (case k3 => k_is)
    (case a4 => k_is)
    (case l4 => k_is)
    (case c4 => k_is)
    (case k4 => k_is)
    (case a5 => k_is)
    (case l5 => k_is)
    (case c5 => k_is)
    (case k5 => k_is)
    (case a6 => k_is)
    (case l6 => k_is)
    (case c6 => k_is)
    (case k6 => k_is)
    (case a7 => k_is)
    (case l7 => k_is)
    (case c7 => k_is)
    (case k7 => k_is)
    (case a8 => k_is)
    (case l8 => k_is)
    (case c8 => k_is)
    (case k8 => k_is)
    (case a9 => k_is)
    (case l9 => k_is)
    (case c9 => k_is)
    (case k9 => k_is)
    (case a10 => k_is)
    (case l10 => k_is)
    (case c10 => k_is)
    (case k10 => k_is)
    (case a11 => k_is)
    (case l11 => k_is)
    (case c11 => k_is)
    (case k11 => k_is)
    (case a12 => k_is)
    (case l12 => k_is)
    (case c12 => k_is)
    (case k12 => k_is)
    (case a13 => k_is)
    (case l13 => k_is)
    (case c13 => k_is)
    (case k13 => k_is)
    (case a14 => k_is)
    (case l14 => k_is)
    (case c14 => k_is)
    (case k14 => k_is)
    (case a15 => k_is)
    (case l15 => k_is)
    (case c15 => k_is)
    (case k15 => k_is)
    (case a16 => k_is)
    (case l16 => k_is)
    (case c16 => k_is)
    (case k16 => k_is)
    (case a17 => k_is)
    (case l17 => k_is)
    (case c17 => k_is)
    (case k17 => k_is)
    (case a18 => k_is)
    (case l18 => k_is)
    (case c18 => k_is)
    (case k18 => k_is)
    (case u0 => k_is)
    (case v0 => k_is)
    (case z0 => k_is)
    (case z1 => k_is)
    (case z2 => k_is)
    (case z3 => k_is)
    (case z4 => k_is)
    (case z5 => k_is)
    (case z6 => k_is)
    (case z7 => k_is)
    (case z8 => k_is)
    (case z9 => k_is)
    (case z10 => k_is)
    (case z11 => k_is)
    (case z12 => k_is)
    (case z13 => k_is)
    (case z14 => k_is)
end
