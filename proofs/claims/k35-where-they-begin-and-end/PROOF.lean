import PyProof.Rows.All
import HandS.ForMost
import KE.DataEq
import HandS.ForExc
import HandS.Wide
import HandS.TupAny
import HandS.TupMul
import HandS.TupLe
import HandS.Deep
import HandS.Style
import HandS.Strs
import KE.DatumOrd
import HandS.TupLen
import HandS.SetFor
import HandS.SortInts
import HandS.IsInst
import KE.KSortTupG
import HandS.TupSets
import HandS.Conv
import HandS.Flow
import HandS.Exc
import HandS.ExcOwn
import HandS.SortKw
import HandS.TryOnly
import HandS.Zip
import KE.GoesMore
import KE.KDictWalk
import HandS.Small
import HandS.Ends
import HandS.HeadEnd
import HandS.HeadHook1
import HandS.HeadHook2
import PyProof.ExcBaseAll.ValueError
import HandS.Head0
import HandS.Head1
import HandS.Head2
import PySem.Challenge.RW_relieftowns_k35_where_shortest_rows_begi
set_option linter.all false
set_option Elab.async false
set_option maxRecDepth 100000
set_option maxHeartbeats 0
/-! QA: clean values, the clean heap, the clean evaluator. -/
namespace Q
open PySem

abbrev Key := Sum Int PySem.Str
/-- a clean value: data (ftp: a tuple whose object is known, for its methods); a frozen list or dict; the script; an exception (its class); a place in the clean heap -/
inductive D where
  | non | bl (b : Bool) | int (i : Int) | str (x : PySem.Str)
  | tup (xs : List D) | lst (xs : List D) | ftp (xs : List D)
  | dk (ks : List Key) (vs : List D) | dt (ks : List (List Key)) (vs : List D)
  | scr (ns : List Int) | exc (c : Nat) | ref (n : Nat)
  deriving Inhabited

mutual
def D.beq : D → D → Bool
  | .non, .non => true
  | .bl a, .bl b => a == b
  | .int a, .int b => decide (a = b)
  | .str a, .str b => decide (a = b)
  | .tup a, .tup b => D.beqs a b
  | .lst a, .lst b => D.beqs a b
  | .ftp a, .ftp b => D.beqs a b
  | .dk a c, .dk b d => decide (a = b) && D.beqs c d
  | .dt a c, .dt b d => decide (a = b) && D.beqs c d
  | .scr a, .scr b => decide (a = b)
  | .exc a, .exc b => a == b
  | .ref a, .ref b => a == b
  | _, _ => false
def D.beqs : List D → List D → Bool
  | [], [] => true
  | x :: xs, y :: ys => D.beq x y && D.beqs xs ys
  | _, _ => false
end
mutual
theorem D.beq_eq : ∀ a b : D, D.beq a b = true → a = b
  | .non, b, h => by cases b <;> simp [D.beq] at h <;> rfl
  | .bl a, b, h => by cases b <;> simp [D.beq] at h; rw [h]
  | .int a, b, h => by cases b <;> simp [D.beq] at h; rw [h]
  | .str a, b, h => by cases b <;> simp [D.beq] at h; rw [h]
  | .tup a, b, h => by
    cases b <;> simp only [D.beq, Bool.false_eq_true] at h
    rw [D.beqs_eq _ _ h]
  | .lst a, b, h => by
    cases b <;> simp only [D.beq, Bool.false_eq_true] at h
    rw [D.beqs_eq _ _ h]
  | .ftp a, b, h => by
    cases b <;> simp only [D.beq, Bool.false_eq_true] at h
    rw [D.beqs_eq _ _ h]
  | .dk a c, b, h => by
    cases b <;> simp only [D.beq, Bool.false_eq_true, Bool.and_eq_true, decide_eq_true_eq] at h
    rw [h.1, D.beqs_eq _ _ h.2]
  | .dt a c, b, h => by
    cases b <;> simp only [D.beq, Bool.false_eq_true, Bool.and_eq_true, decide_eq_true_eq] at h
    rw [h.1, D.beqs_eq _ _ h.2]
  | .scr a, b, h => by cases b <;> simp [D.beq] at h; rw [h]
  | .exc a, b, h => by cases b <;> simp [D.beq] at h; rw [h]
  | .ref a, b, h => by cases b <;> simp [D.beq] at h; rw [h]
theorem D.beqs_eq : ∀ a b : List D, D.beqs a b = true → a = b
  | [], b, h => by cases b <;> simp [D.beqs] at h; rfl
  | x :: xs, b, h => by
    cases b with
    | nil => simp [D.beqs] at h
    | cons y ys =>
      simp only [D.beqs, Bool.and_eq_true] at h
      rw [D.beq_eq _ _ h.1, D.beqs_eq _ _ h.2]
end
mutual
theorem D.beq_refl : ∀ a : D, D.beq a a = true
  | .non => rfl
  | .bl a => by simp [D.beq]
  | .int a => by simp [D.beq]
  | .str a => by simp [D.beq]
  | .tup a => by rw [D.beq]; exact D.beqs_refl a
  | .lst a => by rw [D.beq]; exact D.beqs_refl a
  | .ftp a => by rw [D.beq]; exact D.beqs_refl a
  | .dk a c => by rw [D.beq, D.beqs_refl c]; simp
  | .dt a c => by rw [D.beq, D.beqs_refl c]; simp
  | .scr a => by simp [D.beq]
  | .exc a => by simp [D.beq]
  | .ref a => by simp [D.beq]
theorem D.beqs_refl : ∀ a : List D, D.beqs a a = true
  | [] => rfl
  | x :: xs => by rw [D.beqs, D.beq_refl x, D.beqs_refl xs]; rfl
end
instance : DecidableEq D := fun a b => if h : D.beq a b = true then isTrue (D.beq_eq a b h) else isFalse fun e => h (e ▸ D.beq_refl a)

/-- an object of the clean heap; wk, wt: dicts that a loop walks; hl: the list of a comprehension that runs -/
inductive O where
  | lst (xs : List D) | hl (xs : List D)
  | dk (kvs : List (Key × D)) | dt (kvs : List (List Key × D))
  | wk (kvs : List (Key × D)) | wt (kvs : List (List Key × D))
  | ins (c : Nat) (fs : List (PySem.Str × D))
  deriving DecidableEq
abbrev Hc := List O
abbrev Env := List (Option D)

/-- the end of a piece of code -/
inductive R (α : Type) where
  | ok (a : α) (h : Hc) | ex (c : Nat) (h : Hc) | bad
def R.bind {α β : Type} : R α → (α → Hc → R β) → R β
  | .ok a h, f => f a h
  | .ex c h, _ => .ex c h
  | .bad, _ => .bad
@[simp] theorem R.bind_ok {α β : Type} (a : α) (h : Hc) (f : α → Hc → R β) : (R.ok a h).bind f = f a h := rfl
@[simp] theorem R.bind_ex {α β : Type} (c : Nat) (h : Hc) (f : α → Hc → R β) : (R.ex c h : R α).bind f = .ex c h := rfl
@[simp] theorem R.bind_bad {α β : Type} (f : α → Hc → R β) : (R.bad : R α).bind f = .bad := rfl

/-! ### data -/
mutual
/-- as plain data -/
def D.py : D → Option PyData
  | .non => some .none
  | .bl b => some (.bool b)
  | .int i => some (.int i)
  | .str x => some (.str x)
  | .tup xs => (D.pys xs).map .tuple
  | .lst xs => (D.pys xs).map .list
  | .ftp xs => (D.pys xs).map .tuple
  | _ => none
def D.pys : List D → Option (List PyData)
  | [] => some []
  | x :: xs => (D.py x).bind fun a => (D.pys xs).map fun r => a :: r
end
mutual
/-- references through f -/
def D.via (f : Nat → D) : D → D
  | .tup xs => .tup (D.vias f xs)
  | .lst xs => .lst (D.vias f xs)
  | .ftp xs => .ftp (D.vias f xs)
  | .dk ks vs => .dk ks (D.vias f vs)
  | .dt ks vs => .dt ks (D.vias f vs)
  | .ref n => f n
  | d => d
def D.vias (f : Nat → D) : List D → List D
  | [] => []
  | x :: xs => D.via f x :: D.vias f xs
end
/-- what stands at a reference, as a frozen value, references within through f -/
def thawO (f : D → D) : Option O → Nat → D
  | some (.lst xs), _ => .lst (xs.map f)
  | some (.dk kvs), _ => .dk (kvs.map (·.1)) (kvs.map fun p => f p.2)
  | some (.dt kvs), _ => .dt (kvs.map (·.1)) (kvs.map fun p => f p.2)
  | _, n => .ref n
/-- the same at the end of a call: dicts that were walked too -/
def thawF (f : D → D) : Option O → Nat → D
  | some (.lst xs), _ => .lst (xs.map f)
  | some (.dk kvs), _ => .dk (kvs.map (·.1)) (kvs.map fun p => f p.2)
  | some (.dt kvs), _ => .dt (kvs.map (·.1)) (kvs.map fun p => f p.2)
  | some (.wk kvs), _ => .dk (kvs.map (·.1)) (kvs.map fun p => f p.2)
  | some (.wt kvs), _ => .dt (kvs.map (·.1)) (kvs.map fun p => f p.2)
  | _, n => .ref n
def thaw (h : Hc) : Nat → D → D
  | 0 => fun d => d
  | k + 1 => D.via fun n => thawO (thaw h k) h[n]? n
/-- what is new (from m on) as frozen values -/
def frost (h : Hc) (m : Nat) : Nat → D → D
  | 0 => fun d => d
  | k + 1 => D.via fun n => if n < m then .ref n else thawF (frost h m k) h[n]? n
/-- one step -/
def look (h : Hc) : D → D
  | .ref n => thawO (fun d => d) h[n]? n
  | d => d
mutual
/-- no reference from m on -/
def D.old (m : Nat) : D → Bool
  | .tup xs => D.olds m xs
  | .lst xs => D.olds m xs
  | .ftp xs => D.olds m xs
  | .dk _ vs => D.olds m vs
  | .dt _ vs => D.olds m vs
  | .ref n => decide (n < m)
  | _ => true
def D.olds (m : Nat) : List D → Bool
  | [] => true
  | x :: xs => D.old m x && D.olds m xs
end
def O.old (m : Nat) : O → Bool
  | .lst xs => D.olds m xs
  | .hl xs => D.olds m xs
  | .dk kvs => D.olds m (kvs.map (·.2))
  | .dt kvs => D.olds m (kvs.map (·.2))
  | .wk kvs => D.olds m (kvs.map (·.2))
  | .wt kvs => D.olds m (kvs.map (·.2))
  | .ins _ fs => D.olds m (fs.map (·.2))

/-! ### primitives -/
inductive Ty where
  | int | bool | tup | lst | str | dict
  deriving DecidableEq
def lookT (h : Hc) (d : D) : D := match look h d with
  | .ftp xs => .tup xs
  | x => x
def isTy (h : Hc) (d : D) (t : Ty) : Option Bool := match lookT h d with
  | .non => some false
  | .bl _ => some (t == .bool || t == .int)
  | .int _ => some (t == .int)
  | .str _ => some (t == .str)
  | .tup _ => some (t == .tup)
  | .lst _ => some (t == .lst)
  | .dk _ _ => some (t == .dict)
  | .dt _ _ => some (t == .dict)
  | _ => none
/-- truth -/
def truth (h : Hc) (d : D) : Option Bool := match lookT h d with
  | .non => some false
  | .bl b => some b
  | .int i => some (i != 0)
  | .str x => if x.length ≤ sizeLine then some (x.length != 0) else none
  | .tup xs => some (!xs.isEmpty)
  | .lst xs => some (!xs.isEmpty)
  | _ => none
/-- data whose == is served -/
def shp (p : PyData) : Bool := p.plain && decide (p.depth ≤ 64)
/-- == where it is served: data without dicts -/
def dEq (h : Hc) (a b : D) : Option Bool := match (thaw h 3 a).py, (thaw h 3 b).py with
  | some p, some q => if shp p && shp q then some (PyData.eqv p q) else none
  | _, _ => none
end Q

/-! QB: primitives, expressions, statements, calls. -/
namespace Q
open PySem

mutual
/-- the order of ints, texts, tuples (and lists) of such -/
def dLt : D → D → Option Bool
  | .int i, .int j => some (decide (i < j))
  | .str x, .str y => some (decide (x.cps.toList < y.cps.toList))
  | .tup xs, .tup ys => dLts xs ys
  | _, _ => none
def dLts : List D → List D → Option Bool
  | _, [] => some false
  | [], _ :: _ => some true
  | x :: xs, y :: ys => if x = y then dLts xs ys else dLt x y
end
def isInts : List D → Bool
  | [] => true
  | .int _ :: r => isInts r
  | _ => false
def isStrs : List D → Bool
  | [] => true
  | .str _ :: r => isStrs r
  | _ => false
def isTupInts : List D → Bool
  | [] => true
  | .tup xs :: r => isInts xs && !xs.isEmpty && isTupInts r
  | _ => false
def ltB (a b : D) : Bool := (dLt a b).getD false
def insD (x : D) : List D → List D
  | [] => [x]
  | y :: ys => if ltB y x then y :: insD x ys else x :: y :: ys
/-- sorted -/
def sortD : List D → List D
  | [] => []
  | x :: xs => insD x (sortD xs)
def newL (fr : Bool) (xs : List D) (h : Hc) : R D := if fr then .ok (.lst xs) h else .ok (.ref h.length) (h ++ [.lst xs])
def twoI : List D → Option (Int × Int)
  | [.int i, .int j] => some (i, j)
  | _ => none
def sumD : List D → Option Int
  | [] => some 0
  | .int i :: r => (sumD r).map fun s => i + s
  | _ => none
def allD : List D → Option Bool
  | [] => some true
  | .bl b :: r => (allD r).map fun c => b && c
  | _ => none
def anyD : List D → Option Bool
  | [] => some false
  | .bl b :: r => (anyD r).map fun c => b || c
  | _ => none
/-- the first int that the others do not go beyond -/
def extI (lt : Int → Int → Bool) : Int → List D → Option Int
  | m, [] => some m
  | m, .int i :: r => extI lt (if lt i m then i else m) r
  | _, _ => none
def extD (lt : Int → Int → Bool) : List D → Option Int
  | .int i :: r => extI lt i r
  | _ => none
def keyK : D → Option Key
  | .int i => some (.inl i)
  | .str x => some (.inr x)
  | _ => none
def keysK : List D → Option (List Key)
  | [] => some []
  | x :: xs => (keyK x).bind fun k => (keysK xs).map fun r => k :: r
def keyT : D → Option (List Key)
  | .tup xs => keysK xs
  | _ => none
def dK : Key → D
  | .inl i => .int i
  | .inr x => .str x
def dT (k : List Key) : D := .tup (k.map dK)
section
variable {κ : Type} [DecidableEq κ]
def getP (kvs : List (κ × D)) (k : κ) : Option D := (kvs.find? fun kv => decide (kv.1 = k)).map (·.2)
def putP (kvs : List (κ × D)) (k : κ) (v : D) : List (κ × D) :=
  if (kvs.any fun kv => decide (kv.1 = k)) = true then kvs.map (fun kv => if kv.1 = k then (kv.1, v) else kv) else kvs ++ [(k, v)]
end
/-- a dict's look-up: none: not served; some none: the key is not there -/
def dGet (h : Hc) (d k : D) : Option (Option D) := match d with
  | .ref n => (match h[n]? with
    | some (.dk kvs) => (keyK k).map fun q => getP kvs q
    | some (.wk kvs) => (keyK k).map fun q => getP kvs q
    | some (.dt kvs) => (keyT k).map fun q => getP kvs q
    | some (.wt kvs) => (keyT k).map fun q => getP kvs q
    | _ => none)
  | .dk ks vs => (keyK k).map fun q => getP (ks.zip vs) q
  | .dt ks vs => (keyT k).map fun q => getP (ks.zip vs) q
  | _ => none
def dPut (h : Hc) (d k v : D) : Option Hc := match d with
  | .ref n => (match h[n]? with
    | some (.dk kvs) => if kvs.length < sizeLine then (keyK k).map fun q => h.set n (.dk (putP kvs q v)) else none
    | some (.dt kvs) => if kvs.length < sizeLine then (keyT k).map fun q => h.set n (.dt (putP kvs q v)) else none
    | _ => none)
  | _ => none
/-- a dict's keys -/
def dKeys (h : Hc) : D → Option (List D)
  | .ref n => (match h[n]? with
    | some (.dk kvs) => some (kvs.map fun kv => dK kv.1)
    | some (.wk kvs) => some (kvs.map fun kv => dK kv.1)
    | some (.dt kvs) => some (kvs.map fun kv => dT kv.1)
    | some (.wt kvs) => some (kvs.map fun kv => dT kv.1)
    | _ => none)
  | .dk ks _ => some (ks.map dK)
  | .dt ks _ => some (ks.map dT)
  | _ => none
def ixD (n : Nat) (i : Int) : Option Nat := if 0 ≤ i then (if i < n then some i.toNat else none) else if -(n : Int) ≤ i then some (i + n).toNat else none
def cutLo (n : Nat) : D → Option Nat
  | .non => some 0
  | .int v => some (if v < 0 then (v + n).toNat else min v.toNat n)
  | _ => none
def cutHi (n : Nat) : D → Option Nat
  | .non => some n
  | .int v => some (if v < 0 then (v + n).toNat else min v.toNat n)
  | _ => none
def cutD {α : Type} (xs : List α) (lo hi : D) : Option (List α) := (cutLo xs.length lo).bind fun i => (cutHi xs.length hi).map fun j => (xs.drop i).take (j - i)
def findD (x : PyData) : List PyData → Option Nat
  | [] => none
  | y :: ys => if PyData.eqv y x then some 0 else (findD x ys).map (· + 1)
def dIndex (h : Hc) (xs : List D) (x : D) : Option Nat := match D.pys (xs.map (thaw h 2)), (thaw h 2 x).py with
  | some ps, some p => if SeqAt.shaped (.list ps) && SeqAt.shaped p then findD p ps else none
  | _, _ => none
def dCount (h : Hc) (xs : List D) (x : D) : Option Nat := match D.pys (xs.map (thaw h 2)), (thaw h 2 x).py with
  | some ps, some p => if SeqAt.shaped (.list ps) && SeqAt.shaped p then some (ps.countP fun z => PyData.eqv z p) else none
  | _, _ => none
def dIn (h : Hc) (xs : List D) (x : D) : Option Bool := match D.pys (xs.map (thaw h 2)), (thaw h 2 x).py with
  | some ps, some p => if SeqAt.shaped (.list ps) && SeqAt.shaped p then some (ps.any fun z => PyData.eqv z p) else none
  | _, _ => none
def dRepr (h : Hc) (d : D) : Option PySem.Str := match (thaw h 3 d).py with
  | some p => if p.showable && decide (p.depth ≤ 64) && decide (p.shown.length ≤ sizeLine) then some p.shown else none
  | none => none
/-- the sets of ints and of tuples of ints are met only in len(set(..)), sorted(set(..)): here as the items, each once -/
def onceD : List D → List D → List D
  | acc, [] => acc
  | acc, x :: xs => if x ∈ acc then onceD acc xs else onceD (acc ++ [x]) xs

inductive P where
  | add (fr : Bool) | sub | mul (fr : Bool) | fdiv | mod | pow | neg | not
  | eq | ne | lt | le | gt | ge | isin | notin | isN | isntN | isB (b : Bool) | isntB (b : Bool)
  | len | toTup (fz : Bool) | toLst (fr : Bool) | toInt | toStr | repr | abs | max2 | min2 | maxL | minL | sum | sorted (fr : Bool) | all | any
  | isinst (t : Ty) | lenSet | rngL (fr : Bool) | idx | slice (fr : Bool) | rev (fr : Bool)
  | append | pop0 | pop1 | get1 | get2 | update1 | index | indexT | count | countT
  deriving DecidableEq

def opt {α : Type} (o : Option α) (f : α → R D) : R D := match o with
  | some a => f a
  | none => .bad
@[simp] theorem opt_some {α : Type} (a : α) (f : α → R D) : opt (some a) f = f a := rfl
@[simp] theorem opt_none {α : Type} (f : α → R D) : opt none f = .bad := rfl
def small (i j : Int) : Prop := i.natAbs < 2 ^ 64 ∨ j.natAbs < 2 ^ 64 ∨ (i.natAbs < 2 ^ 400000 ∧ j.natAbs < 2 ^ 400000)
instance (i j : Int) : Decidable (small i j) := inferInstanceAs (Decidable (_ ∨ _ ∨ _))

def prim2 : P → D → D → Hc → R D
  | .add fr, a, b, h => (match look h a, look h b with
    | .int i, .int j => .ok (.int (i + j)) h
    | .str x, .str y => if x.length + y.length ≤ sizeLine then .ok (.str (x ++ y)) h else .bad
    | .tup xs, .tup ys => if xs.length + ys.length ≤ sizeLine then .ok (.tup (xs ++ ys)) h else .bad
    | .lst xs, .lst ys => if xs.length + ys.length ≤ sizeLine then newL fr (xs ++ ys) h else .bad
    | _, _ => .bad)
  | .sub, .int i, .int j, h => .ok (.int (i - j)) h
  | .mul fr, a, b, h => (match look h a, look h b with
    | .int i, .int j => if small i j then .ok (.int (i * j)) h else .bad
    | .tup xs, .int k => if k ≤ 1000 ∧ xs.length ≤ 1000 ∧ -1000 ≤ k then .ok (.tup (List.replicate k.toNat xs).flatten) h else .bad
    | .lst xs, .int k => if k ≤ 1000 ∧ xs.length ≤ 1000 ∧ -1000 ≤ k then newL fr (List.replicate k.toNat xs).flatten h else .bad
    | _, _ => .bad)
  | .fdiv, .int i, .int j, h => if 0 < j ∧ j < 2 ^ 8000 then .ok (.int (i / j)) h else .bad
  | .mod, .int i, .int j, h => if 0 < j then .ok (.int (i % j)) h else .bad
  | .pow, .int i, .int j, h => if 0 ≤ j ∧ j ≤ 1000 ∧ i.natAbs < 2 ^ 64 then .ok (.int (i ^ j.toNat)) h else .bad
  | .eq, a, b, h => opt (dEq h a b) fun r => .ok (.bl r) h
  | .ne, a, b, h => opt (dEq h a b) fun r => .ok (.bl !r) h
  | .lt, a, b, h => (match a, b with
    | .int i, .int j => .ok (.bl (decide (i < j))) h
    | .str x, .str y => .ok (.bl (decide (x.cps.toList < y.cps.toList))) h
    | .tup xs, .tup ys => if isInts xs && isInts ys then opt (dLts xs ys) fun r => .ok (.bl r) h else .bad
    | _, _ => .bad)
  | .gt, .int i, .int j, h => .ok (.bl (decide (j < i))) h
  | .le, .int i, .int j, h => .ok (.bl (decide (i ≤ j))) h
  | .ge, .int i, .int j, h => .ok (.bl (decide (j ≤ i))) h
  | .isin, x, c, h => (match lookT h c with
    | .tup xs => opt (dIn h xs x) fun r => .ok (.bl r) h
    | .lst xs => opt (dIn h xs x) fun r => .ok (.bl r) h
    | _ => opt (dGet h c x) fun r => .ok (.bl r.isSome) h)
  | .notin, x, c, h => (match lookT h c with
    | .tup xs => opt (dIn h xs x) fun r => .ok (.bl !r) h
    | .lst xs => opt (dIn h xs x) fun r => .ok (.bl !r) h
    | _ => opt (dGet h c x) fun r => .ok (.bl !r.isSome) h)
  | .idx, c, i, h => (match lookT h c, i with
    | .tup xs, .int i => opt ((ixD xs.length i).bind fun k => xs[k]?) fun v => .ok v h
    | .lst xs, .int i => opt ((ixD xs.length i).bind fun k => xs[k]?) fun v => .ok v h
    | .scr ns, .int i => opt ((ixD ns.length i).bind fun k => ns[k]?) fun v => .ok (.int v) h
    | .str x, .int i => opt ((ixD x.cps.size i).bind fun k => x.cps.toList[k]?) fun c => if x.length ≤ sizeLine then .ok (.str ⟨#[c]⟩) h else .bad
    | _, _ => opt (dGet h c i) fun r => opt r fun v => .ok v h)
  | _, _, _, _ => .bad
def prim1 : P → D → Hc → R D
  | .neg, .int i, h => .ok (.int (-i)) h
  | .not, a, h => opt (truth h a) fun b => .ok (.bl !b) h
  | .isN, a, h => .ok (.bl (decide (a = .non))) h
  | .isntN, a, h => .ok (.bl (!decide (a = .non))) h
  | .isB b, a, h => .ok (.bl (decide (a = .bl b))) h
  | .isntB b, a, h => .ok (.bl (!decide (a = .bl b))) h
  | _, _, _ => .bad
def rangeD (i : Int) (n : Nat) : List D := (List.range n).map fun (k : Nat) => .int (i + (k : Int))
/-- bounds of a range (never reckoned out) -/
def inR (j : Int) : Prop := -(2 ^ 62) ≤ j ∧ j < 2 ^ 62
noncomputable instance (j : Int) : Decidable (inR j) := Classical.propDecidable _
/-- bounds of a range that becomes a list -/
def inS (j : Int) : Prop := -100000 ≤ j ∧ j ≤ 100000
noncomputable instance (j : Int) : Decidable (inS j) := Classical.propDecidable _
/-- built-in functions, by their arguments -/
noncomputable def primN : P → List D → Hc → R D
  | .len, [a], h => (match lookT h a with
    | .tup xs => .ok (.int xs.length) h
    | .lst xs => .ok (.int xs.length) h
    | .scr ns => .ok (.int ns.length) h
    | .dk ks _ => .ok (.int ks.length) h
    | .dt ks _ => .ok (.int ks.length) h
    | .str x => if x.length ≤ sizeLine then .ok (.int x.length) h else .bad
    | _ => .bad)
  | .toTup fz, [a], h => (match look h a with
    | .tup xs => .ok (.tup xs) h
    | .lst xs => .ok (if fz then .ftp xs else .tup xs) h
    | .ftp xs => .ok (.ftp xs) h
    | _ => .bad)
  | .toLst fr, [a], h => (match lookT h a with
    | .tup xs => newL fr xs h
    | .lst xs => newL fr xs h
    | _ => .bad)
  | .toInt, [.int i], h => .ok (.int i) h
  | .toInt, [.bl b], h => .ok (.int (if b then 1 else 0)) h
  | .repr, [a], h => opt (dRepr h a) fun x => .ok (.str x) h
  | .abs, [.int i], h => .ok (.int (if i < 0 then -i else i)) h
  | .max2, ds, h => opt (twoI ds) fun p => .ok (.int (if p.2 > p.1 then p.2 else p.1)) h
  | .min2, ds, h => opt (twoI ds) fun p => .ok (.int (if p.2 < p.1 then p.2 else p.1)) h
  | .sum, [a], h => (match look h a with
    | .lst xs => opt (sumD xs) fun s => .ok (.int s) h
    | _ => .bad)
  | .all, [a], h => (match look h a with
    | .lst xs => opt (allD xs) fun s => .ok (.bl s) h
    | _ => .bad)
  | .any, [a], h => (match look h a with
    | .lst xs => opt (anyD xs) fun s => .ok (.bl s) h
    | _ => .bad)
  | .sorted fr, [a], h => (match lookT h a with
    | .lst xs => if isInts xs || isTupInts xs then newL fr (sortD xs) h else .bad
    | .tup xs => if isInts xs || isTupInts xs then newL fr (sortD xs) h else .bad
    | _ => opt (dKeys h a) fun xs => if isInts xs || isTupInts xs then newL fr (sortD xs) h else .bad)
  | .isinst t, [a], h => opt (isTy h a t) fun b => .ok (.bl b) h
  | .rngL fr, [.int j], h => if inS j then newL fr (rangeD 0 j.toNat) h else .bad
  | .maxL, [a], h => (match look h a with
    | .lst xs => opt (extD (fun a b => decide (b < a)) xs) fun s => .ok (.int s) h
    | .tup xs => opt (extD (fun a b => decide (b < a)) xs) fun s => .ok (.int s) h
    | _ => .bad)
  | .minL, [a], h => (match look h a with
    | .lst xs => opt (extD (fun a b => decide (a < b)) xs) fun s => .ok (.int s) h
    | .tup xs => opt (extD (fun a b => decide (a < b)) xs) fun s => .ok (.int s) h
    | _ => .bad)
  | .lenSet, [a], h => (match lookT h a with
    | .tup xs => if isInts xs && decide (xs.length ≤ 4000) then .ok (.int (onceD [] xs).length) h else .bad
    | .lst xs => if isInts xs && decide (xs.length ≤ 4000) then .ok (.int (onceD [] xs).length) h else .bad
    | _ => .bad)
  | _, _, _ => .bad
/-- bounds of a place in pop -/
def inP (i : Int) : Prop := -(2 ^ 63) ≤ i ∧ i < 2 ^ 63
noncomputable instance (i : Int) : Decidable (inP i) := Classical.propDecidable _
/-- methods of built-in objects -/
noncomputable def primM : P → D → List D → Hc → R D
  | .append, .ref n, [v], h => (match h[n]? with
    | some (.lst xs) => if xs.length < sizeLine then .ok .non (h.set n (.lst (xs ++ [v]))) else .bad
    | _ => .bad)
  | .pop0, .ref n, [], h => (match h[n]? with
    | some (.lst xs) => opt xs[xs.length - 1]? fun v => .ok v (h.set n (.lst xs.dropLast))
    | _ => .bad)
  | .pop1, .ref n, [.int i], h => (match h[n]? with
    | some (.lst xs) => if inP i then opt ((ixD xs.length i).bind fun k => xs[k]?.map fun v => (k, v)) fun p => .ok p.2 (h.set n (.lst (xs.eraseIdx p.1))) else .bad
    | _ => .bad)
  | .get1, d, [k], h => opt (dGet h d k) fun r => .ok (r.getD .non) h
  | .get2, d, [k, v], h => opt (dGet h d k) fun r => .ok (r.getD v) h
  | .index, c, [x], h => (match look h c with
    | .lst xs => opt (dIndex h xs x) fun k => .ok (.int k) h
    | _ => .bad)
  | .indexT, c, [x], h => (match c with
    | .ftp xs => opt (dIndex h xs x) fun k => .ok (.int k) h
    | _ => .bad)
  | .count, c, [x], h => (match look h c with
    | .lst xs => opt (dCount h xs x) fun k => .ok (.int k) h
    | _ => .bad)
  | .update1, .ref n, [.ref m], h => (match h[n]?, h[m]? with
    | some (.dk kvs), some (.dk more) => if n ≠ m ∧ kvs.length + more.length ≤ sizeLine then .ok .non (h.set n (.dk (more.foldl (fun acc kv => putP acc kv.1 kv.2) kvs))) else .bad
    | _, _ => .bad)
  | _, _, _, _ => .bad
/-- the receiver's kind, as it is before the arguments are reckoned -/
def recv (q : P) (d : D) (h : Hc) : Bool := match q with
  | .append => isLst h d
  | .pop0 => isLst h d
  | .pop1 => isLst h d
  | .index => isLst h d
  | .count => isLst h d
  | .get1 => isDct h d
  | .get2 => isDct h d
  | .update1 => isDct h d
  | .indexT => (match d with
    | .ftp _ => true
    | _ => false)
  | _ => false
where
  isLst (h : Hc) (d : D) : Bool := match look h d with
    | .lst _ => true
    | _ => false
  isDct (h : Hc) (d : D) : Bool := match d with
    | .dk _ _ => true
    | .dt _ _ => true
    | .ref n => (match h[n]? with
      | some (.dk _) => true
      | some (.dt _) => true
      | some (.wk _) => true
      | some (.wt _) => true
      | _ => false)
    | _ => false
def setItem (o i v : D) (h : Hc) : Option Hc := match o with
  | .ref n => (match h[n]?, i with
    | some (.lst xs), .int i => (ixD xs.length i).map fun k => h.set n (.lst (xs.set k v))
    | _, _ => dPut h o i v)
  | _ => none

def isPart : D → Bool
  | .non => true
  | .int _ => true
  | _ => false
def sliceP (fr : Bool) (d l u : D) (h : Hc) : R D := match look h d with
  | .tup xs => opt (cutD xs l u) fun ys => .ok (.tup ys) h
  | .lst xs => opt (cutD xs l u) fun ys => newL fr ys h
  | .str x => opt (cutD x.cps.toList l u) fun ys => if x.length ≤ sizeLine then .ok (.str ⟨ys.toArray⟩) h else .bad
  | _ => .bad
def revP (fr : Bool) (d : D) (h : Hc) : R D := match look h d with
  | .tup xs => .ok (.tup xs.reverse) h
  | .lst xs => newL fr xs.reverse h
  | _ => .bad

/-! ### syntax -/
/-- what a loop walks -/
inductive IK where
  | seq | rng1 | rng2 | enum | zip | items | values | keys
  deriving DecidableEq
/-- targets -/
inductive CT where
  | n (i : Nat) | t (ts : List CT)
inductive CE where
  | v (i : Nat) | c (d : D)
  | tup (es : List CE) | lst (fr : Bool) (es : List CE)
  | dnew (t : Bool) | dic (t : Bool) (kvs : List CE)
  | un (q : P) (a : CE) | bin (q : P) (a b : CE) | cmp (q : P) (a b : CE) | cmp2 (q r : P) (a b c : CE)
  | and (a b : CE) | or (a b : CE) | ite (c a b : CE)
  | call (f : Nat) (es : List CE) | bi (q : P) (es : List CE) | mt (q : P) (o : CE) (es : List CE)
  | idx (a b : CE) | sl (fr : Bool) (a lo hi : CE) | rev (fr : Bool) (a : CE)
  | comp (fr : Bool) (k : IK) (es : List CE) (tg : CT) (cs : List CE) (e : CE) (own : List Nat)
inductive CS where
  | asg (t : CT) (e : CE) | seti (o i e : CE) | ex (e : CE) | ret (e : CE) | retN
  | ife (c : CE) (a b : List CS) | for (k : IK) (es : List CE) (tg : CT) (b : List CS) | whil (c : CE) (b : List CS)
  | raise (c : Nat) | pass | brk | cont
  | blk (own : List Nat) (b : List CS)

mutual
def bindT : CT → D → Env → Option Env
  | .n i, d, ρ => some (ρ.set i (some d))
  | .t ts, .tup xs, ρ => bindTs ts xs ρ
  | .t ts, .ftp xs, ρ => bindTs ts xs ρ
  | .t ts, .lst xs, ρ => bindTs ts xs ρ
  | _, _, _ => none
def bindTs : List CT → List D → Env → Option Env
  | [], [], ρ => some ρ
  | t :: ts, x :: xs, ρ => (bindT t x ρ).bind fun ρ' => bindTs ts xs ρ'
  | _, _, _ => none
end
def wipe (ρ : Env) : List Nat → Env
  | [] => ρ
  | v :: vs => (wipe ρ vs).set v none

/-- what is walked: the items; the place whose object must stay (a list), or is walked (a dict) -/
structure Wk where
  items : List D
  stay : List (Nat × O)
def walkSeq (h : Hc) (d : D) : Option Wk := match d with
  | .tup xs => some ⟨xs, []⟩
  | .ftp xs => some ⟨xs, []⟩
  | .lst xs => some ⟨xs, []⟩
  | .ref n => (match h[n]? with
    | some (.lst xs) => some ⟨xs, [(n, .lst xs)]⟩
    | _ => none)
  | _ => none
def isListD (h : Hc) (d : D) : Bool := match d with
  | .lst _ => true
  | .ref _ => true
  | _ => false
def enumD (i : Nat) : List D → List D
  | [] => []
  | x :: xs => .tup [.int i, x] :: enumD (i + 1) xs
def zipD : List D → List D → List D
  | x :: xs, y :: ys => .tup [x, y] :: zipD xs ys
  | _, _ => []
/-- the rows of a dict that is walked, and what must stay -/
def dRows (h : Hc) : D → Option (List (D × D) × List (Nat × O))
  | .dk ks vs => some ((ks.map dK).zip vs, [])
  | .dt ks vs => some ((ks.map dT).zip vs, [])
  | .ref n => (match h[n]? with
    | some (.dk kvs) => some (kvs.map fun p => (dK p.1, p.2), [(n, .wk kvs)])
    | some (.wk kvs) => some (kvs.map fun p => (dK p.1, p.2), [(n, .wk kvs)])
    | some (.dt kvs) => some (kvs.map fun p => (dT p.1, p.2), [(n, .wt kvs)])
    | some (.wt kvs) => some (kvs.map fun p => (dT p.1, p.2), [(n, .wt kvs)])
    | _ => none)
  | _ => none
/-- from a walk on a dict is only read -/
def lockN (h : Hc) (n : Nat) : Hc := match h[n]? with
  | some (.dk kvs) => h.set n (.wk kvs)
  | some (.dt kvs) => h.set n (.wt kvs)
  | _ => h
def lockD (h : Hc) : D → Hc
  | .ref n => lockN h n
  | _ => h
def lockDs (h : Hc) : List D → Hc
  | [d] => lockD h d
  | _ => h
def lockH (k : IK) (ds : List D) (h : Hc) : Hc := match k with
  | .items => lockDs h ds
  | .values => lockDs h ds
  | .keys => lockDs h ds
  | _ => h
def walkD (h : Hc) (f : D × D → D) (d : D) : Option Wk := (dRows h d).map fun r => ⟨r.1.map f, r.2⟩
noncomputable def walkOf (k : IK) (ds : List D) (h : Hc) : Option Wk := match k, ds with
  | .items, [d] => walkD h (fun p => .tup [p.1, p.2]) d
  | .values, [d] => walkD h (·.2) d
  | .keys, [d] => walkD h (·.1) d
  | .seq, [d] => walkSeq h d
  | .rng1, [.int j] => if inR j then some ⟨rangeD 0 j.toNat, []⟩ else none
  | .rng2, [.int i, .int j] => if inR i ∧ inR j then some ⟨rangeD i (j - i).toNat, []⟩ else none
  | .enum, [d] => (walkSeq h d).map fun w => ⟨enumD 0 w.items, w.stay⟩
  | .zip, [d, e] => if isListD h d != isListD h e then none else (walkSeq h d).bind fun w => (walkSeq h e).map fun u => ⟨zipD w.items u.items, w.stay ++ u.stay⟩
  | _, _ => none
def stays (h : Hc) (l : List (Nat × O)) : Bool := l.all fun p => decide (h[p.1]? = some p.2)

/-- a comprehension's turns; n: the place of its list -/
def compL (tg : CT) (g : List (Nat × O)) (n : Nat) (ρ : Env) (c : Env → Hc → R Bool) (e : Env → Hc → R D) : List D → Hc → R (List D)
  | [], h => if stays h g then (match h[n]? with
    | some (.hl acc) => .ok acc h
    | _ => .bad) else .bad
  | d :: ds, h => if stays h g then (match bindT tg d ρ with
    | none => .bad
    | some ρ' => (match c ρ' h with
      | .ok true h1 => (match e ρ' h1 with
        | .ok x h2 => (match h2[n]? with
          | some (.hl acc) => if acc.length < sizeLine then compL tg g n ρ c e ds (h2.set n (.hl (acc ++ [x]))) else .bad
          | _ => .bad)
        | _ => .bad)
      | .ok false h1 => compL tg g n ρ c e ds h1
      | _ => .bad)) else .bad
/-- the heap as it is left: places from m on are dropped where nothing names them -/
def kept (h h' : Hc) : Bool := decide (h.length ≤ h'.length) && (List.range h.length).all fun i => decide (h'[i]? = h[i]?) || (match h'[i]? with
  | some o => o.old h.length
  | none => false)
/-- the end of a comprehension: its list is frozen where that is asked and may be -/
def compEnd (fr : Bool) (h h2 : Hc) (xs : List D) : R D :=
  if fr = true ∧ kept h h2 = true ∧ D.olds h.length xs = true then .ok (.lst xs) (h2.take h.length) else .ok (.ref h.length) (h2.set h.length (.lst xs))
def truthR (r : R D) : R Bool := r.bind fun d h => match truth h d with
  | some b => .ok b h
  | none => .bad
def mkK : List D → List (Key × D) → Option (List (Key × D))
  | [], acc => some acc
  | k :: v :: r, acc => (keyK k).bind fun q => mkK r (putP acc q v)
  | _, _ => none
def mkT : List D → List (List Key × D) → Option (List (List Key × D))
  | [], acc => some acc
  | k :: v :: r, acc => (keyT k).bind fun q => mkT r (putP acc q v)
  | _, _ => none

mutual
noncomputable def ev (F : Nat → List D → Hc → R D) : CE → Env → Hc → R D
  | .v i, ρ, h => (match ρ[i]? with
    | some (some d) => .ok d h
    | _ => .bad)
  | .c d, _, h => .ok d h
  | .tup es, ρ, h => (evs F es ρ h).bind fun ds h => if ds.length ≤ sizeLine then .ok (.tup ds) h else .bad
  | .lst fr es, ρ, h => (evs F es ρ h).bind fun ds h => if ds.length ≤ sizeLine then newL fr ds h else .bad
  | .dnew t, _, h => if t then .ok (.ref h.length) (h ++ [.dt []]) else .ok (.ref h.length) (h ++ [.dk []])
  | .dic t kvs, ρ, h => if t then .bad else (evs F kvs ρ (h ++ [.dk []])).bind fun ds h2 => (match h2[h.length]? with
    | some (.dk []) => opt (mkK ds []) fun kvs => .ok (.ref h.length) (h2.set h.length (.dk kvs))
    | _ => .bad)
  | .un q a, ρ, h => (ev F a ρ h).bind fun d h => prim1 q d h
  | .bin q a b, ρ, h => (ev F a ρ h).bind fun d h => (ev F b ρ h).bind fun e h => prim2 q d e h
  | .cmp q a b, ρ, h => (ev F a ρ h).bind fun d h => (ev F b ρ h).bind fun e h => prim2 q d e h
  | .cmp2 q r a b c, ρ, h => (ev F a ρ h).bind fun d h => (ev F b ρ h).bind fun e h => (prim2 q d e h).bind fun x h => (match x with
    | .bl true => (ev F c ρ h).bind fun g h => prim2 r e g h
    | .bl false => .ok (.bl false) h
    | _ => .bad)
  | .and a b, ρ, h => (ev F a ρ h).bind fun d h => (match truth h d with
    | some true => ev F b ρ h
    | some false => .ok d h
    | none => .bad)
  | .or a b, ρ, h => (ev F a ρ h).bind fun d h => (match truth h d with
    | some true => .ok d h
    | some false => ev F b ρ h
    | none => .bad)
  | .ite c a b, ρ, h => (truthR (ev F c ρ h)).bind fun k h => if k then ev F a ρ h else ev F b ρ h
  | .call f es, ρ, h => (evs F es ρ h).bind fun ds h => F f ds h
  | .bi q es, ρ, h => (evs F es ρ h).bind fun ds h => primN q ds h
  | .mt q o es, ρ, h => (ev F o ρ h).bind fun d h => if recv q d h then (evs F es ρ h).bind fun ds h => primM q d ds h else .bad
  | .idx a b, ρ, h => (ev F a ρ h).bind fun d h => (ev F b ρ h).bind fun e h => prim2 .idx d e h
  | .sl fr a lo hi, ρ, h => (ev F a ρ h).bind fun d h => (ev F lo ρ h).bind fun l h => if isPart l then (ev F hi ρ h).bind fun u h => if isPart u then sliceP fr d l u h else .bad else .bad
  | .rev fr a, ρ, h => (ev F a ρ h).bind fun d h => revP fr d h
  | .comp fr k es tg cs e own, ρ, h => (evs F es ρ h).bind fun ds h => (match walkOf k ds h with
    | none => .bad
    | some w => (compL tg w.stay (lockH k ds h).length (wipe ρ own) (evC F cs) (ev F e) w.items (lockH k ds h ++ [.hl []])).bind fun xs h2 => compEnd fr (lockH k ds h) h2 xs)
noncomputable def evs (F : Nat → List D → Hc → R D) : List CE → Env → Hc → R (List D)
  | [], _, h => .ok [] h
  | e :: es, ρ, h => (ev F e ρ h).bind fun d h => (evs F es ρ h).bind fun ds h => .ok (d :: ds) h
noncomputable def evC (F : Nat → List D → Hc → R D) : List CE → Env → Hc → R Bool
  | [], _, h => .ok true h
  | [c], ρ, h => truthR (ev F c ρ h)
  | _, _, _ => .bad
end

/-! ### statements -/
inductive S where
  | nx (ρ : Env) (h : Hc) | rt (d : D) (h : Hc) | bk (ρ : Env) (h : Hc) | ct (ρ : Env) (h : Hc) | ex (c : Nat) (ρ : Env) (h : Hc) | bad
def R.st {α : Type} (r : R α) (ρ : Env) (f : α → Hc → S) : S := match r with
  | .ok a h => f a h
  | .ex c h => .ex c ρ h
  | .bad => .bad
@[simp] theorem R.st_ok {α : Type} (a : α) (h : Hc) (ρ : Env) (f : α → Hc → S) : (R.ok a h).st ρ f = f a h := rfl
@[simp] theorem R.st_ex {α : Type} (c : Nat) (h : Hc) (ρ : Env) (f : α → Hc → S) : (R.ex c h : R α).st ρ f = .ex c ρ h := rfl
@[simp] theorem R.st_bad {α : Type} (ρ : Env) (f : α → Hc → S) : (R.bad : R α).st ρ f = .bad := rfl
def S.andThen : S → (Env → Hc → S) → S
  | .nx ρ h, f => f ρ h
  | s, _ => s
@[simp] theorem S.andThen_nx (ρ : Env) (h : Hc) (f : Env → Hc → S) : (S.nx ρ h).andThen f = f ρ h := rfl
@[simp] theorem S.andThen_rt (d : D) (h : Hc) (f : Env → Hc → S) : (S.rt d h).andThen f = .rt d h := rfl
@[simp] theorem S.andThen_ex (c : Nat) (ρ : Env) (h : Hc) (f : Env → Hc → S) : (S.ex c ρ h).andThen f = .ex c ρ h := rfl
@[simp] theorem S.andThen_bk (ρ : Env) (h : Hc) (f : Env → Hc → S) : (S.bk ρ h).andThen f = .bk ρ h := rfl
@[simp] theorem S.andThen_ct (ρ : Env) (h : Hc) (f : Env → Hc → S) : (S.ct ρ h).andThen f = .ct ρ h := rfl
@[simp] theorem S.andThen_bad (f : Env → Hc → S) : S.bad.andThen f = .bad := rfl
/-- the turns of a for -/
def forL (tg : CT) (g : List (Nat × O)) (b : Env → Hc → S) : List D → Env → Hc → S
  | [], ρ, h => if stays h g then .nx ρ h else .bad
  | d :: ds, ρ, h => if stays h g then (match bindT tg d ρ with
    | none => .bad
    | some ρ' => (match b ρ' h with
      | .nx ρ h => forL tg g b ds ρ h
      | .ct ρ h => forL tg g b ds ρ h
      | .bk ρ h => .nx ρ h
      | s => s)) else .bad
/-- the turns of a while, so many at most: none: not through -/
def turns (c : Env → Hc → R Bool) (b : Env → Hc → S) : Nat → Env → Hc → Option S
  | 0, _, _ => none
  | k + 1, ρ, h => (match c ρ h with
    | .ok true h => (match b ρ h with
      | .nx ρ h => turns c b k ρ h
      | .ct ρ h => turns c b k ρ h
      | .bk ρ h => some (.nx ρ h)
      | s => some s)
    | .ok false h => some (.nx ρ h)
    | .ex e h => some (.ex e ρ h)
    | .bad => some .bad)
open Classical in
noncomputable def whilL (c : Env → Hc → R Bool) (b : Env → Hc → S) (ρ : Env) (h : Hc) : S :=
  if p : ∃ k s, turns c b k ρ h = some s then p.choose_spec.choose else .bad

/-- no slot names a place from m on -/
def envOld (m : Nat) : Env → Bool
  | [] => true
  | none :: ρ => envOld m ρ
  | some d :: ρ => D.old m d && envOld m ρ
/-- the end of a block: its own slots are wiped, its new places dropped where nothing names them -/
def tidyE (own : List Nat) (h : Hc) (f : Env → Hc → S) (ρ : Env) (h' : Hc) : S :=
  if kept h h' = true ∧ envOld h.length (wipe ρ own) = true then f (wipe ρ own) (h'.take h.length) else f (wipe ρ own) h'
def tidyS (own : List Nat) (h : Hc) : S → S
  | .nx ρ h' => tidyE own h .nx ρ h'
  | .ct ρ h' => tidyE own h .ct ρ h'
  | .bk ρ h' => tidyE own h .bk ρ h'
  | s => s
mutual
noncomputable def exe (F : Nat → List D → Hc → R D) : CS → Env → Hc → S
  | .asg t e, ρ, h => (ev F e ρ h).st ρ fun d h => (match bindT t d ρ with
    | some ρ' => .nx ρ' h
    | none => .bad)
  | .seti o i e, ρ, h => (ev F e ρ h).st ρ fun v h => (ev F o ρ h).st ρ fun d h => (ev F i ρ h).st ρ fun k h => (match setItem d k v h with
    | some h' => .nx ρ h'
    | none => .bad)
  | .ex e, ρ, h => (ev F e ρ h).st ρ fun _ h => .nx ρ h
  | .ret e, ρ, h => (ev F e ρ h).st ρ fun d h => .rt d h
  | .retN, _, h => .rt .non h
  | .ife c a b, ρ, h => (truthR (ev F c ρ h)).st ρ fun k h => if k then exes F a ρ h else exes F b ρ h
  | .for k es tg b, ρ, h => (evs F es ρ h).st ρ fun ds h => (match walkOf k ds h with
    | none => .bad
    | some w => forL tg w.stay (exes F b) w.items ρ (lockH k ds h))
  | .whil c b, ρ, h => whilL (fun ρ h => truthR (ev F c ρ h)) (exes F b) ρ h
  | .raise c, ρ, h => .ex c ρ h
  | .pass, ρ, h => .nx ρ h
  | .brk, ρ, h => .bk ρ h
  | .cont, ρ, h => .ct ρ h
  | .blk own b, ρ, h => tidyS own h (exes F b ρ h)
noncomputable def exes (F : Nat → List D → Hc → R D) : List CS → Env → Hc → S
  | [], ρ, h => .nx ρ h
  | s :: ss, ρ, h => (exe F s ρ h).andThen fun ρ h => exes F ss ρ h
end

/-! ### calls -/
structure Fn where
  np : Nat
  ns : Nat
  fz : Bool
  body : List CS
def leave (fz : Bool) (h h' : Hc) (d : D) : R D :=
  if kept h h' = true ∧ (if fz then frost h' h.length 3 d else d).old h.length = true then .ok (if fz then frost h' h.length 3 d else d) (h'.take h.length) else .ok d h'
def leaveX (h h' : Hc) (c : Nat) : R D := if kept h h' = true then .ex c (h'.take h.length) else .ex c h'
abbrev Tab := Nat → Option Fn
noncomputable def runF (T : Tab) : Nat → Nat → List D → Hc → R D
  | 0, _, _, _ => .bad
  | n + 1, f, ds, h => (match T f with
    | none => .bad
    | some F => if ds.length = F.np then (match exes (runF T n) F.body (ds.map some ++ List.replicate (F.ns - F.np) none) h with
      | .rt d h' => leave F.fz h h' d
      | .nx _ h' => leave false h h' .non
      | .ex c _ h' => leaveX h h' c
      | _ => .bad) else .bad)
end Q

/-! QC: the check that a piece of clean syntax is what the text says. -/
namespace Q
open PySem

structure Ck where
  N : List PySem.Str
  names : List (PySem.Str × Nat × Nat)
  frees : List PySem.Str
  clss : List (PySem.Str × Nat)
  consts : List (PySem.Str × D)

def visB (sc : Scope) (x : PySem.Str) : Bool := match sc.names.lookup x with
  | some .local => true
  | some .cell => true
  | some .free => true
  | _ => false
def locB (sc : Scope) (x : PySem.Str) : Bool := match sc.names.lookup x with
  | some .local => true
  | some .cell => true
  | _ => false
def glB (sc : Scope) (x : PySem.Str) : Bool := decide (sc.names.lookup x = some .globalImplicit) && !(x == ("__debug__" : PySem.Str)) && decide (x ≠ "__name__")
/-- a built-in's name, free in the module -/
def Ck.blt (C : Ck) (sc : Scope) (x y : PySem.Str) : Bool := decide (x = y) && C.frees.contains y && glB sc x
def constB : Const → D → Bool
  | .none, .non => true
  | .bool a, .bl b => a == b
  | .int i, .int j => decide (i = j)
  | .str x, .str y => decide (x = y)
  | _, _ => false
def binB : P → Operator → Bool
  | .add _, .Add => true
  | .sub, .Sub => true
  | .mul _, .Mult => true
  | .fdiv, .FloorDiv => true
  | .mod, .Mod => true
  | .pow, .Pow => true
  | _, _ => false
def cmpB : P → CmpOp → Bool
  | .eq, .Eq => true
  | .ne, .NotEq => true
  | .lt, .Lt => true
  | .le, .LtE => true
  | .gt, .Gt => true
  | .ge, .GtE => true
  | .isin, .In => true
  | .notin, .NotIn => true
  | _, _ => false
def isB1 : P → CmpOp → Const → Bool
  | .isN, .Is, .none => true
  | .isntN, .IsNot, .none => true
  | .isB a, .Is, .bool b => a == b
  | .isntB a, .IsNot, .bool b => a == b
  | _, _, _ => false
/-- a built-in function by its name and the number of its arguments; for a class its type's name stands second -/
def biB : P → List (PySem.Str × Nat)
  | .len => [("len", 1)]
  | .toTup _ => [("tuple", 1)]
  | .toLst _ => [("list", 1)]
  | .toInt => [("int", 1)]
  | .toStr => [("str", 1)]
  | .repr => [("repr", 1)]
  | .abs => [("abs", 1)]
  | .max2 => [("max", 2)]
  | .min2 => [("min", 2)]
  | .maxL => [("max", 1)]
  | .minL => [("min", 1)]
  | .sum => [("sum", 1)]
  | .sorted _ => [("sorted", 1)]
  | .all => [("all", 1)]
  | .any => [("any", 1)]
  | _ => []
def tyB : Ty → PySem.Str
  | .int => "int"
  | .bool => "bool"
  | .tup => "tuple"
  | .lst => "list"
  | .str => "str"
  | .dict => "dict"
def mtB : P → List (PySem.Str × Nat)
  | .append => [("append", 1)]
  | .pop0 => [("pop", 0)]
  | .pop1 => [("pop", 1)]
  | .get1 => [("get", 1)]
  | .get2 => [("get", 2)]
  | .update1 => [("update", 1)]
  | .index => [("index", 1)]
  | .indexT => [("index", 1)]
  | .count => [("count", 1)]
  | .countT => [("count", 1)]
  | _ => []
/-- the receiver is no bare call -/
def recvB : Expr → Bool
  | .Call (.Name _ _) [] [] _ => false
  | _ => true
def notSet : Expr → Bool
  | .Set _ _ _ => false
  | _ => true
def notSlice : Expr → Bool
  | .Slice _ _ _ _ => false
  | _ => true
def minus1 : Expr → Bool
  | .UnaryOp .USub (.Constant (.int i) _ _) _ => decide (i = 1)
  | _ => false
def kSc (scope sc : Scope) : Scope := L2.relS scope sc
def ownN (N : List PySem.Str) : List Nat → List (PySem.Str × Nat)
  | [] => []
  | i :: r => (N.getD i "", i) :: ownN N r

mutual
def ckT (C : Ck) (sc : Scope) : CT → Expr → Bool
  | .n i, .Name x _ => decide (C.N[i]? = some x) && locB sc x
  | .t ts, .Tuple es _ _ => ckTs C sc ts es && decide (2 ≤ ts.length)
  | _, _ => false
def ckTs (C : Ck) (sc : Scope) : List CT → List Expr → Bool
  | [], [] => true
  | t :: ts, e :: es => ckT C sc t e && ckTs C sc ts es
  | _, _ => false
end
mutual
def slotsT : CT → List Nat
  | .n i => [i]
  | .t ts => slotsTs ts
def slotsTs : List CT → List Nat
  | [] => []
  | t :: ts => slotsT t ++ slotsTs ts
end
/-- what a built-in's call asks of its arguments: those that are reckoned -/
def biA (C : Ck) (sc : Scope) (q : P) (x : PySem.Str) (as : List Expr) : Option (List Expr) := match q, as with
  | .isinst t, [e, .Name y _] => if C.blt sc x "isinstance" && C.blt sc y (tyB t) then some [e] else none
  | .isinst _, _ => none
  | .lenSet, [.Call (.Name y _) [e] [] _] => if C.blt sc x "len" && C.blt sc y "set" then some [e] else none
  | .lenSet, _ => none
  | .rngL _, [.Call (.Name y _) [e] [] _] => if C.blt sc x "list" && C.blt sc y "range" then some [e] else none
  | .rngL _, _ => none
  | q, as => if (biB q).any (fun p => C.blt sc x p.1 && decide (as.length = p.2)) then some as else none
/-- what a loop's source asks -/
def itA (C : Ck) (sc : Scope) (k : IK) (it : Expr) : Option (List Expr) := match k, it with
  | .seq, e => if notSet e then some [e] else none
  | .rng1, .Call (.Name x _) [a] [] _ => if C.blt sc x "range" then some [a] else none
  | .rng2, .Call (.Name x _) [a, b] [] _ => if C.blt sc x "range" then some [a, b] else none
  | .enum, .Call (.Name x _) [a] [] _ => if C.blt sc x "enumerate" then some [a] else none
  | .zip, .Call (.Name x _) [a, b] [] _ => if C.blt sc x "zip" then some [a, b] else none
  | .items, .Call (.Attribute e m p) [] [] q => if decide (m = ("items" : PySem.Str)) && (p.endLine == q.line) && recvB e then some [e] else none
  | .values, .Call (.Attribute e m p) [] [] q => if decide (m = ("values" : PySem.Str)) && (p.endLine == q.line) && recvB e then some [e] else none
  | .keys, e => if notSet e then some [e] else none
  | _, _ => none
def partB (o : Option Expr) (c : CE) : Option Expr := match o, c with
  | some e, _ => some e
  | none, .c .non => some (.Constant .none 0 ⟨0, 0, 0, 0⟩)
  | _, _ => none
def more (r : List Expr) (y : Expr) (op : BoolOp) (p : Pos) : Expr := if r.isEmpty then y else .BoolOp op (y :: r) p
/-- pairs are taken apart -/
def tgOk : IK → CT → Bool
  | .enum, .n _ => false
  | .zip, .n _ => false
  | .items, .n _ => false
  | _, _ => true
mutual
def ck (C : Ck) (sc : Scope) : CE → Expr → Bool
  | .v i, .Name x _ => decide (C.N[i]? = some x) && visB sc x && !(x == ("__debug__" : PySem.Str)) && !(x == ("__classdict__" : PySem.Str))
  | .c d, .Constant k _ _ => constB k d
  | .c d, .Name x _ => glB sc x && decide (C.consts.lookup x = some d)
  | .tup es, .Tuple as _ _ => cks C sc es as
  | .lst _ es, .List as _ => cks C sc es as
  | .dnew _, .Dict ks vs _ => ks.isEmpty && vs.isEmpty
  | .dic t kvs, .Dict ks vs _ => !t && ckD C sc kvs ks vs && decide (ks.length ≤ 15) && !ks.isEmpty
  | .un q a, .UnaryOp op e _ => ((decide (q = .neg) && decide (op = .USub)) || (decide (q = .not) && decide (op = .Not))) && ck C sc a e
  | .un q a, .Compare e [op] [.Constant k _ _] _ => isB1 q op k && ck C sc a e
  | .bin q a b, .BinOp x op y _ => binB q op && ck C sc a x && ck C sc b y
  | .cmp q a b, .Compare x [op] [y] _ => cmpB q op && ck C sc a x && ck C sc b y && notSet y
  | .cmp2 q r a b c, .Compare x [op, op'] [y, z] _ => cmpB q op && cmpB r op' && ck C sc a x && ck C sc b y && ck C sc c z && !(op == .In) && !(op == .NotIn) && !(op' == .In) && !(op' == .NotIn)
  | .and a b, .BoolOp .And (x :: y :: r) p => ck C sc a x && ck C sc b (more r y .And p)
  | .or a b, .BoolOp .Or (x :: y :: r) p => ck C sc a x && ck C sc b (more r y .Or p)
  | .ite c a b, .IfExp t x y _ => ck C sc c t && ck C sc a x && ck C sc b y
  | .call f es, .Call (.Name x _) as [] _ => glB sc x && decide (C.names.lookup x = some (f, es.length)) && cks C sc es as
  | .bi q es, .Call (.Name x _) as [] _ => (match biA C sc q x as with
    | some as => cks C sc es as
    | none => false)
  | .mt q o es, .Call (.Attribute e m apos) as [] pos => (mtB q).any (fun p => decide (m = p.1) && decide (es.length = p.2)) && recvB e && (apos.endLine == pos.line) && ck C sc o e && cks C sc es as
  | .idx a b, .Subscript x y _ => ck C sc a x && ck C sc b y
  | .sl _ a lo hi, .Subscript x (.Slice l u none _) _ => ck C sc a x && (match partB l lo with
    | some e => ck C sc lo e
    | none => false) && (match partB u hi with
    | some e => ck C sc hi e
    | none => false)
  | .rev _ a, .Subscript x (.Slice none none (some s) _) _ => ck C sc a x && minus1 s
  | .comp _ k es tg cs e own, .ListComp elt [⟨t, it, ifs, as⟩] scope _ => decide (as = 0) && (match itA C sc k it with
    | some l => cks C sc es l
    | none => false) && L2.blkC C.N sc scope (ownN C.N own) && ckT C scope tg t && tgOk k tg && (slotsT tg).all (fun i => own.contains i) && cks C (kSc scope sc) cs ifs && decide (cs.length ≤ 1) && ck C (kSc scope sc) e elt
  | _, _ => false
def cks (C : Ck) (sc : Scope) : List CE → List Expr → Bool
  | [], [] => true
  | c :: cs, e :: es => ck C sc c e && cks C sc cs es
  | _, _ => false
def ckD (C : Ck) (sc : Scope) : List CE → List (Option Expr) → List Expr → Bool
  | [], [], [] => true
  | c :: d :: cs, some e :: es, v :: vs => ck C sc c e && ck C sc d v && ckD C sc cs es vs
  | _, _, _ => false
end
/-- a comprehension at a plain name's store -/
def isComp : Expr → Bool
  | .ListComp _ _ _ _ => true
  | _ => false
def swapB (sc : Scope) (t : Expr) (e : Expr) (line : Nat) : Bool := match t, e with
  | .Name x p, .ListComp _ _ s q => decide (sc.names.lookup x = some .local) && (p.line == q.line) && !(s.names.any fun (n, k) => n == x && (k == .local || k == .cell))
  | _, _ => false
/-- the names whose stores a pair's assignment turns about: none: not served -/
def parN (sc : Scope) (ts vs : List Expr) : Option (Option (List PySem.Str)) :=
  if (!(ts.length == 2 || ts.length == 3) || vs.length != ts.length) = true then some none
  else if (vs.any fun | .Starred .. => true | _ => false) = true then none
  else
    let line := (ts.head?.map (·.pos.line)).getD 0
    let names := ts.filterMap fun
      | .Name id pos => if sc.names.lookup id == some .local && pos.line == line then some id else none
      | _ => none
    if (names.length != ts.length || names.eraseDups.length != names.length) = true then some none
    else if vs.all (foldedForSure 8) = true then some none
    else if vs.all (constantsAlone 8) = true then none
    else some (some names)
def loc1 (sc : Scope) (x : PySem.Str) : Bool := decide (sc.names.lookup x = some .local)
def asgB (sc : Scope) (t : CT) (tg v : Expr) : Bool := match tg, v with
  | .Tuple ts _ _, .Tuple vs _ _ => (match parN sc ts vs with
    | some none => true
    | some (some ns) => (match t, ts, vs with
      | .t [.n i, .n j], [.Name x _, .Name y _], [_, _] => decide (ns = [x, y]) && decide (i ≠ j) && loc1 sc x && loc1 sc y
      | .t [.n i, .n j, .n l], [.Name x _, .Name y _, .Name z _], [_, _, _] => decide (ns = [x, y, z]) && decide (i ≠ j) && decide (i ≠ l) && decide (j ≠ l) && loc1 sc x && loc1 sc y && loc1 sc z
      | _, _, _ => false)
    | none => false)
  | _, _ => true
def raiseB (C : Ck) (sc : Scope) (c : Nat) : Expr → Bool
  | .Call (.Name x _) [] [] _ => glB sc x && decide (C.clss.lookup x = some c)
  | _ => false
mutual
def ckS (C : Ck) (sc : Scope) : CS → Stmt → Bool
  | .asg t e, .Assign [tg] v p => ckT C sc t tg && ck C sc e v && asgB sc t tg v
  | .seti o i e, .Assign [.Subscript x y _] v _ => ck C sc o x && ck C sc i y && ck C sc e v && notSlice y && !(isComp v)
  | .ex e, .Expr v _ => ck C sc e v && !(isComp v)
  | .ret e, .Return (some v) _ => ck C sc e v
  | .retN, .Return none _ => true
  | .ife c a b, .If t x y _ => ck C sc c t && ckSs C sc a x && ckSs C sc b y
  | .for k es tg b, .For t it x [] _ => (match itA C sc k it with
    | some l => cks C sc es l
    | none => false) && ckT C sc tg t && tgOk k tg && ckSs C sc b x
  | .whil c b, .While t x [] _ => ck C sc c t && ckSs C sc b x
  | .raise c, .Raise (some e) none _ => raiseB C sc c e
  | .pass, .Pass _ => true
  | .pass, .Expr (.Constant (.str _) _ _) _ => true
  | .brk, .Break _ => true
  | .cont, .Continue _ => true
  | _, _ => false
def ckSs (C : Ck) (sc : Scope) : List CS → List Stmt → Bool
  | [.blk _ b], sts => ckSs C sc b sts
  | [], [] => true
  | c :: cs, s :: ss => ckS C sc c s && ckSs C sc cs ss
  | _, _ => false
end
end Q

/-! QR: how clean values and the clean heap lie in the abstract heap. -/
namespace Q
open PySem PySem.Spec PyProof.Rows L2

/-- data, for what stays as it is while it is no place of the clean heap -/
def Dat : HO → Prop
  | .dK _ => True
  | .dT _ => True
  | _ => False
/-- from (μ, G) to (ν, H): more places, all new; data that is no place stays, tuples, what is known stay -/
structure Ext (μ : List Addr) (G : Hp) (ν : List Addr) (H : Hp) : Prop where
  pre : ∃ l, ν = μ ++ l ∧ ∀ a ∈ l, G a = none
  keep : ∀ a o, a ∉ μ → Dat o → Rd G a o → Rd H a o
  lst : ∀ a xs, a ∉ μ → G a = some (.lst xs) → H a = some (.lst xs)
  tup : ∀ a xs, G a = some (.tup xs) → H a = some (.tup xs)
  frz : ∀ a o u, G a = some (.frz o u) → H a = some (.frz o u)
  stood : ∀ a, H a = none → G a = none
theorem Ext.refl (μ : List Addr) (H : Hp) : Ext μ H μ H := ⟨⟨[], by simp, fun _ h => nomatch h⟩, fun _ _ _ _ h => h, fun _ _ _ h => h, fun _ _ h => h, fun _ _ _ h => h, fun _ h => h⟩
theorem Rd.ne {H : Hp} {a : Addr} {o : HO} (h : Rd H a o) : H a ≠ none := by
  rcases h with h | ⟨_, h⟩ <;> rw [h] <;> simp
theorem Ext.not_mem {μ ν : List Addr} {G H : Hp} {a : Addr} (x : Ext μ G ν H) (h : a ∉ μ) (g : G a ≠ none) : a ∉ ν := by
  obtain ⟨l, rfl, hl⟩ := x.pre
  intro hm
  rcases List.mem_append.mp hm with z | z
  · exact h z
  · exact g (hl a z)
theorem Ext.trans {μ ν κ : List Addr} {F G H : Hp} (x : Ext μ F ν G) (y : Ext ν G κ H) : Ext μ F κ H := by
  obtain ⟨l, e1, h1⟩ := x.pre
  obtain ⟨m, e2, h2⟩ := y.pre
  refine ⟨⟨l ++ m, by rw [e2, e1, List.append_assoc], fun a ha => ?_⟩, fun a o hn hd hr => ?_, fun a xs hn h => y.lst a xs (x.not_mem hn (by rw [h]; simp)) (x.lst a xs hn h), fun a xs h => y.tup a xs (x.tup a xs h), fun a o u h => y.frz a o u (x.frz a o u h), fun a h => x.stood a (y.stood a h)⟩
  · rcases List.mem_append.mp ha with z | z
    · exact h1 a z
    · exact x.stood a (h2 a z)
  · exact y.keep a o (x.not_mem hn (Rd.ne hr)) hd (x.keep a o hn hd hr)
theorem Ext.get {μ ν : List Addr} {G H : Hp} {n : Nat} {a : Addr} (x : Ext μ G ν H) (h : μ[n]? = some a) : ν[n]? = some a := by
  obtain ⟨l, rfl, _⟩ := x.pre
  rw [List.getElem?_append_left (List.getElem?_eq_some_iff.mp h).1]
  exact h

section
variable (K : PySem.W.Frag) (μ : List Addr) (H : Hp)
mutual
/-- a clean value at a value -/
def Rv : D → V → Prop
  | .non, v => v = .non
  | .bl b, v => v = .bl b
  | .int i, v => v = .int i
  | .str x, v => v = .str x
  | .tup xs, v => ∃ a vs, v = .ref a ∧ H a = some (.tup vs) ∧ Rvs xs vs
  | .lst xs, v => ∃ a vs, v = .ref a ∧ a ∉ μ ∧ H a = some (.lst vs) ∧ Rvs xs vs
  | .ftp xs, v => ∃ a o vs, v = .ref a ∧ H a = some (.frz o (.tup vs)) ∧ o.dict = none ∧ Rvs xs vs
  | .dk ks ds, v => ∃ a kvs, v = .ref a ∧ a ∉ μ ∧ Rd H a (.dK kvs) ∧ kvs.map (·.1) = ks ∧ Rvs ds (kvs.map (·.2))
  | .dt ks ds, v => ∃ a kvs, v = .ref a ∧ a ∉ μ ∧ Rd H a (.dT kvs) ∧ kvs.map (·.1) = ks ∧ Rvs ds (kvs.map (·.2))
  | .scr ns, v => ∃ a, v = .ref a ∧ ((∃ o, H a = some (.frz o (.lst (ns.map V.int)))) ∨
      ∃ (o : Obj) (its : Array Value) (n : Nat), K.lookup a = some o ∧ o.cls = .type "list" ∧ o.dict = none ∧ o.data = .seq its n ∧ its.size ≤ sizeLine ∧ Vals (ns.map V.int) its.toList)
  | .exc _, _ => False
  | .ref n, v => ∃ a, v = .ref a ∧ μ[n]? = some a
def Rvs : List D → List V → Prop
  | [], vs => vs = []
  | d :: ds, vs => ∃ v r, vs = v :: r ∧ Rv d v ∧ Rvs ds r
end
/-- a clean object at an address -/
def Ro : O → Addr → Prop
  | .lst xs, a => ∃ vs, H a = some (.lst vs) ∧ Rvs K μ H xs vs
  | .hl xs, a => ∃ vs, H a = some (.lst vs) ∧ Rvs K μ H xs vs
  | .dk kvs, a => ∃ ws, H a = some (.dK ws) ∧ ws.map (·.1) = kvs.map (·.1) ∧ Rvs K μ H (kvs.map (·.2)) (ws.map (·.2))
  | .dt kvs, a => ∃ ws, H a = some (.dT ws) ∧ ws.map (·.1) = kvs.map (·.1) ∧ Rvs K μ H (kvs.map (·.2)) (ws.map (·.2))
  | .wk kvs, a => ∃ o ws, H a = some (.frz o (.dK ws)) ∧ ws.map (·.1) = kvs.map (·.1) ∧ Rvs K μ H (kvs.map (·.2)) (ws.map (·.2))
  | .wt kvs, a => ∃ o ws, H a = some (.frz o (.dT ws)) ∧ ws.map (·.1) = kvs.map (·.1) ∧ Rvs K μ H (kvs.map (·.2)) (ws.map (·.2))
  | .ins _ _, _ => False
/-- the clean heap -/
structure Rh (h : Hc) : Prop where
  len : h.length = μ.length
  nd : μ.Nodup
  ob : ∀ (n : Nat) o a, h[n]? = some o → μ[n]? = some a → Ro K μ H o a
/-- the clean slots -/
def Re : Env → L2.St → Prop
  | [], σ => σ = []
  | d :: ρ, σ => ∃ v r, σ = v :: r ∧ (match d with | none => True | some x => ∃ y, v = some y ∧ Rv K μ H x y) ∧ Re ρ r
end

section
variable {K : PySem.W.Frag} {μ ν : List Addr} {G H : Hp} {h : Hc}
mutual
theorem Rv.ext (x : Ext μ G ν H) : ∀ (d : D) (v : V), Rv K μ G d v → Rv K ν H d v
  | .non, _, h => h
  | .bl _, _, h => h
  | .int _, _, h => h
  | .str _, _, h => h
  | .tup xs, v, h => by
    simp only [Rv] at h ⊢
    obtain ⟨a, vs, e, q, r⟩ := h
    exact ⟨a, vs, e, x.tup a vs q, Rvs.ext x xs vs r⟩
  | .lst xs, v, h => by
    simp only [Rv] at h ⊢
    obtain ⟨a, vs, e, n, q, r⟩ := h
    exact ⟨a, vs, e, x.not_mem n (by rw [q]; simp), x.lst a _ n q, Rvs.ext x xs vs r⟩
  | .ftp xs, v, h => by
    simp only [Rv] at h ⊢
    obtain ⟨a, o, vs, e, q, n, r⟩ := h
    exact ⟨a, o, vs, e, x.frz a o _ q, n, Rvs.ext x xs vs r⟩
  | .dk ks ds, v, h => by
    simp only [Rv] at h ⊢
    obtain ⟨a, kvs, e, n, q, ek, r⟩ := h
    exact ⟨a, kvs, e, x.not_mem n (Rd.ne q), x.keep a _ n trivial q, ek, Rvs.ext x ds _ r⟩
  | .dt ks ds, v, h => by
    simp only [Rv] at h ⊢
    obtain ⟨a, kvs, e, n, q, ek, r⟩ := h
    exact ⟨a, kvs, e, x.not_mem n (Rd.ne q), x.keep a _ n trivial q, ek, Rvs.ext x ds _ r⟩
  | .scr ns, v, h => by
    simp only [Rv] at h ⊢
    obtain ⟨a, e, q⟩ := h
    exact ⟨a, e, q.imp (fun ⟨o, q⟩ => ⟨o, x.frz a o _ q⟩) id⟩
  | .exc _, _, h => by simp only [Rv] at h
  | .ref n, v, h => by
    simp only [Rv] at h ⊢
    obtain ⟨a, e, q⟩ := h
    exact ⟨a, e, x.get q⟩
theorem Rvs.ext (x : Ext μ G ν H) : ∀ (ds : List D) (vs : List V), Rvs K μ G ds vs → Rvs K ν H ds vs
  | [], _, h => by simpa only [Rvs] using h
  | d :: ds, vs, h => by
    simp only [Rvs] at h ⊢
    obtain ⟨v, r, e, q, t⟩ := h
    exact ⟨v, r, e, Rv.ext x d v q, Rvs.ext x ds r t⟩
end

theorem Rvs.length : ∀ {ds : List D} {vs : List V}, Rvs K μ H ds vs → ds.length = vs.length
  | [], vs, h => by
    simp only [Rvs] at h
    rw [h] <;> rfl
  | d :: ds, vs, h => by
    simp only [Rvs] at h
    obtain ⟨v, r, e, _, t⟩ := h
    rw [e, List.length_cons, List.length_cons, Rvs.length t]
theorem Rvs.get : ∀ {ds : List D} {vs : List V} {i : Nat} {d : D}, Rvs K μ H ds vs → ds[i]? = some d → ∃ v, vs[i]? = some v ∧ Rv K μ H d v
  | [], _, _, _, _, e => by simp at e
  | d :: ds, vs, i, x, h, e => by
    simp only [Rvs] at h
    obtain ⟨v, r, rfl, q, t⟩ := h
    cases i with
    | zero =>
      simp at e
      subst e
      exact ⟨v, rfl, q⟩
    | succ i =>
      simp only [List.getElem?_cons_succ] at e ⊢
      exact Rvs.get t e
theorem Rvs.of_get : ∀ {ds : List D} {vs : List V}, ds.length = vs.length → (∀ (i : Nat) d v, ds[i]? = some d → vs[i]? = some v → Rv K μ H d v) → Rvs K μ H ds vs
  | [], vs, l, _ => by
    simp only [Rvs]
    cases vs with
    | nil => rfl
    | cons _ _ => simp at l
  | d :: ds, [], l, _ => by simp at l
  | d :: ds, v :: vs, l, h => by
    simp only [Rvs]
    exact ⟨v, vs, rfl, h 0 d v rfl rfl, Rvs.of_get (by simpa using l) fun i x y e1 e2 => h (i + 1) x y (by simpa using e1) (by simpa using e2)⟩
theorem Rvs.append {ds es : List D} {vs ws : List V} (h : Rvs K μ H ds vs) (g : Rvs K μ H es ws) : Rvs K μ H (ds ++ es) (vs ++ ws) := by
  refine Rvs.of_get (by rw [List.length_append, List.length_append, h.length, g.length]) fun i d v e1 e2 => ?_
  by_cases hi : i < ds.length
  · rw [List.getElem?_append_left hi] at e1
    rw [List.getElem?_append_left (by rw [← h.length]; exact hi)] at e2
    obtain ⟨w, e3, r⟩ := h.get e1
    rw [e2] at e3
    cases e3
    exact r
  · have hi' : ds.length ≤ i := Nat.le_of_not_lt hi
    rw [List.getElem?_append_right hi'] at e1
    rw [List.getElem?_append_right (by rw [← h.length]; exact hi'), ← h.length] at e2
    obtain ⟨w, e3, r⟩ := g.get e1
    rw [e2] at e3
    cases e3
    exact r
theorem Rvs.one {d : D} {v : V} (h : Rv K μ H d v) : Rvs K μ H [d] [v] := by
  simp only [Rvs]
  exact ⟨v, [], rfl, h, rfl⟩
theorem Rvs.nil : Rvs K μ H [] [] := by simp only [Rvs]
theorem Rvs.cons {d : D} {v : V} {ds : List D} {vs : List V} (h : Rv K μ H d v) (t : Rvs K μ H ds vs) : Rvs K μ H (d :: ds) (v :: vs) := by
  simp only [Rvs]
  exact ⟨v, vs, rfl, h, t⟩
theorem Rvs.uncons {d : D} {ds : List D} {vs : List V} (h : Rvs K μ H (d :: ds) vs) : ∃ v r, vs = v :: r ∧ Rv K μ H d v ∧ Rvs K μ H ds r := by
  simpa only [Rvs] using h
theorem Rvs.unnil {vs : List V} (h : Rvs K μ H [] vs) : vs = [] := by simpa only [Rvs] using h
/-- a list whose items are picked out of another one alike -/
theorem Rvs.pick {ds es : List D} {vs ws : List V} (h : Rvs K μ H ds vs) (f : Nat → Option Nat) (l : es.length = ws.length) (he : ∀ i d, es[i]? = some d → ∃ j, f i = some j ∧ ds[j]? = some d) (hw : ∀ i v, ws[i]? = some v → ∃ j, f i = some j ∧ vs[j]? = some v) : Rvs K μ H es ws :=
  Rvs.of_get l fun i d v e1 e2 => by
    obtain ⟨j, f1, g1⟩ := he i d e1
    obtain ⟨k, f2, g2⟩ := hw i v e2
    rw [f1] at f2
    cases f2
    obtain ⟨w, g3, r⟩ := h.get g1
    rw [g2] at g3
    cases g3
    exact r
theorem Rvs.take {ds : List D} {vs : List V} (h : Rvs K μ H ds vs) (n : Nat) : Rvs K μ H (ds.take n) (vs.take n) :=
  h.pick (fun i => some i) (by rw [List.length_take, List.length_take, h.length]) (fun i d e => ⟨i, rfl, by
    rw [List.getElem?_take] at e
    split at e
    · exact e
    · cases e⟩) fun i d e => ⟨i, rfl, by
    rw [List.getElem?_take] at e
    split at e
    · exact e
    · cases e⟩
theorem Rvs.drop {ds : List D} {vs : List V} (h : Rvs K μ H ds vs) (n : Nat) : Rvs K μ H (ds.drop n) (vs.drop n) :=
  h.pick (fun i => some (n + i)) (by rw [List.length_drop, List.length_drop, h.length]) (fun i d e => ⟨n + i, rfl, by rwa [List.getElem?_drop] at e⟩) fun i d e => ⟨n + i, rfl, by rwa [List.getElem?_drop] at e⟩
theorem Rvs.set {ds : List D} {vs : List V} {d : D} {v : V} (h : Rvs K μ H ds vs) (r : Rv K μ H d v) (n : Nat) : Rvs K μ H (ds.set n d) (vs.set n v) :=
  Rvs.of_get (by rw [List.length_set, List.length_set, h.length]) fun i x y e1 e2 => by
    rw [List.getElem?_set] at e1 e2
    split at e1
    · rename_i hn
      subst hn
      rw [if_pos rfl] at e2
      split at e1
      · split at e2
        · cases e1
          cases e2
          exact r
        · cases e2
      · cases e1
    · rename_i hn
      rw [if_neg hn] at e2
      obtain ⟨w, e3, q⟩ := h.get e1
      rw [e2] at e3
      cases e3
      exact q
theorem Rvs.reverse {ds : List D} {vs : List V} (h : Rvs K μ H ds vs) : Rvs K μ H ds.reverse vs.reverse := by
  induction ds generalizing vs with
  | nil =>
    rw [h.unnil]
    exact Rvs.nil
  | cons d ds ih =>
    obtain ⟨v, r, rfl, q, t⟩ := h.uncons
    rw [List.reverse_cons, List.reverse_cons]
    exact (ih t).append (Rvs.one q)
/-! ### the heap's changes -/
theorem Rh.lt (R : Rh K μ H h) {n : Nat} {a : Addr} (e : μ[n]? = some a) : ∃ o, h[n]? = some o ∧ Ro K μ H o a := by
  have hn : n < h.length := by
    rw [R.len]
    exact (List.getElem?_eq_some_iff.mp e).1
  exact ⟨h[n], List.getElem?_eq_getElem hn, R.ob n _ a (List.getElem?_eq_getElem hn) e⟩
theorem Ro.ne {o : O} {a : Addr} (r : Ro K μ H o a) : H a ≠ none := by
  cases o with
  | lst xs => obtain ⟨_, e, _⟩ := r; rw [e]; simp
  | hl xs => obtain ⟨_, e, _⟩ := r; rw [e]; simp
  | dk xs => obtain ⟨_, e, _⟩ := r; rw [e]; simp
  | dt xs => obtain ⟨_, e, _⟩ := r; rw [e]; simp
  | wk xs => obtain ⟨_, _, e, _⟩ := r; rw [e]; simp
  | wt xs => obtain ⟨_, _, e, _⟩ := r; rw [e]; simp
  | ins c fs => exact r.elim
theorem Rh.ne (R : Rh K μ H h) {a : Addr} (m : a ∈ μ) : H a ≠ none := by
  obtain ⟨n, hn, e⟩ := List.getElem_of_mem m
  obtain ⟨o, _, r⟩ := R.lt (n := n) (a := a) (by rw [List.getElem?_eq_getElem hn, e])
  exact r.ne
theorem Rh.fresh (R : Rh K μ H h) {a : Addr} (m : H a = none) : a ∉ μ := fun q => R.ne q m
theorem Rh.notup (R : Rh K μ H h) {a : Addr} {xs : List V} (m : a ∈ μ) : H a ≠ some (.tup xs) := by
  obtain ⟨n, hn, e⟩ := List.getElem_of_mem m
  obtain ⟨o, _, r⟩ := R.lt (n := n) (a := a) (by rw [List.getElem?_eq_getElem hn, e])
  intro q
  cases o with
  | lst xs => obtain ⟨_, e, _⟩ := r; rw [e] at q; cases q
  | hl xs => obtain ⟨_, e, _⟩ := r; rw [e] at q; cases q
  | dk xs => obtain ⟨_, e, _⟩ := r; rw [e] at q; cases q
  | dt xs => obtain ⟨_, e, _⟩ := r; rw [e] at q; cases q
  | wk xs => obtain ⟨_, _, e, _⟩ := r; rw [e] at q; cases q
  | wt xs => obtain ⟨_, _, e, _⟩ := r; rw [e] at q; cases q
  | ins c fs => exact r.elim
/-- an object's description under more places, where its own address is as it was -/
theorem Ro.ext {o : O} {a : Addr} (x : Ext μ G ν H) (e : H a = G a) (r : Ro K μ G o a) : Ro K ν H o a := by
  cases o with
  | lst xs => obtain ⟨vs, q, t⟩ := r; exact ⟨vs, by rw [e]; exact q, Rvs.ext x _ _ t⟩
  | hl xs => obtain ⟨vs, q, t⟩ := r; exact ⟨vs, by rw [e]; exact q, Rvs.ext x _ _ t⟩
  | dk xs => obtain ⟨vs, q, k, t⟩ := r; exact ⟨vs, by rw [e]; exact q, k, Rvs.ext x _ _ t⟩
  | dt xs => obtain ⟨vs, q, k, t⟩ := r; exact ⟨vs, by rw [e]; exact q, k, Rvs.ext x _ _ t⟩
  | wk xs => obtain ⟨o, vs, q, k, t⟩ := r; exact ⟨o, vs, by rw [e]; exact q, k, Rvs.ext x _ _ t⟩
  | wt xs => obtain ⟨o, vs, q, k, t⟩ := r; exact ⟨o, vs, by rw [e]; exact q, k, Rvs.ext x _ _ t⟩
  | ins c fs => exact r.elim
theorem Rd.upd_ne {H : Hp} {a p : Addr} {o u : HO} (h : a ≠ p) (r : Rd H a o) : Rd (upd H p u) a o := by
  rcases r with r | ⟨z, r⟩
  · exact .inl (by rw [L2.upd_ne h]; exact r)
  · exact .inr ⟨z, by rw [L2.upd_ne h]; exact r⟩
/-- a new object that is no place (a tuple, a frozen list) -/
theorem Ext.side {p : Addr} {u : HO} (μ : List Addr) (hp : H p = none) : Ext μ H μ (upd H p u) :=
  ⟨⟨[], by simp, fun _ h => nomatch h⟩, fun a o _ _ r => Rd.upd_ne (fun e => Rd.ne r (e ▸ hp)) r, fun a xs _ e => by rw [L2.upd_ne (fun z => by rw [z, hp] at e; cases e)]; exact e, fun a xs e => by rw [L2.upd_ne (fun z => by rw [z, hp] at e; cases e)]; exact e,
    fun a o u e => by rw [L2.upd_ne (fun z => by rw [z, hp] at e; cases e)]; exact e, fun a h => by
      by_cases e : a = p
      · rw [e]; exact hp
      · rwa [L2.upd_ne e] at h⟩
theorem Rh.side {p : Addr} {u : HO} (R : Rh K μ H h) (hp : H p = none) : Rh K μ (upd H p u) h :=
  ⟨R.len, R.nd, fun n o a e1 e2 => (R.ob n o a e1 e2).ext (Ext.side μ hp) (L2.upd_ne fun z => (R.ob n o a e1 e2).ne (z ▸ hp))⟩
/-- a new place -/
theorem Ext.push {p : Addr} {u : HO} (μ : List Addr) (hp : H p = none) : Ext μ H (μ ++ [p]) (upd H p u) :=
  ⟨⟨[p], rfl, fun a h => by rw [List.mem_singleton.mp h]; exact hp⟩, (Ext.side μ hp).keep, (Ext.side μ hp).lst, (Ext.side μ hp).tup, (Ext.side μ hp).frz, (Ext.side μ hp).stood⟩
theorem Rh.push {p : Addr} {u : HO} {o : O} (R : Rh K μ H h) (hp : H p = none) (ro : Ro K (μ ++ [p]) (upd H p u) o p) : Rh K (μ ++ [p]) (upd H p u) (h ++ [o]) := by
  refine ⟨by rw [List.length_append, List.length_append, R.len, List.length_singleton, List.length_singleton], ?_, fun n x a e1 e2 => ?_⟩
  · refine List.nodup_append.mpr ⟨R.nd, by simp, fun a h b hb e => ?_⟩
    rw [List.mem_singleton.mp hb] at e
    exact R.fresh hp (e ▸ h)
  · by_cases hn : n < h.length
    · rw [List.getElem?_append_left hn] at e1
      rw [List.getElem?_append_left (by rw [← R.len]; exact hn)] at e2
      exact (R.ob n x a e1 e2).ext (Ext.push μ hp) (L2.upd_ne fun z => (R.ob n x a e1 e2).ne (z ▸ hp))
    · have hn' : h.length ≤ n := Nat.le_of_not_lt hn
      rw [List.getElem?_append_right hn'] at e1
      rw [List.getElem?_append_right (by rw [← R.len]; exact hn'), ← R.len] at e2
      obtain ⟨z, e1⟩ := List.getElem?_eq_some_iff.mp e1
      simp at z
      have hz : n - h.length = 0 := by omega
      rw [hz] at e2
      simp only [hz, List.getElem_cons_zero] at e1
      simp at e2
      subst e1 e2
      exact ro
/-- a place written -/
theorem Ext.put {p : Addr} {u : HO} (mem : p ∈ μ) (hp : ∀ o w, H p ≠ some (.frz o w)) (ht : ∀ xs, H p ≠ some (.tup xs)) : Ext μ H μ (upd H p u) :=
  ⟨⟨[], by simp, fun _ h => nomatch h⟩, fun a o n _ r => Rd.upd_ne (fun e => n (e ▸ mem)) r, fun a xs n e => by rw [L2.upd_ne (fun z => n (by rw [z]; exact mem))]; exact e, fun a xs e => by rw [L2.upd_ne (fun z => ht xs (by rw [← z]; exact e))]; exact e,
    fun a o u e => by rw [L2.upd_ne (fun z => hp o u (by rw [← z]; exact e))]; exact e, fun a h => by
      by_cases e : a = p
      · rw [e, upd_same] at h; cases h
      · rwa [L2.upd_ne e] at h⟩
theorem Rh.put {n : Nat} {p : Addr} {u : HO} {o : O} (R : Rh K μ H h) (hn : μ[n]? = some p) (hp : ∀ o w, H p ≠ some (.frz o w)) (ro : Ro K μ (upd H p u) o p) : Ext μ H μ (upd H p u) ∧ Rh K μ (upd H p u) (h.set n o) := by
  have mem : p ∈ μ := List.mem_of_getElem? hn
  have X : Ext μ H μ (upd H p u) := Ext.put mem hp fun xs => R.notup mem
  refine ⟨X, by rw [List.length_set]; exact R.len, R.nd, fun m x a e1 e2 => ?_⟩
  rw [List.getElem?_set] at e1
  split at e1
  · rename_i hm
    subst hm
    rw [hn] at e2
    cases e2
    split at e1
    · cases e1
      exact ro
    · cases e1
  · rename_i hm
    refine (R.ob m x a e1 e2).ext X (L2.upd_ne fun z => hm ?_)
    subst z
    obtain ⟨h1, e1⟩ := List.getElem?_eq_some_iff.mp hn
    obtain ⟨h2, e2⟩ := List.getElem?_eq_some_iff.mp e2
    exact (List.getElem_inj R.nd).mp (e1.trans e2.symm)
/-! ### the slots -/
theorem Re.get : ∀ {ρ : Env} {σ : L2.St} {i : Nat} {d : D}, Re K μ H ρ σ → ρ[i]? = some (some d) → ∃ v, σ[i]? = some (some v) ∧ Rv K μ H d v
  | [], _, _, _, _, e => by simp at e
  | x :: ρ, σ, i, d, h, e => by
    simp only [Re] at h
    obtain ⟨v, r, rfl, q, t⟩ := h
    cases i with
    | zero =>
      simp at e
      subst e
      obtain ⟨y, rfl, q⟩ := q
      exact ⟨y, rfl, q⟩
    | succ i =>
      simp only [List.getElem?_cons_succ] at e ⊢
      exact Re.get t e
theorem Re.set : ∀ {ρ : Env} {σ : L2.St} {d : D} {v : V} (i : Nat), Re K μ H ρ σ → Rv K μ H d v → Re K μ H (ρ.set i (some d)) (σ.set i (some v))
  | [], σ, d, v, i, h, r => by
    simp only [Re] at h
    subst h
    simp [Re]
  | x :: ρ, σ, d, v, i, h, r => by
    simp only [Re] at h
    obtain ⟨y, z, rfl, q, t⟩ := h
    cases i with
    | zero =>
      simp only [List.set_cons_zero, Re]
      exact ⟨_, _, rfl, ⟨v, rfl, r⟩, t⟩
    | succ i =>
      simp only [List.set_cons_succ, Re]
      exact ⟨_, _, rfl, q, Re.set i t r⟩
theorem Re.unset : ∀ {ρ : Env} {σ : L2.St} (i : Nat), Re K μ H ρ σ → Re K μ H (ρ.set i none) (σ.set i none)
  | [], σ, i, h => by
    simp only [Re] at h
    subst h
    simp [Re]
  | x :: ρ, σ, i, h => by
    simp only [Re] at h
    obtain ⟨y, z, rfl, q, t⟩ := h
    cases i with
    | zero =>
      simp only [List.set_cons_zero, Re]
      exact ⟨_, _, rfl, trivial, t⟩
    | succ i =>
      simp only [List.set_cons_succ, Re]
      exact ⟨_, _, rfl, q, Re.unset i t⟩
theorem Re.ext (x : Ext μ G ν H) : ∀ {ρ : Env} {σ : L2.St}, Re K μ G ρ σ → Re K ν H ρ σ
  | [], σ, h => by simpa only [Re] using h
  | d :: ρ, σ, h => by
    simp only [Re] at h ⊢
    obtain ⟨v, r, e, q, t⟩ := h
    refine ⟨v, r, e, ?_, Re.ext x t⟩
    cases d with
    | none => trivial
    | some d =>
      obtain ⟨y, e, q⟩ := q
      exact ⟨y, e, Rv.ext x _ _ q⟩
theorem Re.wipe {ρ : Env} {σ : L2.St} (h : Re K μ H ρ σ) : ∀ vs : List Nat, Re K μ H (Q.wipe ρ vs) (L2.wipe σ vs)
  | [] => h
  | v :: vs => by
    unfold Q.wipe L2.wipe
    exact Re.unset v (Re.wipe h vs)
theorem Re.start : ∀ {ds : List D} {vs : List V} (k : Nat), Rvs K μ H ds vs → Re K μ H (ds.map some ++ List.replicate k none) (vs.map some ++ List.replicate k none)
  | [], vs, k, h => by
    rw [h.unnil]
    induction k with
    | zero => simp [Re]
    | succ k ih =>
      simp only [List.map_nil, List.nil_append, List.replicate_succ, Re] at ih ⊢
      exact ⟨_, _, rfl, trivial, ih⟩
  | d :: ds, vs, k, h => by
    obtain ⟨v, r, rfl, q, t⟩ := h.uncons
    simp only [List.map_cons, List.cons_append, Re]
    exact ⟨_, _, rfl, ⟨v, rfl, q⟩, Re.start k t⟩
theorem Re.length : ∀ {ρ : Env} {σ : L2.St}, Re K μ H ρ σ → ρ.length = σ.length
  | [], σ, h => by
    simp only [Re] at h
    rw [h] <;> rfl
  | d :: ρ, σ, h => by
    simp only [Re] at h
    obtain ⟨v, r, e, q, t⟩ := h
    rw [e, List.length_cons, List.length_cons, Re.length t]
end
end Q

/-! QP1: primitives by values: operators, comparisons. -/
namespace Q
open PySem PySem.Spec PyProof.Rows L2
section
variable {K : PySem.W.Frag} {μ ν : List Addr} {G H : Hp} {h : Hc}
/-- what a clean result asks -/
def Post (K : PySem.W.Frag) (μ : List Addr) (H : Hp) (r : R D) (Q : VK) : Prop := match r with
  | .ok d h' => ∀ v ν H', Ext μ H ν H' → Rh K ν H' h' → Rv K ν H' d v → Q v H'
  | _ => False
theorem Post.here {d : D} {v : V} {Q : VK} (p : Post K μ H (.ok d h) Q) (R : Rh K μ H h) (r : Rv K μ H d v) : Q v H := p v μ H (Ext.refl μ H) R r
theorem Post.int {i : Int} {Q : VK} (p : Post K μ H (.ok (.int i) h) Q) (R : Rh K μ H h) : Q (.int i) H := p.here R (by simp only [Rv])
theorem Post.bl {i : Bool} {Q : VK} (p : Post K μ H (.ok (.bl i) h) Q) (R : Rh K μ H h) : Q (.bl i) H := p.here R (by simp only [Rv])
theorem Post.str {i : PySem.Str} {Q : VK} (p : Post K μ H (.ok (.str i) h) Q) (R : Rh K μ H h) : Q (.str i) H := p.here R (by simp only [Rv])
theorem Post.tup {xs : List D} {vs : List V} {Q : VK} (p : Post K μ H (.ok (.tup xs) h) Q) (R : Rh K μ H h) (r : Rvs K μ H xs vs) : ∀ a, H a = none → Q (.ref a) (upd H a (.tup vs)) := fun a ha =>
  p _ μ _ (Ext.side μ ha) (R.side ha) (by
    simp only [Rv]
    exact ⟨a, vs, rfl, upd_same, Rvs.ext (Ext.side μ ha) _ _ r⟩)
theorem Post.newL {fr : Bool} {xs : List D} {vs : List V} {Q : VK} (p : Post K μ H (_root_.Q.newL fr xs h) Q) (R : Rh K μ H h) (r : Rvs K μ H xs vs) : ∀ a, H a = none → Q (.ref a) (upd H a (.lst vs)) := fun a ha => by
  unfold _root_.Q.newL at p
  cases fr with
  | true =>
    rw [if_pos rfl] at p
    refine p _ μ _ (Ext.side μ ha) (R.side ha) ?_
    simp only [Rv]
    exact ⟨a, vs, rfl, R.fresh ha, upd_same, Rvs.ext (Ext.side μ ha) _ _ r⟩
  | false =>
    rw [if_neg Bool.false_ne_true] at p
    refine p _ (μ ++ [a]) _ (Ext.push μ ha) (R.push ha ⟨vs, upd_same, Rvs.ext (Ext.push μ ha) _ _ r⟩) ?_
    simp only [Rv]
    refine ⟨a, rfl, ?_⟩
    rw [R.len, List.getElem?_append_right (Nat.le_refl _)]
    simp
/-! what a look shows -/
theorem look_cases (R : Rh K μ H h) {d : D} {v : V} (r : Rv K μ H d v) :
    (∀ i, look h d = .int i → v = .int i) ∧ (∀ x, look h d = .str x → v = .str x) ∧ (∀ b, look h d = .bl b → v = .bl b) ∧ (look h d = .non → v = .non) ∧
    (∀ xs, look h d = .tup xs → ∃ a vs, v = .ref a ∧ H a = some (.tup vs) ∧ Rvs K μ H xs vs) ∧
    (∀ xs, look h d = .lst xs → ∃ a vs, v = .ref a ∧ H a = some (.lst vs) ∧ Rvs K μ H xs vs) ∧
    (∀ ks xs, look h d = .dk ks xs → ∃ a kvs, v = .ref a ∧ Rd H a (.dK kvs) ∧ kvs.map (·.1) = ks ∧ Rvs K μ H xs (kvs.map (·.2))) ∧
    (∀ ks xs, look h d = .dt ks xs → ∃ a kvs, v = .ref a ∧ Rd H a (.dT kvs) ∧ kvs.map (·.1) = ks ∧ Rvs K μ H xs (kvs.map (·.2))) ∧
    (∀ ns, look h d = .scr ns → ∃ a, v = .ref a ∧ SqL K H a (ns.map V.int)) := by
  cases d with
  | ref n =>
    simp only [Rv] at r
    obtain ⟨a, rfl, hn⟩ := r
    obtain ⟨o, e, ro⟩ := R.lt hn
    simp only [look, e]
    cases o with
    | lst xs =>
      obtain ⟨vs, q, t⟩ := ro
      simp only [thawO, List.map_id']
      refine ⟨nofun, nofun, nofun, nofun, nofun, fun ys e => ?_, nofun, nofun, nofun⟩
      cases e
      exact ⟨a, vs, rfl, q, t⟩
    | dk kvs =>
      obtain ⟨ws, q, k, t⟩ := ro
      simp only [thawO]
      refine ⟨nofun, nofun, nofun, nofun, nofun, nofun, fun ks ys e => ?_, nofun, nofun⟩
      cases e
      exact ⟨a, ws, rfl, .inl q, k, t⟩
    | dt kvs =>
      obtain ⟨ws, q, k, t⟩ := ro
      simp only [thawO]
      refine ⟨nofun, nofun, nofun, nofun, nofun, nofun, nofun, fun ks ys e => ?_, nofun⟩
      cases e
      exact ⟨a, ws, rfl, .inl q, k, t⟩
    | hl kvs => simp only [thawO]; exact ⟨nofun, nofun, nofun, nofun, nofun, nofun, nofun, nofun, nofun⟩
    | wk kvs => simp only [thawO]; exact ⟨nofun, nofun, nofun, nofun, nofun, nofun, nofun, nofun, nofun⟩
    | wt kvs => simp only [thawO]; exact ⟨nofun, nofun, nofun, nofun, nofun, nofun, nofun, nofun, nofun⟩
    | ins c fs => exact ro.elim
  | non => simp only [Rv] at r; simp only [look]; exact ⟨nofun, nofun, nofun, fun _ => r, nofun, nofun, nofun, nofun, nofun⟩
  | bl b => simp only [Rv] at r; simp only [look]; exact ⟨nofun, nofun, fun _ e => by cases e; exact r, nofun, nofun, nofun, nofun, nofun, nofun⟩
  | int b => simp only [Rv] at r; simp only [look]; exact ⟨fun _ e => by cases e; exact r, nofun, nofun, nofun, nofun, nofun, nofun, nofun, nofun⟩
  | str b => simp only [Rv] at r; simp only [look]; exact ⟨nofun, fun _ e => by cases e; exact r, nofun, nofun, nofun, nofun, nofun, nofun, nofun⟩
  | tup b => simp only [Rv] at r; simp only [look]; exact ⟨nofun, nofun, nofun, nofun, fun _ e => by cases e; exact r, nofun, nofun, nofun, nofun⟩
  | lst b =>
    simp only [Rv] at r; simp only [look]
    obtain ⟨a, vs, e, _, q, t⟩ := r
    exact ⟨nofun, nofun, nofun, nofun, nofun, fun _ e' => by cases e'; exact ⟨a, vs, e, q, t⟩, nofun, nofun, nofun⟩
  | ftp b => simp only [look]; exact ⟨nofun, nofun, nofun, nofun, nofun, nofun, nofun, nofun, nofun⟩
  | dk ks b =>
    simp only [Rv] at r; simp only [look]
    obtain ⟨a, vs, e, _, q, t⟩ := r
    exact ⟨nofun, nofun, nofun, nofun, nofun, nofun, fun _ _ e' => by cases e'; exact ⟨a, vs, e, q, t⟩, nofun, nofun⟩
  | dt ks b =>
    simp only [Rv] at r; simp only [look]
    obtain ⟨a, vs, e, _, q, t⟩ := r
    exact ⟨nofun, nofun, nofun, nofun, nofun, nofun, nofun, fun _ _ e' => by cases e'; exact ⟨a, vs, e, q, t⟩, nofun⟩
  | scr ns =>
    simp only [Rv] at r; simp only [look]
    obtain ⟨a, e, q⟩ := r
    exact ⟨nofun, nofun, nofun, nofun, nofun, nofun, nofun, nofun, fun _ e' => by cases e'; exact ⟨a, e, q.imp (fun ⟨o, q⟩ => .inr ⟨o, q⟩) id⟩⟩
  | exc c => simp only [Rv] at r
theorem look_int (R : Rh K μ H h) {d : D} {v : V} (r : Rv K μ H d v) {i : Int} (e : look h d = .int i) : v = .int i := (look_cases R r).1 i e
theorem look_str (R : Rh K μ H h) {d : D} {v : V} (r : Rv K μ H d v) {i : PySem.Str} (e : look h d = .str i) : v = .str i := (look_cases R r).2.1 i e
theorem look_bl (R : Rh K μ H h) {d : D} {v : V} (r : Rv K μ H d v) {i : Bool} (e : look h d = .bl i) : v = .bl i := (look_cases R r).2.2.1 i e
theorem look_non (R : Rh K μ H h) {d : D} {v : V} (r : Rv K μ H d v) (e : look h d = .non) : v = .non := (look_cases R r).2.2.2.1 e
theorem look_tup (R : Rh K μ H h) {d : D} {v : V} (r : Rv K μ H d v) {xs : List D} (e : look h d = .tup xs) : ∃ a vs, v = .ref a ∧ H a = some (.tup vs) ∧ Rvs K μ H xs vs := (look_cases R r).2.2.2.2.1 xs e
theorem look_lst (R : Rh K μ H h) {d : D} {v : V} (r : Rv K μ H d v) {xs : List D} (e : look h d = .lst xs) : ∃ a vs, v = .ref a ∧ H a = some (.lst vs) ∧ Rvs K μ H xs vs := (look_cases R r).2.2.2.2.2.1 xs e
theorem look_dk (R : Rh K μ H h) {d : D} {v : V} (r : Rv K μ H d v) {ks : List Key} {xs : List D} (e : look h d = .dk ks xs) : ∃ a kvs, v = .ref a ∧ Rd H a (.dK kvs) ∧ kvs.map (·.1) = ks ∧ Rvs K μ H xs (kvs.map (·.2)) := (look_cases R r).2.2.2.2.2.2.1 ks xs e
theorem look_dt (R : Rh K μ H h) {d : D} {v : V} (r : Rv K μ H d v) {ks : List (List Key)} {xs : List D} (e : look h d = .dt ks xs) : ∃ a kvs, v = .ref a ∧ Rd H a (.dT kvs) ∧ kvs.map (·.1) = ks ∧ Rvs K μ H xs (kvs.map (·.2)) := (look_cases R r).2.2.2.2.2.2.2.1 ks xs e
theorem look_scr (R : Rh K μ H h) {d : D} {v : V} (r : Rv K μ H d v) {ns : List Int} (e : look h d = .scr ns) : ∃ a, v = .ref a ∧ SqL K H a (ns.map V.int) := (look_cases R r).2.2.2.2.2.2.2.2 ns e
theorem lookT_ne {d y : D} (e : lookT h d = y) (hy : ∀ xs, y ≠ .tup xs) : look h d = y := by
  unfold lookT at e
  split at e
  · exact absurd e.symm (hy _)
  · exact e
theorem look_ftp {d : D} {xs : List D} (e : look h d = .ftp xs) : d = .ftp xs := by
  cases d with
  | ref n =>
    simp only [look, thawO] at e
    split at e <;> cases e
  | ftp ys => simpa [look] using e
  | _ => simp [look] at e
theorem lookT_tup (R : Rh K μ H h) {d : D} {v : V} (r : Rv K μ H d v) {xs : List D} (e : lookT h d = .tup xs) : ∃ a vs, v = .ref a ∧ Rd H a (.tup vs) ∧ Rvs K μ H xs vs := by
  unfold lookT at e
  split at e
  · rename_i ys e1
    cases e
    cases look_ftp e1
    simp only [Rv] at r
    obtain ⟨a, o, vs, rfl, q, _, t⟩ := r
    exact ⟨a, vs, rfl, .inr ⟨o, q⟩, t⟩
  · obtain ⟨a, vs, rfl, q, t⟩ := look_tup R r e
    exact ⟨a, vs, rfl, .inl q, t⟩
theorem lookT_lst (R : Rh K μ H h) {d : D} {v : V} (r : Rv K μ H d v) {xs : List D} (e : lookT h d = .lst xs) : ∃ a vs, v = .ref a ∧ H a = some (.lst vs) ∧ Rvs K μ H xs vs := look_lst R r (lookT_ne e nofun)
end

set_option maxHeartbeats 4000000
theorem tup_mul_same (l : Addr) (items : Array Value) (n : Nat) (dd : Option Addr) (sl : Array (Option Value)) (x : Int) (u : Tok) (c0 : (decide (x < -(2 ^ 63)) || decide (x ≥ 2 ^ 63)) = false) (c1 : (items.isEmpty || x == 1) = true) :
    Meets (Builtin.«tuple.__mul__» ⟨[.ref l, .int x u], []⟩) (fun _ R s => s.heap.get? l = some { cls := .type "tuple", dict := dd, data := .seq items n, slots := sl } ∧ R (.ok (.ret (.ref l))) s) :=
  .of_wp fun prog w A R s h => by
    obtain ⟨hp, g, d, tk, os⟩ := s
    obtain ⟨hl, h⟩ := h
    have f1 := AutoSeq1.idx_int
    wp_walk using wpAny_loadPart' hl
    refine wpAny_ite_false (decide_eq_false (by rw [c0]; exact Bool.false_ne_true)) ?_
    wp_walk using wpAny_loadPart' hl
    all_goals exact ⟨_, rfl, h⟩
theorem tup_mul_none (l : Addr) (items : Array Value) (n : Nat) (dd : Option Addr) (sl : Array (Option Value)) (x : Int) (u : Tok) (c0 : (decide (x < -(2 ^ 63)) || decide (x ≥ 2 ^ 63)) = false) (c1 : (items.isEmpty || x == 1) = false) (c2 : x ≤ 0) :
    Meets (Builtin.«tuple.__mul__» ⟨[.ref l, .int x u], []⟩) (fun _ R s => s.heap.get? l = some { cls := .type "tuple", dict := dd, data := .seq items n, slots := sl } ∧
      R (.ok (.ret (Value.ref s.heap.objs.size))) { s with heap := s.heap.push { cls := Value.type "tuple", data := Data.seq #[] }, toks := s.toks }) :=
  .of_wp fun prog w A R s h => by
    obtain ⟨hp, g, d, tk, os⟩ := s
    obtain ⟨hl, h⟩ := h
    have f1 := AutoSeq1.idx_int
    wp_walk using wpAny_loadPart' hl
    refine wpAny_ite_false (decide_eq_false (by rw [c0]; exact Bool.false_ne_true)) ?_
    wp_walk using wpAny_loadPart' hl
    all_goals exact ⟨_, rfl, h⟩
/-- t * k, the few cases that make no long one -/
theorem op_repT0 {X : Cx} : OpR X (binaryOp .Mult) (fun x y H Q => ∃ l k xs, x = .ref l ∧ y = .int k ∧ SqT X.K H l xs ∧ -1000 ≤ k ∧ k ≤ 1000 ∧ ((xs = [] ∨ k = 1) ∧ Q (.ref l) H ∨ (xs ≠ [] ∧ k ≤ 0) ∧ ∀ p, H p = none → Q (.ref p) (upd H p (.tup [])))) := by
  intro pins s σ H x y v u Q I rx ry h
  obtain ⟨l, k, xs, rfl, rfl, hT, h1, h2, hq⟩ := h
  cases rx
  obtain ⟨t, rfl⟩ := ry
  obtain ⟨its, r, ⟨⟨cls, dd, data, sl⟩, ho, hc, n, hd⟩, hs⟩ := I.tuple hT
  simp only at hc hd
  subst hc hd
  have lenE := r.length
  have c0 : (decide (k < -(2 ^ 63)) || decide (k ≥ 2 ^ 63)) = false := by
    simp only [Bool.or_eq_false_iff, decide_eq_false_iff_not]
    omega
  have emp : its.toArray.isEmpty = xs.isEmpty := by
    cases r <;> rfl
  have road : ∀ (Q₀ : Value → Shared → Prop), wpAny (model X.prog X.w) X.A (call (.builtin "tuple.__mul__") [.ref l, .int k t]) Q₀ X.xe s → wpAny (model X.prog X.w) X.A (binaryOp .Mult (.ref l) (.int k t)) Q₀ X.xe s := fun Q₀ q₀ =>
    wpAny_binaryOp_repeat_ref (T := "tuple") (U := "int") (by decide) ⟨_, ho, rfl⟩ (fun s' => typeIs_int s' k t) noFill_tuple_mul PySem.F.fills_int_mul PySem.F.slot_int_rmul repeat_tuple PySem.F.slot_int_index.lookup
      (call_meets PySem.F.slot_int_rmul (typeIs_int s k t) PySem.F.entry_int_rmul (PySem.F.args_int_rmul_2 _ _) (int_rmul_tuple k t l its.toArray n dd sl) ⟨ho, rfl, ⟨_, ho, rfl⟩, q₀⟩)
  rcases hq with ⟨hk, q⟩ | ⟨⟨hx, hk⟩, q⟩
  · refine road _ (call_meets PySem.F.slot_tuple_mul ⟨_, ho, rfl⟩ PySem.F.entry_tuple_mul (PySem.F.args_tuple_mul_2 _ _) (tup_mul_same l its.toArray n dd sl k t c0 ?_) ⟨ho, ?_⟩)
    · rw [emp]
      rcases hk with rfl | rfl <;> simp
    · exact ⟨.ref l, H, I, rfl, q⟩
  · refine road _ (call_meets PySem.F.slot_tuple_mul ⟨_, ho, rfl⟩ PySem.F.entry_tuple_mul (PySem.F.args_tuple_mul_2 _ _) (tup_mul_none l its.toArray n dd sl k t c0 ?_ hk) ⟨ho, ?_⟩)
    · rw [emp]
      have n1 : (k == 1) = false := by
        simp only [beq_eq_false_iff_ne]
        omega
      cases xs with
      | nil => exact absurd rfl hx
      | cons a b => rw [n1] <;> rfl
    · refine ⟨.ref s.heap.objs.size, _, I.laid (t' := s.toks) (o := .tup []) (fun b ob q => Heap.get?_push_of_some _ q) (Nat.le_refl _) ?_, rfl, q _ (I.hok.fresh (Nat.le_refl _))⟩
      exact ⟨Nat.zero_le _, [], .nil, IsTup.new _ _⟩

/-! ### operators -/
def r2 (K : PySem.W.Frag) (q : P) : R2 := fun x y H Q => ∃ μ h d e, Rh K μ H h ∧ Rv K μ H d x ∧ Rv K μ H e y ∧ Post K μ H (prim2 q d e h) Q
def r1 (K : PySem.W.Frag) (q : P) : V → Hp → VK → Prop := fun x H Q => ∃ μ h d, Rh K μ H h ∧ Rv K μ H d x ∧ Post K μ H (prim1 q d h) Q
theorem rep_len {α : Type} (k : Nat) (xs : List α) : (List.replicate k xs).flatten.length = k * xs.length := by simp
theorem Rvs.rep {K : PySem.W.Frag} {μ : List Addr} {H : Hp} {ds : List D} {vs : List V} (h : Rvs K μ H ds vs) : ∀ k : Nat, Rvs K μ H (List.replicate k ds).flatten (List.replicate k vs).flatten
  | 0 => Rvs.nil
  | k + 1 => by
    rw [List.replicate_succ, List.replicate_succ, List.flatten_cons, List.flatten_cons]
    exact h.append (Rvs.rep h k)
section
variable {X : Cx}
theorem o_add {fr : Bool} : OpR X (binaryOp .Add) (r2 X.K (.add fr)) := by
  intro pins s σ H x y v u Q I rx ry h
  obtain ⟨μ, h, d, e, R, rd, re, p⟩ := h
  simp only [prim2] at p
  split at p
  · rename_i i j e1 e2
    cases look_int R rd e1
    cases look_int R re e2
    exact op_add pins s σ H _ _ v u Q I rx ry ⟨i, j, rfl, rfl, p.int R⟩
  · rename_i i j e1 e2
    cases look_str R rd e1
    cases look_str R re e2
    split at p
    · rename_i hl
      exact op_add_str pins s σ H _ _ v u Q I rx ry ⟨i, j, rfl, rfl, hl, p.str R⟩
    · exact p.elim
  · rename_i xs ys e1 e2
    obtain ⟨a, vs, rfl, q1, t1⟩ := look_tup R rd e1
    obtain ⟨b, ws, rfl, q2, t2⟩ := look_tup R re e2
    split at p
    · rename_i hl
      refine op_catA pins s σ H _ _ v u Q I rx ry ⟨a, b, vs, ws, rfl, rfl, SqT.of q1, SqT.of q2, by rw [← t1.length, ← t2.length]; exact hl, fun z => ?_, fun _ z => ?_, fun _ _ => p.tup R (t1.append t2)⟩
      · subst z
        obtain rfl : xs = [] := List.eq_nil_of_length_eq_zero t1.length
        refine p.here R ?_
        simp only [Rv, List.nil_append]
        exact ⟨b, ws, rfl, q2, t2⟩
      · subst z
        obtain rfl : ys = [] := List.eq_nil_of_length_eq_zero t2.length
        refine p.here R ?_
        simp only [Rv, List.append_nil]
        exact ⟨a, vs, rfl, q1, t1⟩
    · exact p.elim
  · rename_i xs ys e1 e2
    obtain ⟨a, vs, rfl, q1, t1⟩ := look_lst R rd e1
    obtain ⟨b, ws, rfl, q2, t2⟩ := look_lst R re e2
    split at p
    · rename_i hl
      exact op_cat pins s σ H _ _ v u Q I rx ry ⟨a, b, vs, ws, rfl, rfl, q1, q2, by rw [← t1.length, ← t2.length]; exact hl, p.newL R (t1.append t2)⟩
    · exact p.elim
  · exact p.elim
/-- two ints, by their rule -/
theorem o_ints {f : Value → Value → Sem Value} {q : P} {C : Int → Int → Prop} {g : Int → Int → V} (ho : OpR X f (rI C g))
    (hp : ∀ μ h d e H Q, Rh X.K μ H h → Post X.K μ H (prim2 q d e h) Q → ∃ i j, d = .int i ∧ e = .int j ∧ C i j ∧ Q (g i j) H) : OpR X f (r2 X.K q) := by
  intro pins s σ H x y v u Q I rx ry h
  obtain ⟨μ, h, d, e, R, rd, re, p⟩ := h
  obtain ⟨i, j, rfl, rfl, c, q⟩ := hp μ h d e H Q R p
  simp only [Rv] at rd re
  subst rd re
  exact ho pins s σ H _ _ v u Q I rx ry ⟨i, j, rfl, rfl, c, q⟩
theorem rI0_rI {f : Value → Value → Sem Value} {g : Int → Int → V} (h : OpR X f (rI0 g)) : OpR X f (rI (fun _ _ => True) g) := fun pins s σ H x y v u Q I rx ry ⟨i, j, e1, e2, _, q⟩ => h pins s σ H x y v u Q I rx ry ⟨i, j, e1, e2, q⟩
theorem o_sub : OpR X (binaryOp .Sub) (r2 X.K .sub) := by
  refine o_ints (rI0_rI op_sub) fun μ h d e H Q R p => ?_
  cases d <;> cases e <;> simp only [prim2] at p <;> first | exact p.elim | exact ⟨_, _, rfl, rfl, trivial, p.int R⟩
theorem o_fdiv : OpR X (binaryOp .FloorDiv) (r2 X.K .fdiv) := by
  refine o_ints op_fdivW fun μ h d e H Q R p => ?_
  cases d <;> cases e <;> simp only [prim2] at p <;> try exact p.elim
  split at p
  · rename_i hc
    refine ⟨_, _, rfl, rfl, wide_div (b := 8000) hc.1 ?_ (by decide) (by decide), p.int R⟩
    rw [← Int.ofNat_lt, Int.natAbs_of_nonneg (Int.le_of_lt hc.1)]
    exact_mod_cast hc.2
  · exact p.elim
theorem o_mod : OpR X (binaryOp .Mod) (r2 X.K .mod) := by
  refine o_ints op_mod fun μ h d e H Q R p => ?_
  cases d <;> cases e <;> simp only [prim2] at p <;> try exact p.elim
  split at p
  · rename_i hc
    exact ⟨_, _, rfl, rfl, hc, p.int R⟩
  · exact p.elim
theorem o_pow : OpR X (binaryOp .Pow) (r2 X.K .pow) := by
  refine o_ints op_pow fun μ h d e H Q R p => ?_
  cases d <;> cases e <;> simp only [prim2] at p <;> try exact p.elim
  split at p
  · rename_i hc
    exact ⟨_, _, rfl, rfl, ⟨hc.1, by omega, hc.2.2⟩, p.int R⟩
  · exact p.elim
theorem o_mul {fr : Bool} : OpR X (binaryOp .Mult) (r2 X.K (.mul fr)) := by
  intro pins s σ H x y v u Q I rx ry h
  obtain ⟨μ, h, d, e, R, rd, re, p⟩ := h
  simp only [prim2] at p
  split at p
  · rename_i i j e1 e2
    cases look_int R rd e1
    cases look_int R re e2
    split at p
    · rename_i hc
      rcases hc with hc | hc | hc
      · exact op_mul pins s σ H _ _ v u Q I rx ry ⟨i, j, rfl, rfl, .inl ⟨by omega, by omega⟩, p.int R⟩
      · exact op_mul pins s σ H _ _ v u Q I rx ry ⟨i, j, rfl, rfl, .inr ⟨by omega, by omega⟩, p.int R⟩
      · exact op_mulW pins s σ H _ _ v u Q I rx ry ⟨i, j, rfl, rfl, wide_mul hc.1 hc.2 (by decide) (by decide) (by decide), p.int R⟩
    · exact p.elim
  · rename_i xs k e1 e2
    obtain ⟨a, vs, rfl, q1, t1⟩ := look_tup R rd e1
    cases look_int R re e2
    split at p
    · rename_i hl
      by_cases hx : vs = [] ∨ k = 1
      · refine op_repT0 pins s σ H _ _ v u Q I rx ry ⟨a, k, vs, rfl, rfl, SqT.of q1, hl.2.2, hl.1, .inl ⟨hx, p.here R ?_⟩⟩
        simp only [Rv]
        refine ⟨a, vs, rfl, q1, ?_⟩
        rcases hx with rfl | rfl
        · obtain rfl : xs = [] := List.eq_nil_of_length_eq_zero t1.length
          have z : (List.replicate k.toNat ([] : List D)).flatten = [] := by simp
          rw [z]
          exact Rvs.nil
        · have z : (List.replicate (1 : Int).toNat xs).flatten = xs := by simp
          rw [z]
          exact t1
      · have hv : vs ≠ [] := fun z => hx (.inl z)
        have h1 : k ≠ 1 := fun z => hx (.inr z)
        by_cases h0 : k ≤ 0
        · refine op_repT0 pins s σ H _ _ v u Q I rx ry ⟨a, k, vs, rfl, rfl, SqT.of q1, hl.2.2, hl.1, .inr ⟨⟨hv, h0⟩, ?_⟩⟩
          have z : k.toNat = 0 := by omega
          rw [z] at p
          exact p.tup R Rvs.nil
        · exact op_repT pins s σ H _ _ v u Q I rx ry ⟨a, k, vs, rfl, rfl, SqT.of q1, hv, by omega, hl.1, by rw [← t1.length]; exact hl.2.1, p.tup R (t1.rep _)⟩
    · exact p.elim
  · rename_i xs k e1 e2
    obtain ⟨a, vs, rfl, q1, t1⟩ := look_lst R rd e1
    cases look_int R re e2
    split at p
    · rename_i hl
      refine op_rep pins s σ H _ _ v u Q I rx ry ⟨a, k, vs, rfl, rfl, q1, by omega, by omega, ?_, p.newL R (t1.rep _)⟩
      rw [← t1.length, sizeLine_eq]
      have a1 : xs.length * k.toNat ≤ 1000 * 1000 := Nat.mul_le_mul hl.2.1 (by omega)
      omega
    · exact p.elim
  · exact p.elim
theorem o_gt : OpR X (compareOp .Gt) (r2 X.K .gt) := by
  refine o_ints (rI0_rI op_gt) fun μ h d e H Q R p => ?_
  cases d <;> cases e <;> simp only [prim2] at p <;> first | exact p.elim | exact ⟨_, _, rfl, rfl, trivial, p.bl R⟩
theorem o_ge : OpR X (compareOp .GtE) (r2 X.K .ge) := by
  refine o_ints (rI0_rI op_ge) fun μ h d e H Q R p => ?_
  cases d <;> cases e <;> simp only [prim2] at p <;> first | exact p.elim | exact ⟨_, _, rfl, rfl, trivial, p.bl R⟩
theorem o_le : OpR X (compareOp .LtE) (r2 X.K .le) := by
  refine o_ints (rI0_rI op_le) fun μ h d e H Q R p => ?_
  cases d <;> cases e <;> simp only [prim2] at p <;> first | exact p.elim | exact ⟨_, _, rfl, rfl, trivial, p.bl R⟩
end
end Q

set_option maxHeartbeats 4000000
/-! QP2: primitives by values: ==, in, [], order. -/
namespace Q
open PySem PySem.Spec PyProof.Rows L2
section
variable {K : PySem.W.Frag} {μ ν : List Addr} {G H : Hp} {h : Hc}
mutual
theorem Dp.via (f : Nat → D) (hf : ∀ n v p, Rv K μ H (.ref n) v → (f n).py = some p → Dp K H v p) : ∀ (d : D) (v : V) (p : PyData), Rv K μ H d v → (D.via f d).py = some p → Dp K H v p
  | .non, v, p, r, e => by
    simp only [Rv] at r
    simp only [D.via, D.py, Option.some.injEq] at e
    subst r e
    exact .non
  | .bl b, v, p, r, e => by
    simp only [Rv] at r
    simp only [D.via, D.py, Option.some.injEq] at e
    subst r e
    exact .bl b
  | .int i, v, p, r, e => by
    simp only [Rv] at r
    simp only [D.via, D.py, Option.some.injEq] at e
    subst r e
    exact .int i
  | .str x, v, p, r, e => by
    simp only [Rv] at r
    simp only [D.via, D.py, Option.some.injEq] at e
    subst r e
    exact .str x
  | .tup xs, v, p, r, e => by
    simp only [Rv] at r
    simp only [D.via, D.py, Option.map_eq_some_iff] at e
    obtain ⟨ps, e, rfl⟩ := e
    obtain ⟨a, vs, rfl, q, t⟩ := r
    exact .tup (SqT.of q) (Dps.via f hf xs vs ps t e)
  | .lst xs, v, p, r, e => by
    simp only [Rv] at r
    simp only [D.via, D.py, Option.map_eq_some_iff] at e
    obtain ⟨ps, e, rfl⟩ := e
    obtain ⟨a, vs, rfl, _, q, t⟩ := r
    exact .lst (SqL.of q) (Dps.via f hf xs vs ps t e)
  | .ftp xs, v, p, r, e => by
    simp only [Rv] at r
    simp only [D.via, D.py, Option.map_eq_some_iff] at e
    obtain ⟨ps, e, rfl⟩ := e
    obtain ⟨a, o, vs, rfl, q, _, t⟩ := r
    exact .tup (.inl (.inr ⟨o, q⟩)) (Dps.via f hf xs vs ps t e)
  | .dk ks vs, v, p, r, e => by simp [D.via, D.py] at e
  | .dt ks vs, v, p, r, e => by simp [D.via, D.py] at e
  | .scr ns, v, p, r, e => by simp [D.via, D.py] at e
  | .exc c, v, p, r, e => by simp [D.via, D.py] at e
  | .ref n, v, p, r, e => by
    simp only [D.via] at e
    exact hf n v p r e
theorem Dps.via (f : Nat → D) (hf : ∀ n v p, Rv K μ H (.ref n) v → (f n).py = some p → Dp K H v p) : ∀ (ds : List D) (vs : List V) (ps : List PyData), Rvs K μ H ds vs → D.pys (D.vias f ds) = some ps → DpAll K H vs ps
  | [], vs, ps, r, e => by
    rw [r.unnil]
    simp only [D.vias, D.pys, Option.some.injEq] at e
    subst e
    exact .nil
  | d :: ds, vs, ps, r, e => by
    obtain ⟨v, t, rfl, q, rt⟩ := r.uncons
    simp only [D.vias, D.pys, Option.bind_eq_some_iff, Option.map_eq_some_iff] at e
    obtain ⟨p, e1, ps', e2, rfl⟩ := e
    exact .cons (Dp.via f hf d v p q e1) (Dps.via f hf ds t ps' rt e2)
end
mutual
theorem via_ref : ∀ d : D, D.via .ref d = d
  | .non => rfl
  | .bl _ => rfl
  | .int _ => rfl
  | .str _ => rfl
  | .tup xs => by rw [D.via, vias_ref xs]
  | .lst xs => by rw [D.via, vias_ref xs]
  | .ftp xs => by rw [D.via, vias_ref xs]
  | .dk _ xs => by rw [D.via, vias_ref xs]
  | .dt _ xs => by rw [D.via, vias_ref xs]
  | .scr _ => rfl
  | .exc _ => rfl
  | .ref _ => rfl
theorem vias_ref : ∀ d : List D, D.vias .ref d = d
  | [] => rfl
  | x :: xs => by rw [D.vias, via_ref x, vias_ref xs]
end
theorem vias_map (f : Nat → D) : ∀ ds : List D, D.vias f ds = ds.map (D.via f)
  | [] => rfl
  | d :: ds => by rw [D.vias, vias_map f ds] <;> rfl
theorem Dp.thaw (R : Rh K μ H h) : ∀ (k : Nat) (d : D) (v : V) (p : PyData), Rv K μ H d v → (Q.thaw h k d).py = some p → Dp K H v p
  | 0, d, v, p, r, e => by
    have e' : (D.via .ref d).py = some p := by rw [via_ref]; exact e
    exact Dp.via .ref (fun n v p _ e => by simp [D.py] at e) d v p r e'
  | k + 1, d, v, p, r, e => by
    refine Dp.via _ (fun n v p r e => ?_) d v p r e
    simp only [Rv] at r
    obtain ⟨a, rfl, hn⟩ := r
    obtain ⟨o, ho, ro⟩ := R.lt hn
    rw [ho] at e
    cases o with
    | lst xs =>
      obtain ⟨vs, q, t⟩ := ro
      simp only [thawO, D.py, Option.map_eq_some_iff] at e
      obtain ⟨ps, e, rfl⟩ := e
      refine .lst (SqL.of q) ?_
      clear q ho
      induction xs generalizing vs ps with
      | nil =>
        rw [t.unnil]
        simp only [List.map_nil, D.pys, Option.some.injEq] at e
        subst e
        exact .nil
      | cons x xs ih =>
        obtain ⟨v, w, rfl, q, rt⟩ := t.uncons
        simp only [List.map_cons, D.pys, Option.bind_eq_some_iff, Option.map_eq_some_iff] at e
        obtain ⟨p, e1, ps', e2, rfl⟩ := e
        exact .cons (Dp.thaw R k x v p q e1) (ih w rt ps' e2)
    | hl kvs => simp [thawO, D.py] at e
    | dk kvs => simp [thawO, D.py] at e
    | dt kvs => simp [thawO, D.py] at e
    | wk kvs => simp [thawO, D.py] at e
    | wt kvs => simp [thawO, D.py] at e
    | ins c fs => exact ro.elim
theorem dEq_some {a b : D} {r : Bool} (e : dEq h a b = some r) : ∃ p q, (thaw h 3 a).py = some p ∧ (thaw h 3 b).py = some q ∧ shp p = true ∧ shp q = true ∧ r = PyData.eqv p q := by
  unfold dEq at e
  split at e
  · rename_i p q e1 e2
    split at e
    · rename_i hs
      simp only [Bool.and_eq_true] at hs
      exact ⟨p, q, e1, e2, hs.1, hs.2, (Option.some.inj e).symm⟩
    · cases e
  · cases e
end
section
variable {X : Cx}
theorem opt_post {K : PySem.W.Frag} {μ : List Addr} {H : Hp} {α : Type} {o : Option α} {f : α → R D} {Q : VK} (p : Post K μ H (opt o f) Q) : ∃ a, o = some a ∧ Post K μ H (f a) Q := by
  cases o with
  | none => exact p.elim
  | some a => exact ⟨a, rfl, p⟩
theorem shp_room {A : Around} {p q : PyData} (h1 : shp p = true) (h2 : shp q = true) (hu : A.units + 64 < cLine) : p.plain = true ∧ q.plain = true ∧ A.units + min p.depth q.depth < cLine := by
  unfold shp at h1 h2
  simp only [Bool.and_eq_true, decide_eq_true_eq] at h1 h2
  refine ⟨h1.1, h2.1, ?_⟩
  have : min p.depth q.depth ≤ p.depth := Nat.min_le_left _ _
  omega
theorem o_eq (hu : X.A.units + 64 < cLine) : OpR X (compareOp .Eq) (r2 X.K .eq) := by
  intro pins s σ H x y v u Q I rx ry h
  obtain ⟨μ, h, d, e, R, rd, re, p⟩ := h
  simp only [prim2] at p
  obtain ⟨b, eb, p⟩ := opt_post p
  obtain ⟨p1, p2, e1, e2, s1, s2, rfl⟩ := dEq_some eb
  obtain ⟨as, r1⟩ := Dp.reads I p1 x v (Dp.thaw R 3 _ _ _ rd e1) rx
  obtain ⟨bs, r2⟩ := Dp.reads I p2 y u (Dp.thaw R 3 _ _ _ re e2) ry
  obtain ⟨m1, m2, m3⟩ := shp_room s1 s2 hu
  exact SeqAt.eq_plain r1 r2 m1 m2 m3 ⟨.bl _, H, I, rfl, p.bl R⟩
theorem o_ne (hu : X.A.units + 64 < cLine) : OpR X (compareOp .NotEq) (r2 X.K .ne) := by
  intro pins s σ H x y v u Q I rx ry h
  obtain ⟨μ, h, d, e, R, rd, re, p⟩ := h
  simp only [prim2] at p
  obtain ⟨b, eb, p⟩ := opt_post p
  obtain ⟨p1, p2, e1, e2, s1, s2, rfl⟩ := dEq_some eb
  obtain ⟨as, r1⟩ := Dp.reads I p1 x v (Dp.thaw R 3 _ _ _ rd e1) rx
  obtain ⟨bs, r2⟩ := Dp.reads I p2 y u (Dp.thaw R 3 _ _ _ re e2) ry
  obtain ⟨m1, m2, m3⟩ := shp_room s1 s2 hu
  exact SeqAt.ne_plain r1 r2 m1 m2 m3 ⟨.bl _, H, I, rfl, p.bl R⟩
/-! order -/
theorem ints_of : ∀ {xs : List D}, isInts xs = true → ∃ ns : List Int, xs = ns.map D.int
  | [], _ => ⟨[], rfl⟩
  | .int i :: r, h => by
    obtain ⟨ns, e⟩ := ints_of (xs := r) h
    exact ⟨i :: ns, by rw [e] <;> rfl⟩
  | .non :: _, h | .bl _ :: _, h | .str _ :: _, h | .tup _ :: _, h | .lst _ :: _, h | .dk _ _ :: _, h | .dt _ _ :: _, h | .scr _ :: _, h | .exc _ :: _, h | .ftp _ :: _, h | .ref _ :: _, h => by simp [isInts] at h
theorem Rvs.ints {K : PySem.W.Frag} {μ : List Addr} {H : Hp} : ∀ {ns : List Int} {vs : List V}, Rvs K μ H (ns.map D.int) vs → vs = ns.map V.int
  | [], vs, h => h.unnil
  | i :: ns, vs, h => by
    obtain ⟨v, r, rfl, q, t⟩ := h.uncons
    simp only [Rv] at q
    rw [q, Rvs.ints t] <;> rfl
theorem dLts_ints : ∀ ns ms : List Int, dLts (ns.map D.int) (ms.map D.int) = some (HT.lexLt ns ms)
  | [], [] => rfl
  | _ :: _, [] => by simp [dLts, HT.lexLt]
  | [], _ :: _ => by simp [dLts, HT.lexLt]
  | n :: ns, m :: ms => by
    rw [HT.lexLt_cons]
    simp only [List.map_cons, dLts, D.int.injEq, dLt]
    split
    · exact dLts_ints ns ms
    · rfl
theorem o_lt (hu : X.A.units < cLine) : OpR X (compareOp .Lt) (r2 X.K .lt) := by
  intro pins s σ H x y v u Q I rx ry h
  obtain ⟨μ, h, d, e, R, rd, re, p⟩ := h
  simp only [prim2] at p
  split at p
  · simp only [Rv] at rd re
    subst rd re
    exact op_lt pins s σ H _ _ v u Q I rx ry ⟨_, _, rfl, rfl, p.bl R⟩
  · simp only [Rv] at rd re
    subst rd re
    exact op_lt_str pins s σ H _ _ v u Q I rx ry ⟨_, _, rfl, rfl, p.bl R⟩
  · split at p
    · rename_i hi
      simp only [Bool.and_eq_true] at hi
      obtain ⟨ns, rfl⟩ := ints_of hi.1
      obtain ⟨ms, rfl⟩ := ints_of hi.2
      rw [dLts_ints] at p
      simp only [Rv] at rd re
      obtain ⟨a, vs, rfl, q1, t1⟩ := rd
      obtain ⟨b, ws, rfl, q2, t2⟩ := re
      rw [t1.ints] at q1
      rw [t2.ints] at q2
      exact op_ltT hu pins s σ H _ _ v u Q I rx ry ⟨a, b, ns, ms, rfl, rfl, SqT.of q1, SqT.of q2, p.bl R⟩
    · exact p.elim
  · exact p.elim
end
end Q

set_option maxHeartbeats 4000000
/-! QP3: primitives by values: dicts, in, subscripts. -/
namespace Q
open PySem PySem.Spec PyProof.Rows L2
section
variable {K : PySem.W.Frag} {μ ν : List Addr} {G H : Hp} {h : Hc}
theorem keyK_rv {d : D} {v : V} {k : Key} (r : Rv K μ H d v) (e : keyK d = some k) : v = kV k := by
  cases d with
  | int i =>
    simp only [keyK, Option.some.injEq] at e
    subst e
    simp only [Rv] at r
    exact r
  | str i =>
    simp only [keyK, Option.some.injEq] at e
    subst e
    simp only [Rv] at r
    exact r
  | _ => simp [keyK] at e
theorem keysK_rv : ∀ {ds : List D} {vs : List V} {ks : List Key}, Rvs K μ H ds vs → keysK ds = some ks → vs = ks.map kV
  | [], vs, ks, r, e => by
    simp only [keysK, Option.some.injEq] at e
    subst e
    rw [r.unnil] <;> rfl
  | d :: ds, vs, ks, r, e => by
    obtain ⟨v, w, rfl, q, t⟩ := r.uncons
    simp only [keysK, Option.bind_eq_some_iff, Option.map_eq_some_iff] at e
    obtain ⟨k, e1, ks', e2, rfl⟩ := e
    rw [keyK_rv q e1, keysK_rv t e2] <;> rfl
theorem keyT_rv {d : D} {v : V} {k : List Key} (r : Rv K μ H d v) (e : keyT d = some k) : ∃ b, v = .ref b ∧ H b = some (.tup (k.map kV)) := by
  cases d with
  | tup xs =>
    simp only [keyT] at e
    simp only [Rv] at r
    obtain ⟨a, vs, rfl, q, t⟩ := r
    exact ⟨a, rfl, by rw [q, keysK_rv t e]⟩
  | _ => simp [keyT] at e
section
variable {κ : Type} [DecidableEq κ]
/-- pairs alike -/
def Pr (K : PySem.W.Frag) (μ : List Addr) (H : Hp) : List (κ × D) → List (κ × V) → Prop
  | [], ws => ws = []
  | p :: ps, ws => ∃ q r, ws = q :: r ∧ p.1 = q.1 ∧ Rv K μ H p.2 q.2 ∧ Pr K μ H ps r
theorem Pr.of : ∀ {ps : List (κ × D)} {ws : List (κ × V)}, ws.map (·.1) = ps.map (·.1) → Rvs K μ H (ps.map (·.2)) (ws.map (·.2)) → Pr K μ H ps ws
  | [], ws, e, _ => by simpa [Pr] using e
  | p :: ps, [], e, _ => by simp at e
  | p :: ps, q :: ws, e, r => by
    simp only [List.map_cons, List.cons.injEq] at e
    obtain ⟨v, t, e2, q1, rt⟩ := r.uncons
    simp only [List.map_cons, List.cons.injEq] at e2
    obtain ⟨rfl, rfl⟩ := e2
    exact ⟨q, ws, rfl, e.1.symm, q1, Pr.of e.2 rt⟩
theorem Pr.to : ∀ {ps : List (κ × D)} {ws : List (κ × V)}, Pr K μ H ps ws → ws.map (·.1) = ps.map (·.1) ∧ Rvs K μ H (ps.map (·.2)) (ws.map (·.2)) ∧ ws.length = ps.length
  | [], ws, h => by
    have h : ws = [] := h
    subst h
    exact ⟨rfl, Rvs.nil, rfl⟩
  | p :: ps, ws, h => by
    obtain ⟨q, r, rfl, e, rv, t⟩ := h
    obtain ⟨a, b, c⟩ := Pr.to t
    exact ⟨by rw [List.map_cons, List.map_cons, a, e], Rvs.cons rv b, by rw [List.length_cons, List.length_cons, c]⟩
theorem Pr.get (k : κ) : ∀ {ps : List (κ × D)} {ws : List (κ × V)}, Pr K μ H ps ws → (getP ps k = none ∧ valV ws k = none) ∨ ∃ d v, getP ps k = some d ∧ valV ws k = some v ∧ Rv K μ H d v
  | [], ws, h => by
    have h : ws = [] := h
    subst h
    exact .inl ⟨rfl, rfl⟩
  | p :: ps, ws, h => by
    obtain ⟨q, r, rfl, e, rv, t⟩ := h
    by_cases hk : q.1 = k
    · refine .inr ⟨p.2, q.2, ?_, valV_pos hk, rv⟩
      simp [getP, List.find?_cons, e, hk]
    · have z : getP (p :: ps) k = getP ps k := by simp [getP, List.find?_cons, e, hk]
      rw [z, valV_neg hk]
      exact Pr.get k t
theorem Pr.any (k : κ) : ∀ {ps : List (κ × D)} {ws : List (κ × V)}, Pr K μ H ps ws → (ps.any fun kv => decide (kv.1 = k)) = ws.any fun kv => decide (kv.1 = k)
  | [], ws, h => by
    have h : ws = [] := h
    subst h
    rfl
  | p :: ps, ws, h => by
    obtain ⟨q, r, rfl, e, rv, t⟩ := h
    rw [List.any_cons, List.any_cons, Pr.any k t, e]
theorem Pr.repl {k : κ} {d : D} {v : V} (rd : Rv K μ H d v) : ∀ {ps : List (κ × D)} {ws : List (κ × V)}, Pr K μ H ps ws → Pr K μ H (ps.map fun kv => if kv.1 = k then (kv.1, d) else kv) (ws.map fun kv => if kv.1 = k then (kv.1, v) else kv)
  | [], ws, h => by
    have h : ws = [] := h
    subst h
    rfl
  | p :: ps, ws, h => by
    obtain ⟨q, r, rfl, e, rv, t⟩ := h
    refine ⟨_, _, rfl, ?_, ?_, Pr.repl rd t⟩
    · show (if p.1 = k then (p.1, d) else p).1 = (if q.1 = k then (q.1, v) else q).1
      rw [e]
      split <;> simp [e]
    · show Rv K μ H (if p.1 = k then (p.1, d) else p).2 (if q.1 = k then (q.1, v) else q).2
      rw [e]
      split
      · exact rd
      · exact rv
theorem Pr.snoc {k : κ} {d : D} {v : V} (rd : Rv K μ H d v) : ∀ {ps : List (κ × D)} {ws : List (κ × V)}, Pr K μ H ps ws → Pr K μ H (ps ++ [(k, d)]) (ws ++ [(k, v)])
  | [], ws, h => by
    have h : ws = [] := h
    subst h
    exact ⟨_, [], rfl, rfl, rd, rfl⟩
  | p :: ps, ws, h => by
    obtain ⟨q, r, rfl, e, rv, t⟩ := h
    exact ⟨_, _, rfl, e, rv, Pr.snoc rd t⟩
theorem Pr.put {k : κ} {d : D} {v : V} (rd : Rv K μ H d v) {ps : List (κ × D)} {ws : List (κ × V)} (h : Pr K μ H ps ws) : Pr K μ H (putP ps k d) (putK ws k v) := by
  unfold putP putK
  rw [Pr.any k h]
  split
  · exact Pr.repl rd h
  · exact Pr.snoc rd h
theorem Pr.ext (x : Ext μ G ν H) : ∀ {ps : List (κ × D)} {ws : List (κ × V)}, Pr K μ G ps ws → Pr K ν H ps ws
  | [], ws, h => h
  | p :: ps, ws, h => by
    obtain ⟨q, r, e, e1, rv, t⟩ := h
    exact ⟨q, r, e, e1, Rv.ext x _ _ rv, Pr.ext x t⟩
theorem zip_fst : ∀ {ks : List κ} {vs : List D}, ks.length = vs.length → (ks.zip vs).map (·.1) = ks ∧ (ks.zip vs).map (·.2) = vs
  | [], [], _ => ⟨rfl, rfl⟩
  | [], _ :: _, h => by simp at h
  | _ :: _, [], h => by simp at h
  | k :: ks, v :: vs, h => by
    obtain ⟨a, b⟩ := zip_fst (ks := ks) (vs := vs) (by simpa using h)
    rw [List.zip_cons_cons, List.map_cons, List.map_cons, a, b]
    exact ⟨rfl, rfl⟩
end
/-- a look-up -/
theorem dGet_rv (R : Rh K μ H h) {d k : D} {x y : V} {r : Option D} (rd : Rv K μ H d x) (rk : Rv K μ H k y) (e : dGet h d k = some r) :
    ∃ a o, x = .ref a ∧ DGet H a y o ∧ ((r = none ∧ o = none) ∨ ∃ z w, r = some z ∧ o = some w ∧ Rv K μ H z w) := by
  have kk : ∀ (a : Addr) (kvs : List (Key × D)) (ws : List (Key × V)), Rd H a (.dK ws) → Pr K μ H kvs ws → (keyK k).map (fun q => getP kvs q) = some r → ∃ o, DGet H a y o ∧ ((r = none ∧ o = none) ∨ ∃ z w, r = some z ∧ o = some w ∧ Rv K μ H z w) := by
    intro a kvs ws hr hp he
    obtain ⟨q, e1, e2⟩ := Option.map_eq_some_iff.mp he
    subst e2
    refine ⟨valV ws q, .inl ⟨ws, q, hr, keyK_rv rk e1, rfl⟩, ?_⟩
    rcases hp.get q with ⟨g1, g2⟩ | ⟨z, w, g1, g2, g3⟩
    · exact .inl ⟨g1, g2⟩
    · exact .inr ⟨z, w, g1, g2, g3⟩
  have tt : ∀ (a : Addr) (kvs : List (List Key × D)) (ws : List (List Key × V)), Rd H a (.dT ws) → Pr K μ H kvs ws → (keyT k).map (fun q => getP kvs q) = some r → ∃ o, DGet H a y o ∧ ((r = none ∧ o = none) ∨ ∃ z w, r = some z ∧ o = some w ∧ Rv K μ H z w) := by
    intro a kvs ws hr hp he
    obtain ⟨q, e1, e2⟩ := Option.map_eq_some_iff.mp he
    subst e2
    obtain ⟨b, eb, hb⟩ := keyT_rv rk e1
    refine ⟨valV ws q, .inr ⟨ws, q, b, hr, eb, hb, rfl⟩, ?_⟩
    rcases hp.get q with ⟨g1, g2⟩ | ⟨z, w, g1, g2, g3⟩
    · exact .inl ⟨g1, g2⟩
    · exact .inr ⟨z, w, g1, g2, g3⟩
  cases d with
  | ref n =>
    simp only [Rv] at rd
    obtain ⟨a, rfl, hn⟩ := rd
    obtain ⟨o, ho, ro⟩ := R.lt hn
    simp only [dGet, ho] at e
    cases o with
    | lst xs => simp at e
    | hl xs => simp at e
    | dk kvs =>
      obtain ⟨ws, q, k1, t⟩ := ro
      obtain ⟨o, g, c⟩ := kk a kvs ws (.inl q) (Pr.of k1 t) e
      exact ⟨a, o, rfl, g, c⟩
    | dt kvs =>
      obtain ⟨ws, q, k1, t⟩ := ro
      obtain ⟨o, g, c⟩ := tt a kvs ws (.inl q) (Pr.of k1 t) e
      exact ⟨a, o, rfl, g, c⟩
    | wk kvs =>
      obtain ⟨z, ws, q, k1, t⟩ := ro
      obtain ⟨o, g, c⟩ := kk a kvs ws (.inr ⟨z, q⟩) (Pr.of k1 t) e
      exact ⟨a, o, rfl, g, c⟩
    | wt kvs =>
      obtain ⟨z, ws, q, k1, t⟩ := ro
      obtain ⟨o, g, c⟩ := tt a kvs ws (.inr ⟨z, q⟩) (Pr.of k1 t) e
      exact ⟨a, o, rfl, g, c⟩
    | ins c fs => exact ro.elim
  | dk ks vs =>
    simp only [Rv] at rd
    obtain ⟨a, ws, rfl, _, q, k1, t⟩ := rd
    simp only [dGet] at e
    have hl : ks.length = vs.length := by rw [← k1, t.length, List.length_map, List.length_map]
    obtain ⟨z1, z2⟩ := zip_fst hl
    obtain ⟨o, g, c⟩ := kk a (ks.zip vs) ws q (Pr.of (by rw [z1, k1]) (by rw [z2]; exact t)) e
    exact ⟨a, o, rfl, g, c⟩
  | dt ks vs =>
    simp only [Rv] at rd
    obtain ⟨a, ws, rfl, _, q, k1, t⟩ := rd
    simp only [dGet] at e
    have hl : ks.length = vs.length := by rw [← k1, t.length, List.length_map, List.length_map]
    obtain ⟨z1, z2⟩ := zip_fst hl
    obtain ⟨o, g, c⟩ := tt a (ks.zip vs) ws q (Pr.of (by rw [z1, k1]) (by rw [z2]; exact t)) e
    exact ⟨a, o, rfl, g, c⟩
  | _ => simp [dGet] at e
/-- a store -/
theorem dPut_rv (R : Rh K μ H h) {d k v : D} {x y z : V} {h' : Hc} (rd : Rv K μ H d x) (rk : Rv K μ H k y) (rv : Rv K μ H v z) (e : dPut h d k v = some h') :
    ∃ a H', x = .ref a ∧ DPut H a y z H' ∧ Ext μ H μ H' ∧ Rh K μ H' h' := by
  cases d with
  | ref n =>
    simp only [Rv] at rd
    obtain ⟨a, rfl, hn⟩ := rd
    obtain ⟨o, ho, ro⟩ := R.lt hn
    simp only [dPut, ho] at e
    cases o with
    | dk kvs =>
      obtain ⟨ws, q, k1, t⟩ := ro
      simp only at e
      split at e
      · rename_i hl
        obtain ⟨j, e1, rfl⟩ := Option.map_eq_some_iff.mp e
        have P := Pr.of k1 t
        have X : Ext μ H μ (upd H a (.dK (putK ws j z))) := Ext.put (List.mem_of_getElem? hn) (fun o w z => by rw [q] at z; cases z) fun xs => R.notup (List.mem_of_getElem? hn)
        obtain ⟨p1, p2, p3⟩ := (Pr.ext X (P.put (k := j) rv)).to
        obtain ⟨x1, x2⟩ := R.put (o := .dk (putP kvs j v)) hn (fun o w z => by rw [q] at z; cases z) ⟨_, upd_same, p1, p2⟩
        exact ⟨a, _, rfl, .inl ⟨ws, j, q, keyK_rv rk e1, by rw [P.to.2.2]; exact hl, rfl⟩, x1, x2⟩
      · cases e
    | dt kvs =>
      obtain ⟨ws, q, k1, t⟩ := ro
      simp only at e
      split at e
      · rename_i hl
        obtain ⟨j, e1, rfl⟩ := Option.map_eq_some_iff.mp e
        obtain ⟨b, eb, hb⟩ := keyT_rv rk e1
        have P := Pr.of k1 t
        have X : Ext μ H μ (upd H a (.dT (putK ws j z))) := Ext.put (List.mem_of_getElem? hn) (fun o w z => by rw [q] at z; cases z) fun xs => R.notup (List.mem_of_getElem? hn)
        obtain ⟨p1, p2, p3⟩ := (Pr.ext X (P.put (k := j) rv)).to
        obtain ⟨x1, x2⟩ := R.put (o := .dt (putP kvs j v)) hn (fun o w z => by rw [q] at z; cases z) ⟨_, upd_same, p1, p2⟩
        exact ⟨a, _, rfl, .inr ⟨ws, j, b, q, eb, hb, by rw [P.to.2.2]; exact hl, rfl⟩, x1, x2⟩
      · cases e
    | _ => cases e
  | _ => simp [dPut] at e
theorem Dps.thaw (R : Rh K μ H h) (k : Nat) : ∀ {ds : List D} {vs : List V} {ps : List PyData}, Rvs K μ H ds vs → D.pys (ds.map (Q.thaw h k)) = some ps → DpAll K H vs ps
  | [], vs, ps, r, e => by
    rw [r.unnil]
    simp only [List.map_nil, D.pys, Option.some.injEq] at e
    subst e
    exact .nil
  | d :: ds, vs, ps, r, e => by
    obtain ⟨v, w, rfl, q, t⟩ := r.uncons
    simp only [List.map_cons, D.pys, Option.bind_eq_some_iff, Option.map_eq_some_iff] at e
    obtain ⟨p, e1, ps', e2, rfl⟩ := e
    exact .cons (Dp.thaw R k d v p q e1) (Dps.thaw R k t e2)
theorem dIn_some {xs : List D} {x : D} {r : Bool} (e : dIn h xs x = some r) : ∃ ps p, D.pys (xs.map (Q.thaw h 2)) = some ps ∧ (Q.thaw h 2 x).py = some p ∧ SeqAt.shaped (.list ps) = true ∧ SeqAt.shaped p = true ∧ r = ps.any fun z => PyData.eqv z p := by
  unfold dIn at e
  split at e
  · rename_i ps p e1 e2
    split at e
    · rename_i hs
      simp only [Bool.and_eq_true] at hs
      exact ⟨ps, p, e1, e2, hs.1, hs.2, (Option.some.inj e).symm⟩
    · cases e
  · cases e
end
section
variable {X : Cx}
/-- in a tuple, data of any depth -/
theorem op_inTD (hu : X.A.units + 65 < cLine) : OpR X (compareOp .In) (fun x y H Q => ∃ d ds, Dp X.K H x d ∧ Dp X.K H y (.tuple ds) ∧ SeqAt.shaped d = true ∧ SeqAt.shaped (.list ds) = true ∧ Q (.bl (ds.any fun z => PyData.eqv z d)) H) := by
  intro pins s σ H x y v u Q I rx ry h
  obtain ⟨d, ds, hd, he, sd, se, q⟩ := h
  obtain ⟨as, r1⟩ := Dp.reads I d x v hd rx
  obtain ⟨bs, r2⟩ := Dp.reads I (.tuple ds) y u he ry
  exact SeqAt.in_tuple_reads r2 r1 (SeqAt.canLay_of_shaped se) (SeqAt.canLay_of_shaped sd) (room_in_shaped sd hu) ⟨.bl _, H, I, rfl, q⟩
theorem op_ninTD (hu : X.A.units + 65 < cLine) : OpR X (compareOp .NotIn) (fun x y H Q => ∃ d ds, Dp X.K H x d ∧ Dp X.K H y (.tuple ds) ∧ SeqAt.shaped d = true ∧ SeqAt.shaped (.list ds) = true ∧ Q (.bl (!ds.any fun z => PyData.eqv z d)) H) := by
  intro pins s σ H x y v u Q I rx ry h
  obtain ⟨d, ds, hd, he, sd, se, q⟩ := h
  obtain ⟨as, r1⟩ := Dp.reads I d x v hd rx
  obtain ⟨bs, r2⟩ := Dp.reads I (.tuple ds) y u he ry
  exact SeqAt.notIn_tuple_reads r2 r1 (SeqAt.canLay_of_shaped se) (SeqAt.canLay_of_shaped sd) (room_in_shaped sd hu) ⟨.bl _, H, I, rfl, q⟩
theorem isSome_cases {K : PySem.W.Frag} {μ : List Addr} {H : Hp} {r : Option D} {o : Option V} (c : (r = none ∧ o = none) ∨ ∃ z w, r = some z ∧ o = some w ∧ Rv K μ H z w) : r.isSome = o.isSome := by
  rcases c with ⟨rfl, rfl⟩ | ⟨z, w, rfl, rfl, _⟩ <;> rfl
theorem o_in (hu : X.A.units + 65 < cLine) : OpR X (compareOp .In) (r2 X.K .isin) := by
  intro pins s σ H x y v u Q I rx ry h
  obtain ⟨μ, h, d, e, R, rd, re, p⟩ := h
  simp only [prim2] at p
  split at p
  · rename_i xs e1
    obtain ⟨a, vs, rfl, q1, t1⟩ := lookT_tup R re e1
    obtain ⟨b, eb, p⟩ := opt_post p
    obtain ⟨ps, pd, g1, g2, s1, s2, rfl⟩ := dIn_some eb
    exact op_inTD hu pins s σ H _ _ v u Q I rx ry ⟨pd, ps, Dp.thaw R 2 _ _ _ rd g2, .tup (.inl q1) (Dps.thaw R 2 t1 g1), s2, s1, p.bl R⟩
  · rename_i xs e1
    obtain ⟨a, vs, rfl, q1, t1⟩ := lookT_lst R re e1
    obtain ⟨b, eb, p⟩ := opt_post p
    obtain ⟨ps, pd, g1, g2, s1, s2, rfl⟩ := dIn_some eb
    exact op_inD hu pins s σ H _ _ v u Q I rx ry ⟨pd, ps, Dp.thaw R 2 _ _ _ rd g2, .lst (SqL.of q1) (Dps.thaw R 2 t1 g1), s2, s1, p.bl R⟩
  · obtain ⟨r, er, p⟩ := opt_post p
    obtain ⟨a, o, rfl, g, c⟩ := dGet_rv R re rd er
    obtain rfl : u = Value.ref a := ry
    refine d_in (by omega) I g rx fun s' I' => ⟨.bl o.isSome, H, I', rfl, ?_⟩
    rw [isSome_cases c] at p
    exact p.bl R
theorem o_notin (hu : X.A.units + 65 < cLine) : OpR X (compareOp .NotIn) (r2 X.K .notin) := by
  intro pins s σ H x y v u Q I rx ry h
  obtain ⟨μ, h, d, e, R, rd, re, p⟩ := h
  simp only [prim2] at p
  split at p
  · rename_i xs e1
    obtain ⟨a, vs, rfl, q1, t1⟩ := lookT_tup R re e1
    obtain ⟨b, eb, p⟩ := opt_post p
    obtain ⟨ps, pd, g1, g2, s1, s2, rfl⟩ := dIn_some eb
    exact op_ninTD hu pins s σ H _ _ v u Q I rx ry ⟨pd, ps, Dp.thaw R 2 _ _ _ rd g2, .tup (.inl q1) (Dps.thaw R 2 t1 g1), s2, s1, p.bl R⟩
  · rename_i xs e1
    obtain ⟨a, vs, rfl, q1, t1⟩ := lookT_lst R re e1
    obtain ⟨b, eb, p⟩ := opt_post p
    obtain ⟨ps, pd, g1, g2, s1, s2, rfl⟩ := dIn_some eb
    exact op_notInD hu pins s σ H _ _ v u Q I rx ry ⟨pd, ps, Dp.thaw R 2 _ _ _ rd g2, .lst (SqL.of q1) (Dps.thaw R 2 t1 g1), s2, s1, p.bl R⟩
  · obtain ⟨r, er, p⟩ := opt_post p
    obtain ⟨a, o, rfl, g, c⟩ := dGet_rv R re rd er
    obtain rfl : u = Value.ref a := ry
    refine d_notIn (by omega) I g rx fun s' I' => ⟨.bl (!o.isSome), H, I', rfl, ?_⟩
    rw [isSome_cases c] at p
    exact p.bl R
/-! subscripts -/
theorem ix_dict (hu : X.A.units + 1 < cLine) : IxR X (fun x y H Q => ∃ a v, x = .ref a ∧ DGet H a y (some v) ∧ Q v H) := by
  intro value slice pins s σ H x y v u Q I rx ry h hs
  obtain ⟨a, z, rfl, g, q⟩ := h
  obtain rfl : v = Value.ref a := rx
  have hT := dict_typeIs I g
  unfold subscriptTail
  refine wpAny_bind ?_
  rw [getitemInPython_of_ne hT.not_modules]
  refine wpAny_bind (wpAny_specialOf hT PySem.F.slot_dict_getitem.lookup ?_)
  have fin : wpAny (model X.prog X.w) X.A (subscripted slice false (.ref a) u) (fun r s₃ => wpAny (model X.prog X.w) X.A (letTemporaryGo value (.ref a) r >>= fun _ => pure r) (EP X pins σ Q) X.xe s₃) X.xe s := by
    rw [hs]
    exact wpAny_operating (d_getItem hu I g ry fun w s3 I3 rw3 => wpAny_bind (wpAny_letTemporaryGo (wpAny_pure ⟨z, H, I3, rw3, q⟩)))
  first
    | exact wpAny_pure (wpAny_bind fin)
    | exact wpAny_bind (wpAny_pure (wpAny_bind fin))
    | exact wpAny_bind fin
theorem ixD_at {xs : List D} {vs : List V} {K : PySem.W.Frag} {μ : List Addr} {H : Hp} (t : Rvs K μ H xs vs) {i : Int} {d : D} (e : ((ixD xs.length i).bind fun k => xs[k]?) = some d) : ∃ v, atI vs i = some v ∧ Rv K μ H d v := by
  obtain ⟨k, e1, e2⟩ := Option.bind_eq_some_iff.mp e
  obtain ⟨v, e3, r⟩ := t.get e2
  refine ⟨v, ?_, r⟩
  unfold atI
  rw [← t.length]
  exact Option.bind_eq_some_iff.mpr ⟨k, e1, e3⟩
theorem o_idx (hu : X.A.units + 1 < cLine) : IxR X (r2 X.K .idx) := by
  intro value slice pins s σ H x y v u Q I rx ry h hs
  obtain ⟨μ, h, d, e, R, rd, re, p⟩ := h
  simp only [prim2] at p
  split at p
  · rename_i xs i e1
    simp only [Rv] at re
    subst re
    obtain ⟨a, vs, rfl, q1, t1⟩ := lookT_tup R rd e1
    obtain ⟨z, ez, p⟩ := opt_post p
    obtain ⟨w, ew, rw'⟩ := ixD_at t1 ez
    exact ix_tup value slice pins s σ H _ _ v u Q I rx ry ⟨a, vs, i, w, rfl, rfl, .inl q1, ew, p.here R rw'⟩ hs
  · rename_i xs i e1
    simp only [Rv] at re
    subst re
    obtain ⟨a, vs, rfl, q1, t1⟩ := lookT_lst R rd e1
    obtain ⟨z, ez, p⟩ := opt_post p
    obtain ⟨w, ew, rw'⟩ := ixD_at t1 ez
    exact ix_list value slice pins s σ H _ _ v u Q I rx ry ⟨a, vs, i, w, rfl, rfl, SqL.of q1, ew, p.here R rw'⟩ hs
  · rename_i ns i e1
    simp only [Rv] at re
    subst re
    obtain ⟨a, rfl, q1⟩ := look_scr R rd (lookT_ne e1 nofun)
    obtain ⟨z, ez, p⟩ := opt_post p
    refine ix_list value slice pins s σ H _ _ v u Q I rx ry ⟨a, _, i, .int z, rfl, rfl, q1, ?_, p.int R⟩ hs
    obtain ⟨k, e2, e3⟩ := Option.bind_eq_some_iff.mp ez
    unfold atI
    rw [List.length_map]
    exact Option.bind_eq_some_iff.mpr ⟨k, e2, by rw [List.getElem?_map, e3] <;> rfl⟩
  · rename_i z i e1
    simp only [Rv] at re
    subst re
    cases look_str R rd (lookT_ne e1 nofun)
    obtain ⟨c, ec, p⟩ := opt_post p
    split at p
    · rename_i hl
      refine ix_str value slice pins s σ H _ _ v u Q I rx ry ⟨z, i, c, rfl, rfl, hl, ?_, p.str R⟩ hs
      unfold atI
      rw [Array.length_toList]
      exact ec
    · exact p.elim
  · obtain ⟨r, er, p⟩ := opt_post p
    obtain ⟨z, ez, p⟩ := opt_post p
    subst ez
    obtain ⟨a, o, rfl, g, c⟩ := dGet_rv R rd re er
    rcases c with ⟨c, _⟩ | ⟨z', w, e1, rfl, rw'⟩
    · cases c
    · cases e1
      exact ix_dict hu value slice pins s σ H _ _ v u Q I rx ry ⟨a, w, rfl, g, p.here R rw'⟩ hs
end
end Q

/-! QP4: one-place operators, tests, built-in functions. -/
namespace Q
open PySem PySem.Spec PyProof.Rows L2
section
variable {K : PySem.W.Frag} {μ ν : List Addr} {G H : Hp} {h : Hc}
theorem truth_rv (R : Rh K μ H h) {d : D} {v : V} (r : Rv K μ H d v) {b : Bool} (e : truth h d = some b) : TruV K v H b := by
  unfold truth at e
  split at e
  · rename_i e1
    cases look_non R r (lookT_ne e1 nofun)
    exact (Option.some.inj e).symm
  · rename_i x e1
    cases look_bl R r (lookT_ne e1 nofun)
    exact (Option.some.inj e).symm
  · rename_i x e1
    cases look_int R r (lookT_ne e1 nofun)
    exact (Option.some.inj e).symm
  · rename_i x e1
    cases look_str R r (lookT_ne e1 nofun)
    split at e
    · rename_i hl
      refine ⟨hl, ?_⟩
      rw [← Option.some.inj e]
      cases x.length <;> rfl
    · cases e
  · rename_i xs e1
    obtain ⟨a, vs, rfl, q, t⟩ := lookT_tup R r e1
    refine .inr (.inl ⟨vs, .inl q, ?_⟩)
    rw [← Option.some.inj e]
    cases vs <;> cases xs <;> first | rfl | (have := t.length; simp at this)
  · rename_i xs e1
    obtain ⟨a, vs, rfl, q, t⟩ := lookT_lst R r e1
    refine .inl ⟨vs, SqL.of q, ?_⟩
    rw [← Option.some.inj e]
    cases vs <;> cases xs <;> first | rfl | (have := t.length; simp at this)
  · cases e
end
section
variable {X : Cx}
theorem u_neg : UnR X (unaryOp .USub) (r1 X.K .neg) := by
  intro pins s σ H x v Q I rx h
  obtain ⟨μ, h, d, R, rd, p⟩ := h
  cases d with
  | int i =>
    simp only [Rv] at rd
    subst rd
    simp only [prim1] at p
    exact un_neg pins s σ H _ v Q I rx ⟨i, rfl, p.int R⟩
  | _ => simp only [prim1] at p; exact p.elim
theorem u_not : UnR X (unaryOp .Not) (r1 X.K .not) := by
  intro pins s σ H x v Q I rx h
  obtain ⟨μ, h, d, R, rd, p⟩ := h
  simp only [prim1] at p
  obtain ⟨b, eb, p⟩ := opt_post p
  have tv := truth_rv R rd eb
  refine not_of (thn (tru_ok pins s σ H x v (fun c H1 => c = b ∧ H1 = H) I rx ⟨b, tv, rfl, rfl⟩) fun c s1 ⟨H1, I1, e1, e2⟩ => ?_)
  subst e1 e2
  exact ⟨.bl (!c), _, I1, rfl, p.bl R⟩
theorem isN_iff {K : PySem.W.Frag} {μ : List Addr} {H : Hp} {d : D} {x : V} (r : Rv K μ H d x) : decide (d = .non) = decide (x = .non) := by
  cases d with
  | non => simp only [Rv] at r; subst r; rfl
  | bl b => simp only [Rv] at r; subst r; rfl
  | int b => simp only [Rv] at r; subst r; rfl
  | str b => simp only [Rv] at r; subst r; rfl
  | tup b => simp only [Rv] at r; obtain ⟨_, _, rfl, _⟩ := r; rfl
  | lst b => simp only [Rv] at r; obtain ⟨_, _, rfl, _⟩ := r; rfl
  | ftp b => simp only [Rv] at r; obtain ⟨_, _, _, rfl, _⟩ := r; rfl
  | dk a b => simp only [Rv] at r; obtain ⟨_, _, rfl, _⟩ := r; rfl
  | dt a b => simp only [Rv] at r; obtain ⟨_, _, rfl, _⟩ := r; rfl
  | scr b => simp only [Rv] at r; obtain ⟨_, rfl, _⟩ := r; rfl
  | exc b => simp only [Rv] at r
  | ref b => simp only [Rv] at r; obtain ⟨_, rfl, _⟩ := r; rfl
theorem isB_iff {K : PySem.W.Frag} {μ : List Addr} {H : Hp} {d : D} {x : V} (c : Bool) (r : Rv K μ H d x) : decide (d = .bl c) = decide (x = .bl c) := by
  cases d with
  | non => simp only [Rv] at r; subst r; rfl
  | bl b => simp only [Rv] at r; subst r; simp
  | int b => simp only [Rv] at r; subst r; rfl
  | str b => simp only [Rv] at r; subst r; rfl
  | tup b => simp only [Rv] at r; obtain ⟨_, _, rfl, _⟩ := r; rfl
  | lst b => simp only [Rv] at r; obtain ⟨_, _, rfl, _⟩ := r; rfl
  | ftp b => simp only [Rv] at r; obtain ⟨_, _, _, rfl, _⟩ := r; rfl
  | dk a b => simp only [Rv] at r; obtain ⟨_, _, rfl, _⟩ := r; rfl
  | dt a b => simp only [Rv] at r; obtain ⟨_, _, rfl, _⟩ := r; rfl
  | scr b => simp only [Rv] at r; obtain ⟨_, rfl, _⟩ := r; rfl
  | exc b => simp only [Rv] at r
  | ref b => simp only [Rv] at r; obtain ⟨_, rfl, _⟩ := r; rfl

theorem is_bl_gen {M : Model} {A : Around} {E : Value → Shared → Prop} {s : Shared} {Q : Value → Shared → Prop} {v : Value} {c : Bool} (hb : ∀ p, v ≠ .builtin p) (h : Q (.bool (v == .bool c)) s) : wpAny M A (compareOp .Is v (.bool c)) Q E s := by
  cases v <;> first | exact wpAny_pure h | exact absurd rfl (hb _)
theorem isnt_bl_gen {M : Model} {A : Around} {E : Value → Shared → Prop} {s : Shared} {Q : Value → Shared → Prop} {v : Value} {c : Bool} (hb : ∀ p, v ≠ .builtin p) (h : Q (.bool (!(v == .bool c))) s) : wpAny M A (compareOp .IsNot v (.bool c)) Q E s := by
  cases v <;> first | exact wpAny_pure h | exact absurd rfl (hb _)
theorem relV_nb {x : V} {v : Value} (r : RelV x v) (p : String) : v ≠ .builtin p := by
  cases x with
  | int _ => obtain ⟨t, rfl⟩ := r; exact nofun
  | str _ => obtain ⟨t, rfl⟩ := r; exact nofun
  | byt _ => obtain ⟨t, rfl⟩ := r; exact nofun
  | flt _ => obtain ⟨t, rfl⟩ := r; exact nofun
  | _ => cases r; exact nofun
theorem relV_bl {x : V} {v : Value} (c : Bool) (r : RelV x v) : (v == Value.bool c) = decide (x = .bl c) := by
  cases x with
  | int _ => obtain ⟨t, rfl⟩ := r; rfl
  | str _ => obtain ⟨t, rfl⟩ := r; rfl
  | byt _ => obtain ⟨t, rfl⟩ := r; rfl
  | flt _ => obtain ⟨t, rfl⟩ := r; rfl
  | bl b => cases r; cases b <;> cases c <;> rfl
  | _ => cases r; rfl
variable {a : Expr} {ta : TE} {pos : Pos}
/-- is None, is not None, is True .. -/
theorem pe_isN {j : Nat} {p : Pos} (ha : PE X a ta) : PE X (.Compare a [.Is] [.Constant .none j p] pos) (tUn (r1 X.K .isN) ta) := by
  refine ⟨fun pins s σ H Q I h => ?_⟩
  refine wpAny_Compare1 (thn (ha.run pins s σ H _ I h) fun v s1 ⟨x, H1, I1, r1, μ, h, d, R, rd, q⟩ => Constant_none (is_none_gen ⟨.bl _, H1, I1, by rw [r1.none_iff]; rfl, ?_⟩)) (nobehind _ (by decide) (by decide))
  simp only [prim1] at q
  rw [isN_iff rd] at q
  exact q.bl R
theorem pe_isntN {j : Nat} {p : Pos} (ha : PE X a ta) : PE X (.Compare a [.IsNot] [.Constant .none j p] pos) (tUn (r1 X.K .isntN) ta) := by
  refine ⟨fun pins s σ H Q I h => ?_⟩
  refine wpAny_Compare1 (thn (ha.run pins s σ H _ I h) fun v s1 ⟨x, H1, I1, r1, μ, h, d, R, rd, q⟩ => Constant_none (isnot_none_gen ⟨.bl _, H1, I1, by rw [r1.none_iff]; rfl, ?_⟩)) (nobehind _ (by decide) (by decide))
  simp only [prim1] at q
  rw [isN_iff rd] at q
  exact q.bl R
theorem pe_isB {c : Bool} {j : Nat} {p : Pos} (ha : PE X a ta) : PE X (.Compare a [.Is] [.Constant (.bool c) j p] pos) (tUn (r1 X.K (.isB c)) ta) := by
  refine ⟨fun pins s σ H Q I h => ?_⟩
  refine wpAny_Compare1 (thn (ha.run pins s σ H _ I h) fun v s1 ⟨x, H1, I1, r1, μ, h, d, R, rd, q⟩ => Constant_bool (is_bl_gen (relV_nb r1) ⟨.bl _, H1, I1, by rw [relV_bl c r1]; rfl, ?_⟩)) (nobehind _ (by decide) (by decide))
  simp only [prim1] at q
  rw [isB_iff c rd] at q
  exact q.bl R
theorem pe_isntB {c : Bool} {j : Nat} {p : Pos} (ha : PE X a ta) : PE X (.Compare a [.IsNot] [.Constant (.bool c) j p] pos) (tUn (r1 X.K (.isntB c)) ta) := by
  refine ⟨fun pins s σ H Q I h => ?_⟩
  refine wpAny_Compare1 (thn (ha.run pins s σ H _ I h) fun v s1 ⟨x, H1, I1, r1, μ, h, d, R, rd, q⟩ => Constant_bool (isnt_bl_gen (relV_nb r1) ⟨.bl _, H1, I1, by rw [relV_bl c r1]; rfl, ?_⟩)) (nobehind _ (by decide) (by decide))
  simp only [prim1] at q
  rw [isB_iff c rd] at q
  exact q.bl R

/-! ### built-in functions -/
def rN (K : PySem.W.Frag) (q : P) : List V → Hp → VK → Prop := fun vs H Q => ∃ μ h ds, Rh K μ H h ∧ Rvs K μ H ds vs ∧ Post K μ H (primN q ds h) Q
theorem Rvs.un1 {K : PySem.W.Frag} {μ : List Addr} {H : Hp} {d : D} {vs : List V} (r : Rvs K μ H [d] vs) : ∃ v, vs = [v] ∧ Rv K μ H d v := by
  obtain ⟨v, t, rfl, q, t'⟩ := r.uncons
  rw [t'.unnil]
  exact ⟨v, rfl, q⟩
theorem Rvs.un2 {K : PySem.W.Frag} {μ : List Addr} {H : Hp} {d e : D} {vs : List V} (r : Rvs K μ H [d, e] vs) : ∃ v w, vs = [v, w] ∧ Rv K μ H d v ∧ Rv K μ H e w := by
  obtain ⟨v, t, rfl, q, t'⟩ := r.uncons
  obtain ⟨w, rfl, q'⟩ := t'.un1
  exact ⟨v, w, rfl, q, q'⟩
theorem one_of {q : P} {ds : List D} {h : Hc} {K : PySem.W.Frag} {μ : List Addr} {H : Hp} {Q : VK} (hq : ∀ ds h, (∀ d, ds ≠ [d]) → primN q ds h = .bad) (p : Post K μ H (primN q ds h) Q) : ∃ d, ds = [d] := by
  by_cases e : ∃ d, ds = [d]
  · exact e
  · rw [hq ds h fun d z => e ⟨d, z⟩] at p
    exact p.elim
theorem vals1' {x : V} {us : List Value} (r : Vals [x] us) : ∃ u, us = [u] ∧ RelV x u := r.one
theorem c_len : CallR X (.builtin "len") (rN X.K .len) := by
  intro pins s σ H xs us Q I r h
  obtain ⟨μ, h, ds, R, rd, p⟩ := h
  obtain ⟨d, rfl⟩ := one_of (fun ds h hd => by
    match ds, hd with
    | [], _ => rfl
    | [d], hd => exact absurd rfl (hd d)
    | _ :: _ :: _, _ => rfl) p
  obtain ⟨v, rfl, rv⟩ := rd.un1
  simp only [primN] at p
  split at p
  · rename_i xs e1
    obtain ⟨a, vs, rfl, q, t⟩ := lookT_tup R rv e1
    rw [t.length] at p
    exact call_len_seq pins s σ H _ us Q I r ⟨a, vs, rfl, .inr (.inl q), p.int R⟩
  · rename_i xs e1
    obtain ⟨a, vs, rfl, q, t⟩ := lookT_lst R rv e1
    rw [t.length] at p
    exact call_len_seq pins s σ H _ us Q I r ⟨a, vs, rfl, .inl (SqL.of q), p.int R⟩
  · rename_i xs e1
    obtain ⟨a, rfl, q⟩ := look_scr R rv (lookT_ne e1 nofun)
    exact call_len_seq pins s σ H _ us Q I r ⟨a, _, rfl, .inl q, by rw [List.length_map]; exact p.int R⟩
  · rename_i ks xs e1
    obtain ⟨a, kvs, rfl, q, ek, t⟩ := look_dk R rv (lookT_ne e1 nofun)
    obtain ⟨u, rfl, ru⟩ := r.one
    cases ru
    refine d_len I q fun t s' I' => ⟨.int kvs.length, H, I', ⟨t, rfl⟩, ?_⟩
    rw [← ek, List.length_map] at p
    exact p.int R
  · rename_i ks xs e1
    obtain ⟨a, kvs, rfl, q, ek, t⟩ := look_dt R rv (lookT_ne e1 nofun)
    obtain ⟨u, rfl, ru⟩ := r.one
    cases ru
    rw [← ek, List.length_map] at p
    obtain ⟨z, hd, ys, rel, dd⟩ := dt_rd I.hok q
    have hl : kvs.length = ys.length := Paired.length rel
    refine call_len_dictH hd dd (by rw [← hl]; rw [sizeLine_eq] at z; omega) ?_
    rw [← hl]
    exact ⟨.int ((kvs.length : Nat) : Int), H, I.tok _, ⟨_, rfl⟩, p.int R⟩
  · rename_i x e1
    cases look_str R rv (lookT_ne e1 nofun)
    split at p
    · rename_i hl
      exact call_len_str pins s σ H _ us Q I r ⟨x, rfl, hl, p.int R⟩
    · exact p.elim
  · exact p.elim
theorem Post.ftp {K : PySem.W.Frag} {μ : List Addr} {H : Hp} {h : Hc} {xs : List D} {vs : List V} {Q : VK} {o : Obj} (p : Post K μ H (.ok (.ftp xs) h) Q) (R : Rh K μ H h) (r : Rvs K μ H xs vs) (ho : o.dict = none) : ∀ a, H a = none → Q (.ref a) (upd H a (.frz o (.tup vs))) := fun a ha =>
  p _ μ _ (Ext.side μ ha) (R.side ha) (by
    simp only [Rv]
    exact ⟨a, o, vs, rfl, upd_same, ho, Rvs.ext (Ext.side μ ha) _ _ r⟩)
/-- tuple(xs) of a list: the new object is known -/
theorem call_tuple_fz {pins : List (Addr × Obj)} {s : Shared} {σ : L2.St} {H : Hp} {a : Addr} {ys : List V} {Q : VK} (I : Inv X pins σ H s) (hl : SqL X.K H a ys) (q : ∀ l o, H l = none → o.dict = none → Q (.ref l) (upd H l (.frz o (.tup ys)))) : wpAny (model X.prog X.w) X.A (call (.type "tuple") [.ref a]) (EP X pins σ Q) X.xe s := by
  obtain ⟨its, rr, pl, hz⟩ := I.list hl
  have hlen := rr.length
  refine call_tuple_list pl.isList (fun h' kp => ?_) (by simp only [List.size_toArray] <;> omega)
  have I1 : Inv X pins σ H { s with heap := h' } := I.kept (t' := s.toks) kp
  have hat : (h'.push { cls := .type "tuple", data := .seq its.toArray }).get? h'.objs.size = some { cls := .type "tuple", data := .seq its.toArray } := Heap.get?_push_size _ rfl
  have I2 := I1.laid (t' := s.toks) (a := h'.objs.size) (h' := h'.push { cls := .type "tuple", data := .seq its.toArray }) (o := .frz { cls := .type "tuple", data := .seq its.toArray } (.tup ys)) (fun b o e => Heap.get?_push_of_some _ e) (Nat.le_refl _)
    ⟨hat, hz, its, rr, IsTup.new _ _⟩
  exact ⟨.ref h'.objs.size, _, I2, rfl, q _ _ (I1.hok.fresh (Nat.le_refl _)) rfl⟩
theorem c_tup {fz : Bool} : CallR X (.type "tuple") (rN X.K (.toTup fz)) := by
  intro pins s σ H xs us Q I r h
  obtain ⟨μ, h, ds, R, rd, p⟩ := h
  obtain ⟨d, rfl⟩ := one_of (fun ds h hd => by
    match ds, hd with
    | [], _ => rfl
    | [d], hd => exact absurd rfl (hd d)
    | _ :: _ :: _, _ => rfl) p
  obtain ⟨v, rfl, rv⟩ := rd.un1
  simp only [primN] at p
  split at p
  · rename_i xs e1
    obtain ⟨a, vs, rfl, q, t⟩ := look_tup R rv e1
    refine call_tuple_of pins s σ H _ us Q I r ⟨a, vs, rfl, .inr ⟨SqT.of q, p.here R ?_⟩⟩
    simp only [Rv]
    exact ⟨a, vs, rfl, q, t⟩
  · rename_i xs e1
    obtain ⟨a, vs, rfl, q, t⟩ := look_lst R rv e1
    cases fz with
    | false => exact call_tuple_of pins s σ H _ us Q I r ⟨a, vs, rfl, .inl ⟨SqL.of q, p.tup R t⟩⟩
    | true =>
      obtain ⟨u, rfl, ru⟩ := r.one
      cases ru
      exact call_tuple_fz I (SqL.of q) fun l o hl ho => p.ftp R t ho l hl
  · rename_i xs e1
    cases look_ftp e1
    have rv0 := rv
    simp only [Rv] at rv
    obtain ⟨a, o, vs, rfl, q, hn, t⟩ := rv
    exact call_tuple_of pins s σ H _ us Q I r ⟨a, vs, rfl, .inr ⟨.inl (.inr ⟨o, q⟩), p.here R rv0⟩⟩
  · exact p.elim
theorem c_lst {fr : Bool} : CallR X (.type "list") (rN X.K (.toLst fr)) := by
  intro pins s σ H xs us Q I r h
  obtain ⟨μ, h, ds, R, rd, p⟩ := h
  obtain ⟨d, rfl⟩ := one_of (fun ds h hd => by
    match ds, hd with
    | [], _ => rfl
    | [d], hd => exact absurd rfl (hd d)
    | _ :: _ :: _, _ => rfl) p
  obtain ⟨v, rfl, rv⟩ := rd.un1
  simp only [primN] at p
  split at p
  · rename_i xs e1
    obtain ⟨a, vs, rfl, q, t⟩ := lookT_tup R rv e1
    exact call_list_of pins s σ H _ us Q I r ⟨a, vs, rfl, .inr (.inl q), p.newL R t⟩
  · rename_i xs e1
    obtain ⟨a, vs, rfl, q, t⟩ := lookT_lst R rv e1
    exact call_list_of pins s σ H _ us Q I r ⟨a, vs, rfl, .inl (SqL.of q), p.newL R t⟩
  · exact p.elim
theorem c_int : CallR X (.type "int") (rN X.K .toInt) := by
  intro pins s σ H xs us Q I r h
  obtain ⟨μ, h, ds, R, rd, p⟩ := h
  match ds, p with
  | [.int i], p =>
    obtain ⟨v, rfl, rv⟩ := rd.un1
    simp only [Rv] at rv
    subst rv
    simp only [primN] at p
    exact call_int1 pins s σ H _ us Q I r (.inl ⟨i, rfl, p.int R⟩)
  | [.bl i], p =>
    obtain ⟨v, rfl, rv⟩ := rd.un1
    simp only [Rv] at rv
    subst rv
    simp only [primN] at p
    exact call_int1 pins s σ H _ us Q I r (.inr ⟨i, rfl, p.int R⟩)
  | [], p => exact p.elim
  | a :: _ :: _, p => cases a <;> exact p.elim
  | [.non], p | [.str _], p | [.tup _], p | [.lst _], p | [.dk _ _], p | [.dt _ _], p | [.scr _], p | [.exc _], p | [.ftp _], p | [.ref _], p => exact p.elim
theorem c_abs : CallR X (.builtin "abs") (rN X.K .abs) := by
  intro pins s σ H xs us Q I r h
  obtain ⟨μ, h, ds, R, rd, p⟩ := h
  match ds, p with
  | [.int i], p =>
    obtain ⟨v, rfl, rv⟩ := rd.un1
    simp only [Rv] at rv
    subst rv
    simp only [primN] at p
    exact call_abs pins s σ H _ us Q I r ⟨i, rfl, p.int R⟩
  | [], p => exact p.elim
  | a :: _ :: _, p => cases a <;> exact p.elim
  | [.non], p | [.bl _], p | [.str _], p | [.tup _], p | [.lst _], p | [.dk _ _], p | [.dt _ _], p | [.scr _], p | [.exc _], p | [.ftp _], p | [.ref _], p => exact p.elim
theorem twoI_some {ds : List D} {p : Int × Int} (e : twoI ds = some p) : ds = [.int p.1, .int p.2] := by
  unfold twoI at e
  split at e
  · cases e
    rfl
  · cases e
theorem c_max2 (hc : X.calm = true) : CallR X (.builtin "max") (rN X.K .max2) := by
  intro pins s σ H xs us Q I r h
  obtain ⟨μ, h, ds, R, rd, p⟩ := h
  simp only [primN] at p
  obtain ⟨⟨i, j⟩, e, p⟩ := opt_post p
  cases twoI_some e
  obtain ⟨v, w, rfl, rv, rw'⟩ := rd.un2
  simp only [Rv] at rv rw'
  subst rv rw'
  exact call_max2 hc pins s σ H _ us Q I r ⟨i, j, rfl, p.int R⟩
theorem c_min2 (hc : X.calm = true) : CallR X (.builtin "min") (rN X.K .min2) := by
  intro pins s σ H xs us Q I r h
  obtain ⟨μ, h, ds, R, rd, p⟩ := h
  simp only [primN] at p
  obtain ⟨⟨i, j⟩, e, p⟩ := opt_post p
  cases twoI_some e
  obtain ⟨v, w, rfl, rv, rw'⟩ := rd.un2
  simp only [Rv] at rv rw'
  subst rv rw'
  exact call_min2 hc pins s σ H _ us Q I r ⟨i, j, rfl, p.int R⟩
theorem sumD_ints {K : PySem.W.Frag} {μ : List Addr} {H : Hp} : ∀ {xs : List D} {vs : List V} {n : Int}, Rvs K μ H xs vs → sumD xs = some n → ∃ ns : List Int, vs = ns.map V.int ∧ ns.sum = n
  | [], vs, n, r, e => by
    rw [r.unnil]
    exact ⟨[], rfl, by simpa [sumD] using e⟩
  | .int i :: xs, vs, n, r, e => by
    obtain ⟨v, t, rfl, q, t'⟩ := r.uncons
    simp only [Rv] at q
    subst q
    simp only [sumD, Option.map_eq_some_iff] at e
    obtain ⟨m, e, rfl⟩ := e
    obtain ⟨ns, rfl, rfl⟩ := sumD_ints t' e
    exact ⟨i :: ns, rfl, by simp⟩
  | .non :: _, _, _, _, e | .bl _ :: _, _, _, _, e | .str _ :: _, _, _, _, e | .tup _ :: _, _, _, _, e | .lst _ :: _, _, _, _, e | .dk _ _ :: _, _, _, _, e | .dt _ _ :: _, _, _, _, e | .scr _ :: _, _, _, _, e | .exc _ :: _, _, _, _, e | .ftp _ :: _, _, _, _, e | .ref _ :: _, _, _, _, e => by simp [sumD] at e
theorem allD_bls {K : PySem.W.Frag} {μ : List Addr} {H : Hp} : ∀ {xs : List D} {vs : List V} {n : Bool}, Rvs K μ H xs vs → allD xs = some n → ∃ ns : List Bool, vs = ns.map V.bl ∧ ns.all id = n
  | [], vs, n, r, e => by
    rw [r.unnil]
    exact ⟨[], rfl, by simpa [allD] using e⟩
  | .bl i :: xs, vs, n, r, e => by
    obtain ⟨v, t, rfl, q, t'⟩ := r.uncons
    simp only [Rv] at q
    subst q
    simp only [allD, Option.map_eq_some_iff] at e
    obtain ⟨m, e, rfl⟩ := e
    obtain ⟨ns, rfl, rfl⟩ := allD_bls t' e
    exact ⟨i :: ns, rfl, by simp⟩
  | .non :: _, _, _, _, e | .int _ :: _, _, _, _, e | .str _ :: _, _, _, _, e | .tup _ :: _, _, _, _, e | .lst _ :: _, _, _, _, e | .dk _ _ :: _, _, _, _, e | .dt _ _ :: _, _, _, _, e | .scr _ :: _, _, _, _, e | .exc _ :: _, _, _, _, e | .ftp _ :: _, _, _, _, e | .ref _ :: _, _, _, _, e => by simp [allD] at e
theorem anyD_bls {K : PySem.W.Frag} {μ : List Addr} {H : Hp} : ∀ {xs : List D} {vs : List V} {n : Bool}, Rvs K μ H xs vs → anyD xs = some n → ∃ ns : List Bool, vs = ns.map V.bl ∧ ns.any id = n
  | [], vs, n, r, e => by
    rw [r.unnil]
    exact ⟨[], rfl, by simpa [anyD] using e⟩
  | .bl i :: xs, vs, n, r, e => by
    obtain ⟨v, t, rfl, q, t'⟩ := r.uncons
    simp only [Rv] at q
    subst q
    simp only [anyD, Option.map_eq_some_iff] at e
    obtain ⟨m, e, rfl⟩ := e
    obtain ⟨ns, rfl, rfl⟩ := anyD_bls t' e
    exact ⟨i :: ns, rfl, by simp⟩
  | .non :: _, _, _, _, e | .int _ :: _, _, _, _, e | .str _ :: _, _, _, _, e | .tup _ :: _, _, _, _, e | .lst _ :: _, _, _, _, e | .dk _ _ :: _, _, _, _, e | .dt _ _ :: _, _, _, _, e | .scr _ :: _, _, _, _, e | .exc _ :: _, _, _, _, e | .ftp _ :: _, _, _, _, e | .ref _ :: _, _, _, _, e => by simp [anyD] at e
theorem c_sum (hc : X.calm = true) : CallR X (.builtin "sum") (rN X.K .sum) := by
  intro pins s σ H xs us Q I r h
  obtain ⟨μ, h, ds, R, rd, p⟩ := h
  obtain ⟨d, rfl⟩ := one_of (fun ds h hd => by
    match ds, hd with
    | [], _ => rfl
    | [d], hd => exact absurd rfl (hd d)
    | _ :: _ :: _, _ => rfl) p
  obtain ⟨v, rfl, rv⟩ := rd.un1
  simp only [primN] at p
  split at p
  · rename_i xs e1
    obtain ⟨a, vs, rfl, q, t⟩ := look_lst R rv e1
    obtain ⟨n, en, p⟩ := opt_post p
    obtain ⟨ns, rfl, rfl⟩ := sumD_ints t en
    exact cr_sum hc pins s σ H _ us Q I r ⟨a, ns, rfl, SqL.of q, p.int R⟩
  · exact p.elim
theorem extI_ints {K : PySem.W.Frag} {μ : List Addr} {H : Hp} {lt : Int → Int → Bool} : ∀ {xs : List D} {vs : List V} {m n : Int}, Rvs K μ H xs vs → extI lt m xs = some n → ∃ ns : List Int, vs = ns.map V.int ∧ ns.foldl (fun a y => if lt y a = true then y else a) m = n
  | [], vs, m, n, r, e => by
    rw [r.unnil]
    exact ⟨[], rfl, by simpa [extI] using e⟩
  | .int i :: xs, vs, m, n, r, e => by
    obtain ⟨v, t, rfl, q, t'⟩ := r.uncons
    simp only [Rv] at q
    subst q
    simp only [extI] at e
    obtain ⟨ns, rfl, h⟩ := extI_ints t' e
    exact ⟨i :: ns, rfl, by simpa using h⟩
  | .non :: _, _, _, _, _, e | .bl _ :: _, _, _, _, _, e | .str _ :: _, _, _, _, _, e | .tup _ :: _, _, _, _, _, e | .lst _ :: _, _, _, _, _, e | .dk _ _ :: _, _, _, _, _, e | .dt _ _ :: _, _, _, _, _, e | .scr _ :: _, _, _, _, _, e | .exc _ :: _, _, _, _, _, e | .ftp _ :: _, _, _, _, _, e | .ref _ :: _, _, _, _, _, e => by simp [extI] at e
theorem extD_ints {K : PySem.W.Frag} {μ : List Addr} {H : Hp} {lt : Int → Int → Bool} {xs : List D} {vs : List V} {n : Int} (r : Rvs K μ H xs vs) (e : extD lt xs = some n) : ∃ (m : Int) (ns : List Int), vs = (m :: ns).map V.int ∧ ns.foldl (fun a y => if lt y a = true then y else a) m = n := by
  cases xs with
  | nil => simp [extD] at e
  | cons d xs =>
    cases d <;> simp only [extD, reduceCtorEq] at e
    obtain ⟨v, t, rfl, q, t'⟩ := r.uncons
    simp only [Rv] at q
    subst q
    obtain ⟨ns, rfl, h⟩ := extI_ints t' e
    exact ⟨_, ns, rfl, h⟩
theorem c_ext {nm : String} {q : P} {lt : Int → Int → Bool} (hc : X.calm = true) (hu : X.A.units + 66 < cLine)
    (hp : ∀ d h, primN q [d] h = (match look h d with
      | .lst xs => opt (extD lt xs) fun s => .ok (.int s) h
      | .tup xs => opt (extD lt xs) fun s => .ok (.int s) h
      | _ => .bad)) (hb : ∀ ds h, (∀ d, ds ≠ [d]) → primN q ds h = .bad)
    (hl : ∀ {s : Shared} {Q : Value → Shared → Prop} {l : Addr} {vs : Array Value} {x : Int} {xs : List Int}, X.A.handled = none → s.heap.IsList l vs → PySem.W.HoldAll s.heap vs.toList (x :: xs) → (∀ (v : Value) h' tk, PySem.W.Holds h' v (xs.foldl (fun a y => if lt y a = true then y else a) x) → (∀ b o, s.heap.get? b = some o → h'.get? b = some o) → Q v { s with heap := h', toks := tk }) → wpAny (model X.prog X.w) X.A (call (.builtin nm) [.ref l]) Q X.xe s)
    (ht : ∀ {s : Shared} {Q : Value → Shared → Prop} {l : Addr} {vs : Array Value} {x : Int} {xs : List Int}, X.A.handled = none → s.heap.IsTuple l vs → PySem.W.HoldAll s.heap vs.toList (x :: xs) → (∀ (v : Value) h' tk, PySem.W.Holds h' v (xs.foldl (fun a y => if lt y a = true then y else a) x) → (∀ b o, s.heap.get? b = some o → h'.get? b = some o) → Q v { s with heap := h', toks := tk }) → wpAny (model X.prog X.w) X.A (call (.builtin nm) [.ref l]) Q X.xe s) :
    CallR X (.builtin nm) (rN X.K q) := by
  intro pins s σ H xs us Q I r h
  obtain ⟨μ, h, ds, R, rd, p⟩ := h
  obtain ⟨d, rfl⟩ := one_of (fun ds h hd => hb ds h hd) p
  obtain ⟨v, rfl, rv⟩ := rd.un1
  rw [hp] at p
  split at p
  · rename_i xs e1
    obtain ⟨a, vs, rfl, q, t⟩ := look_lst R rv e1
    obtain ⟨n, en, p⟩ := opt_post p
    obtain ⟨m, ns, rfl, rfl⟩ := extD_ints t en
    obtain ⟨its, rvv, hl', _⟩ := I.list (SqL.of q)
    rw [Vals.ref1 r]
    refine hl (I.ok.hd hc) hl'.isList (PySem.W.HoldAll.of_ints rvv.ints) fun v h' tk hv hk => ?_
    obtain ⟨as, ra⟩ := hv
    cases ra
    exact ⟨.int _, H, I.kept hk, ⟨_, rfl⟩, p.int R⟩
  · rename_i xs e1
    obtain ⟨a, vs, rfl, q, t⟩ := look_tup R rv e1
    obtain ⟨n, en, p⟩ := opt_post p
    obtain ⟨m, ns, rfl, rfl⟩ := extD_ints t en
    obtain ⟨its, rvv, hl', _⟩ := I.tuple (SqT.of q)
    rw [Vals.ref1 r]
    refine ht (I.ok.hd hc) (show s.heap.IsTuple a its.toArray from hl') (PySem.W.HoldAll.of_ints rvv.ints) fun v h' tk hv hk => ?_
    obtain ⟨as, ra⟩ := hv
    cases ra
    exact ⟨.int _, H, I.kept hk, ⟨_, rfl⟩, p.int R⟩
  · exact p.elim
theorem c_minL (hc : X.calm = true) (hu : X.A.units + 66 < cLine) : CallR X (.builtin "min") (rN X.K .minL) :=
  c_ext (lt := fun a b => decide (a < b)) hc hu (fun d h => rfl) (fun ds h hd => by
    match ds, hd with
    | [], _ => rfl
    | [d], hd => exact absurd rfl (hd d)
    | _ :: _ :: _, _ => rfl)
    (fun hh hl H k => PySem.W.min_list_datum (α := Int) hh hl H (show _ + 1 + 0 < cLine by omega) fun i v h' tk _ hv hk => k v h' tk hv hk)
    (fun hh hl H k => PySem.W.min_tuple_datum (α := Int) hh hl H (show _ + 1 + 0 < cLine by omega) fun i v h' tk _ hv hk => k v h' tk hv hk)
theorem c_maxL (hc : X.calm = true) (hu : X.A.units + 66 < cLine) : CallR X (.builtin "max") (rN X.K .maxL) :=
  c_ext (lt := fun a b => decide (b < a)) hc hu (fun d h => rfl) (fun ds h hd => by
    match ds, hd with
    | [], _ => rfl
    | [d], hd => exact absurd rfl (hd d)
    | _ :: _ :: _, _ => rfl)
    (fun hh hl H k => PySem.W.max_list_datum (α := Int) hh hl H (show _ + 1 + 0 < cLine by omega) fun i v h' tk _ hv hk => k v h' tk hv hk)
    (fun hh hl H k => PySem.W.max_tuple_datum (α := Int) hh hl H (show _ + 1 + 0 < cLine by omega) fun i v h' tk _ hv hk => k v h' tk hv hk)
theorem c_all (hc : X.calm = true) : CallR X (.builtin "all") (rN X.K .all) := by
  intro pins s σ H xs us Q I r h
  obtain ⟨μ, h, ds, R, rd, p⟩ := h
  obtain ⟨d, rfl⟩ := one_of (fun ds h hd => by
    match ds, hd with
    | [], _ => rfl
    | [d], hd => exact absurd rfl (hd d)
    | _ :: _ :: _, _ => rfl) p
  obtain ⟨v, rfl, rv⟩ := rd.un1
  simp only [primN] at p
  split at p
  · rename_i xs e1
    obtain ⟨a, vs, rfl, q, t⟩ := look_lst R rv e1
    obtain ⟨n, en, p⟩ := opt_post p
    obtain ⟨ns, rfl, rfl⟩ := allD_bls t en
    exact cr_all hc pins s σ H _ us Q I r ⟨a, ns, rfl, SqL.of q, p.bl R⟩
  · exact p.elim
theorem c_any (hc : X.calm = true) : CallR X (.builtin "any") (rN X.K .any) := by
  intro pins s σ H xs us Q I r h
  obtain ⟨μ, h, ds, R, rd, p⟩ := h
  obtain ⟨d, rfl⟩ := one_of (fun ds h hd => by
    match ds, hd with
    | [], _ => rfl
    | [d], hd => exact absurd rfl (hd d)
    | _ :: _ :: _, _ => rfl) p
  obtain ⟨v, rfl, rv⟩ := rd.un1
  simp only [primN] at p
  split at p
  · rename_i xs e1
    obtain ⟨a, vs, rfl, q, t⟩ := look_lst R rv e1
    obtain ⟨n, en, p⟩ := opt_post p
    obtain ⟨ns, rfl, rfl⟩ := anyD_bls t en
    exact cr_any hc pins s σ H _ us Q I r ⟨a, ns, rfl, SqL.of q, p.bl R⟩
  · exact p.elim
/-! isinstance -/
def tyN : Ty → String
  | .int => "int"
  | .bool => "bool"
  | .tup => "tuple"
  | .lst => "list"
  | .str => "str"
  | .dict => "dict"
theorem kit_non (t : Ty) : kitB "NoneType" (tyN t) = some false := by cases t <;> decide +kernel
theorem kit_bl (t : Ty) : kitB "bool" (tyN t) = some (t == .bool || t == .int) := by cases t <;> decide +kernel
theorem kit_int (t : Ty) : kitB "int" (tyN t) = some (t == .int) := by cases t <;> decide +kernel
theorem kit_str (t : Ty) : kitB "str" (tyN t) = some (t == .str) := by cases t <;> decide +kernel
theorem kit_tup (t : Ty) : kitB "tuple" (tyN t) = some (t == .tup) := by cases t <;> decide +kernel
theorem kit_lst (t : Ty) : kitB "list" (tyN t) = some (t == .lst) := by cases t <;> decide +kernel
theorem kit_dict (t : Ty) : kitB "dict" (tyN t) = some (t == .dict) := by cases t <;> decide +kernel
/-- isinstance(x, T), by the value of x -/
theorem c_isi {t : Ty} {pins : List (Addr × Obj)} {s : Shared} {σ : L2.St} {H : Hp} {x : V} {u : Value} {Q : VK} (I : Inv X pins σ H s) (ru : RelV x u) (q : rN X.K (.isinst t) [x] H Q) : wpAny (model X.prog X.w) X.A (call (.builtin "isinstance") [u, .type (tyN t)]) (EP X pins σ Q) X.xe s := by
  obtain ⟨μ, h, ds, R, rd, p⟩ := q
  obtain ⟨d, rfl⟩ := one_of (fun ds h hd => by
    match ds, hd with
    | [], _ => rfl
    | [d], hd => exact absurd rfl (hd d)
    | _ :: _ :: _, _ => rfl) p
  obtain ⟨x', e', rv⟩ := rd.un1
  cases e'
  simp only [primN] at p
  obtain ⟨b, eb, p⟩ := opt_post p
  have fin : ∀ tk, EP X pins σ Q (.bool b) { s with toks := tk } := fun tk => ⟨.bl b, H, I.tok tk, rfl, p.bl R⟩
  unfold isTy at eb
  split at eb
  · rename_i e1
    cases look_non R rv (lookT_ne e1 nofun)
    cases eb
    exact isinst_ok I ru (TyOf.non) (kit_ty (kit_non t)) fin
  · rename_i y e1
    cases look_bl R rv (lookT_ne e1 nofun)
    cases eb
    exact isinst_ok I ru (TyOf.bl y) (kit_ty (kit_bl t)) fin
  · rename_i y e1
    cases look_int R rv (lookT_ne e1 nofun)
    cases eb
    exact isinst_ok I ru (TyOf.int y) (kit_ty (kit_int t)) fin
  · rename_i y e1
    cases look_str R rv (lookT_ne e1 nofun)
    cases eb
    exact isinst_ok I ru (TyOf.str y) (kit_ty (kit_str t)) fin
  · rename_i y e1
    obtain ⟨a, vs, rfl, q, _⟩ := lookT_tup R rv e1
    cases eb
    cases ru
    obtain ⟨_, its, _, o, h1, h2, _⟩ := q.ok I.hok
    exact PySem.W.kia_one PySem.W.kitx_tuple I.kIn ⟨o, h1, h2⟩ (kit_ty (kit_tup t)) (fun z => nomatch z) fin
  · rename_i y e1
    obtain ⟨a, vs, rfl, q, _⟩ := lookT_lst R rv e1
    cases eb
    exact isinst_ok I ru (TyOf.lst q) (kit_ty (kit_lst t)) fin
  · rename_i ks y e1
    obtain ⟨a, kvs, rfl, q, _⟩ := look_dk R rv (lookT_ne e1 nofun)
    cases eb
    cases ru
    obtain ⟨_, _, vs, _, o, es, ep, h1, h2, _⟩ := q.ok I.hok
    exact PySem.W.kia_one PySem.W.kitx_dict I.kIn ⟨o, h1, h2.1⟩ (kit_ty (kit_dict t)) (fun z => nomatch z) fin
  · rename_i ks y e1
    obtain ⟨a, kvs, rfl, q, _⟩ := look_dt R rv (lookT_ne e1 nofun)
    cases eb
    cases ru
    obtain ⟨_, _, xs, _, o, es, ep, h1, h2, _⟩ := q.ok I.hok
    exact PySem.W.kia_one PySem.W.kitx_dict I.kIn ⟨o, h1, h2.1⟩ (kit_ty (kit_dict t)) (fun z => nomatch z) fin
  · cases eb
end
end Q

/-! QP5: sorted. -/
namespace Q
open PySem PySem.Spec PyProof.Rows L2
theorem insD_perm (x : D) : ∀ l, (insD x l).Perm (x :: l)
  | [] => .refl _
  | y :: ys => by
    unfold insD
    split
    · exact ((insD_perm x ys).cons y).trans (.swap x y ys)
    · exact .refl _
theorem sortD_perm : ∀ l, (sortD l).Perm l
  | [] => .refl _
  | x :: xs => (insD_perm x _).trans ((sortD_perm xs).cons x)
abbrev LeD (a b : D) : Prop := ltB b a = false
/-- an order on the values of S -/
structure OrdOn (S : D → Prop) : Prop where
  asymm : ∀ a b, S a → S b → ltB a b = true → ltB b a = false
  neg : ∀ a b c, S a → S b → S c → ltB a c = true → ltB a b = true ∨ ltB b c = true
  total : ∀ a b, S a → S b → ltB a b = false → ltB b a = false → a = b
theorem insD_sorted {S : D → Prop} (O : OrdOn S) {x : D} (hx : S x) : ∀ l, (∀ y ∈ l, S y) → l.Pairwise LeD → (insD x l).Pairwise LeD
  | [], _, _ => by simp [insD]
  | y :: ys, hs, hp => by
    have hy : S y := hs y List.mem_cons_self
    have hys : ∀ z ∈ ys, S z := fun z hz => hs z (List.mem_cons_of_mem _ hz)
    rw [List.pairwise_cons] at hp
    unfold insD
    split
    · rename_i h1
      refine List.pairwise_cons.mpr ⟨fun z hz => ?_, insD_sorted O hx ys hys hp.2⟩
      rcases List.mem_cons.mp ((insD_perm x ys).mem_iff.mp hz) with rfl | hz
      · exact O.asymm _ _ hy hx h1
      · exact hp.1 z hz
    · rename_i h1
      have h1 : ltB y x = false := by simpa using h1
      refine List.pairwise_cons.mpr ⟨fun z hz => ?_, List.pairwise_cons.mpr hp⟩
      rcases List.mem_cons.mp hz with rfl | hz
      · exact h1
      · cases e : ltB z x with
        | false => exact e
        | true =>
          rcases O.neg _ y _ (hys z hz) hy hx e with q | q
          · have := hp.1 z hz
            unfold LeD at this
            rw [this] at q
            cases q
          · rw [h1] at q
            cases q
theorem sortD_sorted {S : D → Prop} (O : OrdOn S) : ∀ l, (∀ y ∈ l, S y) → (sortD l).Pairwise LeD
  | [], _ => by simp [sortD]
  | x :: xs, hs => by
    have hxs : ∀ z ∈ xs, S z := fun z hz => hs z (List.mem_cons_of_mem _ hz)
    exact insD_sorted O (hs x List.mem_cons_self) _ (fun z hz => hxs z ((sortD_perm xs).mem_iff.mp hz)) (sortD_sorted O xs hxs)
theorem sortD_eq {S : D → Prop} (O : OrdOn S) {xs ys : List D} (hs : ∀ y ∈ xs, S y) (hp : ys.Perm xs) (h : ys.Pairwise LeD) : sortD xs = ys :=
  List.Perm.eq_of_pairwise (le := LeD) (fun a b ha hb h1 h2 => O.total a b (hs a ((sortD_perm xs).mem_iff.mp ha)) (hs b (hp.mem_iff.mp hb)) h2 h1) (sortD_sorted O xs hs) h ((sortD_perm xs).trans hp.symm)
/-- the order of ints, of tuples of ints, by a key -/
def unI : D → Int
  | .int i => i
  | _ => 0
def keyD : D → List (Int ⊕ List Nat)
  | .int i => [.inl i]
  | .tup xs => xs.map fun d => .inl (unI d)
  | _ => []
theorem isInts_map : ∀ {xs : List D}, isInts xs = true → xs = (xs.map unI).map D.int
  | [], _ => rfl
  | .int i :: xs, h => by
    have := isInts_map (xs := xs) (by simpa [isInts] using h)
    rw [List.map_cons, List.map_cons, ← this]
    rfl
  | .non :: _, h | .bl _ :: _, h | .str _ :: _, h | .tup _ :: _, h | .lst _ :: _, h | .dk _ _ :: _, h | .dt _ _ :: _, h | .scr _ :: _, h | .exc _ :: _, h | .ftp _ :: _, h | .ref _ :: _, h => by simp [isInts] at h
def ordL : KeyOrd := PyProof.Rows.listOrd PyProof.Rows.itemOrd
theorem dLts_key : ∀ ns ms : List Int, dLts (ns.map D.int) (ms.map D.int) = some (PyProof.Rows.lexLt PyProof.Rows.itemOrd (ns.map Sum.inl) (ms.map Sum.inl))
  | [], [] => rfl
  | [], _ :: _ => rfl
  | _ :: _, [] => rfl
  | n :: ns, m :: ms => by
    rw [List.map_cons, List.map_cons, List.map_cons, List.map_cons, dLts]
    by_cases e : n = m
    · subst e
      rw [if_pos rfl, dLts_key ns ms, PyProof.Rows.lex_self]
    · rw [if_neg (fun z => e (by injection z)), dLt, PyProof.Rows.lex_diff (fun z => e (by injection z))]
      rfl
def SInt (d : D) : Prop := ∃ i, d = .int i
def STup (d : D) : Prop := ∃ ns : List Int, d = .tup (ns.map D.int)
theorem keyD_tup (ns : List Int) : keyD (.tup (ns.map D.int)) = ns.map Sum.inl := by
  show (ns.map D.int).map _ = _
  rw [List.map_map]
  rfl
theorem ltB_int {a b : D} (ha : SInt a) (hb : SInt b) : ltB a b = PyProof.Rows.lexLt PyProof.Rows.itemOrd (keyD a) (keyD b) := by
  obtain ⟨i, rfl⟩ := ha
  obtain ⟨j, rfl⟩ := hb
  show decide (i < j) = PyProof.Rows.lexLt PyProof.Rows.itemOrd [.inl i] [.inl j]
  rw [PyProof.Rows.lex_cons]
  show decide (i < j) = (decide (i < j) || (!decide (j < i) && false))
  simp
theorem ltB_tup {a b : D} (ha : STup a) (hb : STup b) : ltB a b = PyProof.Rows.lexLt PyProof.Rows.itemOrd (keyD a) (keyD b) := by
  obtain ⟨ns, rfl⟩ := ha
  obtain ⟨ms, rfl⟩ := hb
  rw [keyD_tup, keyD_tup]
  unfold ltB dLt
  rw [dLts_key] <;> rfl
theorem inl_inj : ∀ {ns ms : List Int}, ns.map (Sum.inl (β := List Nat)) = ms.map Sum.inl → ns = ms
  | [], [], _ => rfl
  | [], _ :: _, h => by simp at h
  | _ :: _, [], h => by simp at h
  | n :: ns, m :: ms, h => by
    rw [List.map_cons, List.map_cons] at h
    injection h with h1 h2
    injection h1 with h1
    rw [h1, inl_inj h2]
theorem ord_key {S : D → Prop} (hl : ∀ a b, S a → S b → ltB a b = PyProof.Rows.lexLt PyProof.Rows.itemOrd (keyD a) (keyD b)) (hi : ∀ a b, S a → S b → keyD a = keyD b → a = b) : OrdOn S where
  asymm a b ha hb h := by
    rw [hl a b ha hb] at h
    rw [hl b a hb ha]
    exact KeyOrd.klt_asymm (O := PyProof.Rows.listOrd PyProof.Rows.itemOrd) h
  neg a b c ha hb hc h := by
    rw [hl a c ha hc] at h
    rw [hl a b ha hb, hl b c hb hc]
    exact PyProof.Rows.lex_negTrans _ _ _ h
  total a b ha hb h1 h2 := by
    rw [hl a b ha hb] at h1
    rw [hl b a hb ha] at h2
    exact hi a b ha hb (PyProof.Rows.lex_total _ _ h1 h2)
theorem ord_int : OrdOn SInt := ord_key (fun _ _ => ltB_int) fun a b ⟨i, ha⟩ ⟨j, hb⟩ e => by
  subst ha hb
  simp only [keyD, List.cons.injEq, Sum.inl.injEq, and_true] at e
  rw [e]
theorem ord_tup : OrdOn STup := ord_key (fun _ _ => ltB_tup) fun a b ⟨i, ha⟩ ⟨j, hb⟩ e => by
  subst ha hb
  rw [keyD_tup, keyD_tup] at e
  rw [inl_inj e]
theorem isInts_mem : ∀ {xs : List D}, isInts xs = true → ∀ y ∈ xs, SInt y
  | [], _, _, h => nomatch h
  | .int i :: xs, h, y, hy => by
    rcases List.mem_cons.mp hy with rfl | hy
    · exact ⟨i, rfl⟩
    · exact isInts_mem (xs := xs) (by simpa [isInts] using h) y hy
  | .non :: _, h, _, _ | .bl _ :: _, h, _, _ | .str _ :: _, h, _, _ | .tup _ :: _, h, _, _ | .lst _ :: _, h, _, _ | .dk _ _ :: _, h, _, _ | .dt _ _ :: _, h, _, _ | .scr _ :: _, h, _, _ | .exc _ :: _, h, _, _ | .ftp _ :: _, h, _, _ | .ref _ :: _, h, _, _ => by simp [isInts] at h
theorem isTupInts_mem : ∀ {xs : List D}, isTupInts xs = true → ∀ y ∈ xs, ∃ n, ∃ ns : List Int, y = .tup ((n :: ns).map D.int)
  | [], _, _, h => nomatch h
  | .tup xs :: r, h, y, hy => by
    simp only [isTupInts, Bool.and_eq_true] at h
    rcases List.mem_cons.mp hy with rfl | hy
    · have := isInts_map h.1.1
      cases xs with
      | nil => exact absurd h.1.2 (by simp)
      | cons x xs => exact ⟨unI x, xs.map unI, by rw [this]; rfl⟩
    · exact isTupInts_mem (xs := r) h.2 y hy
  | .non :: _, h, _, _ | .bl _ :: _, h, _, _ | .str _ :: _, h, _, _ | .int _ :: _, h, _, _ | .lst _ :: _, h, _, _ | .dk _ _ :: _, h, _, _ | .dt _ _ :: _, h, _, _ | .scr _ :: _, h, _, _ | .exc _ :: _, h, _, _ | .ftp _ :: _, h, _, _ | .ref _ :: _, h, _, _ => by simp [isTupInts] at h
theorem lift_perm {α β : Type} {F : α → β → Prop} {l' l : List β} (p : l'.Perm l) : ∀ {xs : List α}, Paired F xs l → ∃ xs' : List α, xs'.Perm xs ∧ Paired F xs' l' := by
  induction p with
  | nil => exact fun h => ⟨_, .refl _, h⟩
  | cons x p ih =>
    intro xs h
    cases h with
    | cons r t =>
      obtain ⟨xs', e, q⟩ := ih t
      exact ⟨_, e.cons _, .cons r q⟩
  | swap x y l =>
    intro xs h
    cases h with
    | cons r t =>
      cases t with
      | cons r' t => exact ⟨_, .swap _ _ _, .cons r' (.cons r t)⟩
  | trans p q ih1 ih2 =>
    intro xs h
    obtain ⟨xs1, e1, q1⟩ := ih2 h
    obtain ⟨xs2, e2, q2⟩ := ih1 q1
    exact ⟨xs2, e2.trans e1, q2⟩
theorem Paired.pw {α β : Type} {F : α → β → Prop} {R : α → α → Prop} {S : β → β → Prop} (hf : ∀ a b x y, F a x → F b y → S x y → R a b) : ∀ {xs : List α} {us : List β}, Paired F xs us → us.Pairwise S → xs.Pairwise R
  | _, _, .nil, _ => .nil
  | _, _, .cons (l₂ := bs) r t, h => by
    rw [List.pairwise_cons] at h
    refine List.pairwise_cons.mpr ⟨fun z hz => ?_, Paired.pw hf t h.2⟩
    have : ∃ u ∈ bs, F z u := by
      clear h r
      induction t with
      | nil => cases hz
      | cons r' t' ih =>
        rcases List.mem_cons.mp hz with rfl | hz
        · exact ⟨_, List.mem_cons_self, r'⟩
        · obtain ⟨u, hu, f⟩ := ih hz
          exact ⟨u, List.mem_cons_of_mem _ hu, f⟩
    obtain ⟨u, hu, f⟩ := this
    exact hf _ _ _ _ r f (h.1 u hu)

section
variable {K : PySem.W.Frag} {μ : List Addr} {H : Hp}
/-- a clean value at a real one -/
def Tv (K : PySem.W.Frag) (μ : List Addr) (H : Hp) (d : D) (u : Value) : Prop := ∃ v, Rv K μ H d v ∧ RelV v u
theorem Tv.of : ∀ {xs : List D} {vs : List V} {us : List Value}, Rvs K μ H xs vs → Vals vs us → Paired (Tv K μ H) xs us
  | [], vs, us, r, t => by
    cases r.unnil
    cases t
    exact .nil
  | x :: xs, vs, us, r, t => by
    obtain ⟨v, w, rfl, q, r'⟩ := r.uncons
    cases t with
    | cons z t => exact .cons ⟨v, q, z⟩ (Tv.of r' t)
theorem Tv.to : ∀ {xs : List D} {us : List Value}, Paired (Tv K μ H) xs us → ∃ vs, Rvs K μ H xs vs ∧ Vals vs us
  | _, _, .nil => ⟨[], Rvs.nil, .nil⟩
  | _, _, .cons ⟨v, r, z⟩ t => by
    obtain ⟨vs, q1, q2⟩ := Tv.to t
    exact ⟨v :: vs, Rvs.cons r q1, .cons z q2⟩
theorem Paired.all {α β : Type} {F : α → β → Prop} {xs : List α} {us : List β} (p : Paired F xs us) : ∀ u ∈ us, ∃ x ∈ xs, F x u := by
  induction p with
  | nil => exact fun _ h => nomatch h
  | cons r t ih =>
    intro u hu
    rcases List.mem_cons.mp hu with rfl | hu
    · exact ⟨_, List.mem_cons_self, r⟩
    · obtain ⟨x, hx, f⟩ := ih u hu
      exact ⟨x, List.mem_cons_of_mem _ hx, f⟩
theorem tv_ints : ∀ {xs : List D} {us : List Value}, Paired (Tv K μ H) xs us → isInts xs = true → PyProof.Rows.IntsAre us (xs.map unI)
  | _, _, .nil, _ => .nil
  | .int i :: xs, _, .cons ⟨v, r, z⟩ t, h => by
    simp only [Rv] at r
    subst r
    obtain ⟨k, rfl⟩ := z
    exact .cons i k (tv_ints t (by simpa [isInts] using h))
  | .non :: _, _, .cons _ _, h | .bl _ :: _, _, .cons _ _, h | .str _ :: _, _, .cons _ _, h | .tup _ :: _, _, .cons _ _, h | .lst _ :: _, _, .cons _ _, h | .dk _ _ :: _, _, .cons _ _, h | .dt _ _ :: _, _, .cons _ _, h | .scr _ :: _, _, .cons _ _, h | .exc _ :: _, _, .cons _ _, h | .ftp _ :: _, _, .cons _ _, h | .ref _ :: _, _, .cons _ _, h => by simp [isInts] at h
theorem intsAre_mk : ∀ {us : List Value} {ns : List Int}, PyProof.Rows.IntsAre us ns → Paired (Tv K μ H) (ns.map D.int) us
  | _, _, .nil => .nil
  | _, _, .cons n t h => .cons ⟨.int n, by simp only [Rv], t, rfl⟩ (intsAre_mk h)
theorem tupItems_ints : ∀ {us : List Value} {ns : List Int} (i : Nat), PyProof.Rows.IntsAre us ns → PyProof.Rows.tupItems (fun _ => false) i us = some (ns.map Sum.inl)
  | _, _, _, .nil => rfl
  | _, _, i, .cons n t h => by
    show (if false = true then none else (PyProof.Rows.tupItems (fun _ => false) (i + 1) _).map _) = _
    rw [if_neg Bool.false_ne_true, tupItems_ints (i + 1) h] <;> rfl
/-- a tuple of ints, as the sort's rules see it -/
theorem tv_tup {P : Program} {w : World} {h : Heap} (ok : HOk P w H h) {n : Int} {ns : List Int} {u : Value} (t : Tv K μ H (.tup ((n :: ns).map D.int)) u) :
    ∃ f, PyProof.Rows.TupOf h (fun _ => false) u f ∧ PyProof.Rows.G.tupKeyC h (fun _ => false) u = some ((n :: ns).map Sum.inl) := by
  obtain ⟨v, r, z⟩ := t
  simp only [Rv] at r
  obtain ⟨a, vs, rfl, q, r⟩ := r
  cases z
  obtain ⟨_, its, rv, o, ho, hc, k, hd⟩ := ok a _ q
  have hi : PyProof.Rows.IntsAre its (n :: ns) := by
    have := tv_ints (Tv.of r rv) (by
      have : ∀ l : List Int, isInts (l.map D.int) = true := fun l => by
        induction l with
        | nil => rfl
        | cons a l ih => simpa [isInts] using ih
      exact this _)
    have e : ((n :: ns).map D.int).map unI = n :: ns := by
      rw [List.map_map]
      exact List.map_id _
    rw [e] at this
    exact this
  cases hi with
  | cons n' t' hi' =>
    refine ⟨.int n t', ⟨a, o, _, k, rfl, ho, hc, hd, by simp, fun _ => ⟨n, t', rfl⟩, fun e => absurd e Bool.false_ne_true⟩, ?_⟩
    unfold PyProof.Rows.G.tupKeyC
    have e1 : PyProof.Rows.G.isTupObj h (.ref a) = true := by simp [PyProof.Rows.G.isTupObj, ho, hc]
    rw [if_pos e1]
    simp only [PyProof.Rows.tupKey, ho, hd]
    exact tupItems_ints 0 (.cons n t' hi')
theorem tv_tups {P : Program} {w : World} {h : Heap} (ok : HOk P w H h) : ∀ {xs : List D} {us : List Value}, Paired (Tv K μ H) xs us → (∀ x ∈ xs, ∃ n, ∃ ns : List Int, x = .tup ((n :: ns).map D.int)) → ∃ fs, PyProof.Rows.TupsOf h (fun _ => false) us fs
  | _, _, .nil, _ => ⟨[], .nil⟩
  | _, _, .cons r t, hs => by
    obtain ⟨n, ns, e⟩ := hs _ List.mem_cons_self
    subst e
    obtain ⟨f, q, _⟩ := tv_tup ok r
    obtain ⟨fs, q'⟩ := tv_tups ok t fun x hx => hs x (List.mem_cons_of_mem _ hx)
    exact ⟨f :: fs, .cons q q'⟩
theorem kk_at {κ : PyProof.Rows.KeyKind} {xs : Array PyProof.Rows.Keyed} {i : Nat} {p : PyProof.Rows.Keyed} {k : κ.α} (h : xs[i]? = some p) (e : κ.keyOf p.1 = some k) : PyProof.Rows.KK κ xs i = k := by
  unfold PyProof.Rows.KK
  rw [h]
  show (κ.keyOf p.1).getD _ = k
  rw [e] <;> rfl
theorem hok_of_same {P : Program} {w : World} {h h' : Heap} (ok : HOk P w H h) (k : ∀ b o, h.get? b = some o → h'.get? b = some o) : HOk P w H h' := ok.kept k
/-- the list at a sorted -/
theorem sort_core {P : Program} {w : World} {A : Around} {E : Value → Shared → Prop} {s : Shared} {a : Addr} {xs : List D} {its : List Value} {R : PySem.Fin → Shared → Prop} (ok : HOk P w H s.heap)
    (ho : s.heap.get? a = some (PyProof.Rows.seqObj "list" its.toArray 0)) (hz : its.length ≤ sizeLine) (t : Paired (Tv K μ H) xs its) (hx : (isInts xs || isTupInts xs) = true)
    (h : ∀ out : List Value, Paired (Tv K μ H) (sortD xs) out → out.length = its.length → R (.done (.ret .none)) { s with heap := PyProof.Rows.sortedHeap s.heap a its out.toArray }) :
    wpAny (model P w) A (Builtin.«list.sort» ⟨[.ref a], []⟩) R E s := by
  rcases (Bool.or_eq_true _ _).mp hx with hx | hx
  · have hi := tv_ints t hx
    refine SrtO.list_sort_ord SrtO.swo_int ho hz (fun h2 => SrtO.ints_sortable hi h2) fun out h1 h2 => ?_
    obtain ⟨k1, k2, k3⟩ := SrtO.ints_out hi h1 h2
    refine h out ?_ h2.perm.length_eq
    have e : sortD xs = (out.map SrtO.iv).map D.int := by
      refine sortD_eq ord_int (isInts_mem hx) ?_ ?_
      · have := k2.map D.int
        rw [← isInts_map hx] at this
        exact this
      · rw [List.pairwise_map]
        exact k3.imp fun {x y} hxy => by
          show decide (y < x) = false
          simpa using hxy
    rw [e]
    exact intsAre_mk k1
  · have hm := isTupInts_mem hx
    obtain ⟨fs, hf⟩ := tv_tups ok t hm
    have hk : ∀ v, v ∈ its → ∃ x ∈ xs, ∃ n, ∃ ns : List Int, x = .tup ((n :: ns).map D.int) ∧ Tv K μ H x v ∧ PyProof.Rows.G.tupKeyC s.heap (fun _ => false) v = some (keyD x) := fun v hv => by
      obtain ⟨x, hx, f⟩ := Paired.all t v hv
      obtain ⟨n, ns, rfl⟩ := hm x hx
      obtain ⟨_, _, q⟩ := tv_tup ok f
      exact ⟨_, hx, n, ns, rfl, f, by rw [q, keyD_tup]⟩
    refine PyProof.Rows.G.list_sort_tups ho hf (fun v hv => let ⟨_, _, _, _, _, _, e⟩ := hk v hv; ⟨_, e⟩) hz fun st' a1 a2 _ => ?_
    have hl : (PyProof.Rows.arrOf st').toList.Perm (its.zip its) := by
      rw [← PyProof.Rows.pairsOf_toList]
      exact Array.perm_iff_toList_perm.mp a1
    have hmem : ∀ p, p ∈ (PyProof.Rows.arrOf st').toList → p.1 = p.2 ∧ p.1 ∈ its := fun p hp => PyProof.Rows.mem_zip_self (hl.mem_iff.mp hp)
    have e2 : ((PyProof.Rows.arrOf st').map (·.2)).toList = (PyProof.Rows.arrOf st').toList.map (·.1) := by
      rw [Array.toList_map]
      exact List.map_congr_left fun p hp => (hmem p hp).1.symm
    have hp : ((PyProof.Rows.arrOf st').toList.map (·.1)).Perm its := by
      have := hl.map (·.1)
      rwa [show (its.zip its).map (·.1) = its from List.map_fst_zip (Nat.le_refl _)] at this
    obtain ⟨xs', p1, q1⟩ := lift_perm hp t
    have hsz : (PyProof.Rows.arrOf st').size = its.length := by
      have := hl.length_eq
      simpa using this
    have hpw : ((PyProof.Rows.arrOf st').toList.map (·.1)).Pairwise fun u v => ∀ k j, PyProof.Rows.G.tupKeyC s.heap (fun _ => false) u = some k → PyProof.Rows.G.tupKeyC s.heap (fun _ => false) v = some j → PyProof.Rows.lexLt PyProof.Rows.itemOrd j k = false := by
      rw [List.pairwise_map, List.pairwise_iff_getElem]
      intro i j hi hj hij k m ek em
      have h1 := a2 i j (Nat.le_of_lt hij) (by rw [PyProof.Rows.pairsOf_size, ← hsz]; simpa using hj)
      rw [kk_at (p := (PyProof.Rows.arrOf st').toList[i]) (by simp at hi ⊢) ek, kk_at (p := (PyProof.Rows.arrOf st').toList[j]) (by simp at hj ⊢) em] at h1
      exact h1
    have hs' : xs'.Pairwise LeD := by
      have hq : Paired (fun x u => x ∈ xs ∧ Tv K μ H x u) xs' ((PyProof.Rows.arrOf st').toList.map (·.1)) := by
        have : ∀ {l : List D} {us : List Value}, Paired (Tv K μ H) l us → (∀ x ∈ l, x ∈ xs) → Paired (fun x u => x ∈ xs ∧ Tv K μ H x u) l us := fun {l us} p => by
          induction p with
          | nil => exact fun _ => .nil
          | cons r t ih => exact fun hh => .cons ⟨hh _ List.mem_cons_self, r⟩ (ih fun x hx => hh x (List.mem_cons_of_mem _ hx))
        exact this q1 fun x hx => p1.mem_iff.mp hx
      refine Paired.pw (fun x y u v ⟨hx, tx⟩ ⟨hy, ty⟩ hs => ?_) hq hpw
      obtain ⟨n, ns, rfl⟩ := hm x hx
      obtain ⟨m, ms, rfl⟩ := hm y hy
      obtain ⟨_, _, k1⟩ := tv_tup ok tx
      obtain ⟨_, _, k2⟩ := tv_tup ok ty
      show ltB _ _ = false
      rw [ltB_tup ⟨_, rfl⟩ ⟨_, rfl⟩, keyD_tup, keyD_tup]
      exact hs _ _ k1 k2
    have e : sortD xs = xs' := sortD_eq ord_tup (fun y hy => let ⟨n, ns, e⟩ := hm y hy; ⟨_, e⟩) p1 hs'
    have := h ((PyProof.Rows.arrOf st').map (·.2)).toList (by rw [e, e2]; exact q1) (by rw [e2, hp.length_eq])
    rw [Array.toArray_toList] at this
    exact this
end
theorem Paired.at_right {α β : Type} {F : α → β → Prop} : ∀ {xs : List α} {us : List β}, Paired F xs us → ∀ {j : Nat} {u : β}, us[j]? = some u → ∃ x, xs[j]? = some x ∧ F x u
  | _, _, .nil, j, u, e => by simp at e
  | _, _, .cons r t, 0, u, e => by
    cases (show some _ = some u from e)
    exact ⟨_, rfl, r⟩
  | _, _, .cons r t, j + 1, u, e => by simpa using Paired.at_right t (show _ from by simpa using e)
section
variable {X : Cx}
theorem sorted_seq {pins : List (Addr × Obj)} {s : Shared} {σ : L2.St} {H : Hp} {Q : VK} {μ : List Addr} {h : Hc} {a : Addr} {xs : List D} {vs : List V} {fr : Bool} (I : Inv X pins σ H s) (R : Rh X.K μ H h) (hs : (∃ its, Vals vs its ∧ PlainL s.heap a its.toArray ∧ vs.length ≤ sizeLine) ∨ ∃ its, Vals vs its ∧ IsTup s.heap a its.toArray ∧ vs.length ≤ sizeLine)
    (t : Rvs X.K μ H xs vs) (hx : (isInts xs || isTupInts xs) = true) (p : Post X.K μ H (newL fr (sortD xs) h) Q) : wpAny (model X.prog X.w) X.A (call (.builtin "sorted") [.ref a]) (EP X pins σ Q) X.xe s := by
  obtain ⟨its, T, o, n, hT, rv, ho, hc, hd, hz⟩ : ∃ (its : List Value) (T : String) (o : Obj) (n : Nat), (T = "list" ∨ T = "tuple") ∧ Vals vs its ∧ s.heap.get? a = some o ∧ o.cls = .type T ∧ o.data = .seq its.toArray n ∧ its.length ≤ sizeLine := by
    rcases hs with ⟨its, rv, ⟨o, n, ho, hc, _, hd⟩, hz⟩ | ⟨its, rv, ⟨o, ho, hc, n, hd⟩, hz⟩
    · exact ⟨its, _, o, n, .inl rfl, rv, ho, hc, hd, by rw [← rv.length]; exact hz⟩
    · exact ⟨its, _, o, n, .inr rfl, rv, ho, hc, hd, by rw [← rv.length]; exact hz⟩
  refine Calls.call_function_entry PyProof.Rows.kind_sorted PyProof.Rows.plain_sorted PyProof.Rows.entry_sorted (PyProof.Rows.args_sorted1 _) ?_
  unfold Builtin.«sorted»
  refine wpAny_bind (m := checkCount "sorted" 1 1 _) (wpAny_pure ?_)
  refine wpAny_bind (wpAny_collect_seq a hT ho hc hd (fun h' hk => ?_) (by simpa using hz))
  refine wpAny_bind (wpAny_newList ?_ (by simpa using hz))
  have hoL : (h'.push (PyProof.Rows.seqObj "list" its.toArray.toList.toArray 0)).get? h'.objs.size = some (PyProof.Rows.seqObj "list" its.toArray.toList.toArray 0) := Heap.get?_push_size _ rfl
  show wpAny _ _ _ _ _ { s with heap := h'.push (PyProof.Rows.seqObj "list" its.toArray.toList.toArray 0) }
  have I1 : Inv X pins σ H { s with heap := h' } := I.kept hk
  have ok2 : HOk X.prog X.w H (h'.push (PyProof.Rows.seqObj "list" its.toArray.toList.toArray 0)) := I1.hok.kept fun b o e => Heap.get?_push_of_some _ e
  refine wpAny_bind (wpAny_holding (wpAny_call_entry PyProof.Rows.slot_list_sort ⟨_, hoL, rfl⟩ PyProof.Rows.entry_list_sort
    (sort_core (s := { s with heap := h'.push (PyProof.Rows.seqObj "list" its.toArray.toList.toArray 0) }) ok2 hoL (by simpa using hz) (Tv.of t rv) hx fun out ho hl => ⟨_, rfl, ?_⟩) (PyProof.Rows.args_list_sort _)))
  obtain ⟨e', he'⟩ := PyProof.Rows.sortedHeap_at (vs := its.toArray.toList) (out := out.toArray) hoL
  obtain ⟨ws, w1, w2⟩ := Tv.to ho
  have hlen : ws.length ≤ sizeLine := by
    rw [w2.length, hl]
    simpa using hz
  refine wpAny_pure ⟨_, rfl, .ref h'.objs.size, upd H h'.objs.size (.lst ws), I1.laid (t' := s.toks) (fun b u e => ?_) (Nat.le_refl _)
    (show ObjOk X.prog X.w _ _ _ (.lst ws) from ⟨hlen, out, e', w2, he'⟩), rfl, p.newL R w1 _ (I1.hok.fresh (Nat.le_refl _))⟩
  have hb : b < h'.objs.size := Heap.lt_size e
  rw [PyProof.Rows.sortedHeap_old (Nat.ne_of_lt hb) (by rw [PyProof.Rows.size_push']; exact Nat.lt_succ_of_lt hb)]
  exact Heap.get?_push_of_some _ e
/-- a dict's keys, clean and real -/
theorem keys_rv {K : PySem.W.Frag} {μ : List Addr} {H : Hp} {h : Hc} {d : D} {v : V} {ks : List D} (R : Rh K μ H h) (r : Rv K μ H d v) (e : dKeys h d = some ks) :
    ∃ a, v = .ref a ∧ ((∃ kvs, Rd H a (.dK kvs) ∧ ks = kvs.map fun kv => dK kv.1) ∨ ∃ kvs, Rd H a (.dT kvs) ∧ ks = kvs.map fun kv => dT kv.1) := by
  have mk : ∀ {kvs : List (Key × D)} {ws : List (Key × V)}, ws.map (·.1) = kvs.map (·.1) → (kvs.map fun kv => dK kv.1) = ws.map fun kv => dK kv.1 := fun {kvs ws} e => by
    have := congrArg (List.map dK) e
    rw [List.map_map, List.map_map] at this
    exact this.symm
  have mt : ∀ {kvs : List (List Key × D)} {ws : List (List Key × V)}, ws.map (·.1) = kvs.map (·.1) → (kvs.map fun kv => dT kv.1) = ws.map fun kv => dT kv.1 := fun {kvs ws} e => by
    have := congrArg (List.map dT) e
    rw [List.map_map, List.map_map] at this
    exact this.symm
  unfold dKeys at e
  split at e
  · simp only [Rv] at r
    obtain ⟨a, rfl, hn⟩ := r
    obtain ⟨o, ho, ro⟩ := R.lt hn
    refine ⟨a, rfl, ?_⟩
    split at e
    · rename_i hg
      rw [hg] at ho
      cases ho
      cases e
      obtain ⟨ws, q, k, _⟩ := ro
      exact .inl ⟨ws, .inl q, mk k⟩
    · rename_i hg
      rw [hg] at ho
      cases ho
      cases e
      obtain ⟨o, ws, q, k, _⟩ := ro
      exact .inl ⟨ws, .inr ⟨o, q⟩, mk k⟩
    · rename_i hg
      rw [hg] at ho
      cases ho
      cases e
      obtain ⟨ws, q, k, _⟩ := ro
      exact .inr ⟨ws, .inl q, mt k⟩
    · rename_i hg
      rw [hg] at ho
      cases ho
      cases e
      obtain ⟨o, ws, q, k, _⟩ := ro
      exact .inr ⟨ws, .inr ⟨o, q⟩, mt k⟩
    · cases e
  · cases e
    simp only [Rv] at r
    obtain ⟨a, kvs, rfl, _, q, rfl, _⟩ := r
    exact ⟨a, rfl, .inl ⟨kvs, q, by rw [List.map_map]; rfl⟩⟩
  · cases e
    simp only [Rv] at r
    obtain ⟨a, kvs, rfl, _, q, rfl, _⟩ := r
    exact ⟨a, rfl, .inr ⟨kvs, q, by rw [List.map_map]; rfl⟩⟩
  · cases e
theorem rvs_dK {K : PySem.W.Frag} {μ : List Addr} {H : Hp} : ∀ k : List Key, Rvs K μ H (k.map dK) (k.map kV)
  | [] => Rvs.nil
  | .inl i :: r => ⟨.int i, _, rfl, by simp only [Rv, dK], rvs_dK r⟩
  | .inr x :: r => ⟨.str x, _, rfl, by simp only [Rv, dK], rvs_dK r⟩
theorem paired_at {α β : Type} {F : α → β → Prop} : ∀ {xs : List α} {us : List β}, us.length = xs.length → (∀ (j : Nat) (u : β), us[j]? = some u → ∃ x, xs[j]? = some x ∧ F x u) → Paired F xs us
  | [], [], _, _ => .nil
  | x :: xs, u :: us, hl, h => by
    obtain ⟨y, e, f⟩ := h 0 u rfl
    cases (show some x = some y from e)
    exact .cons f (paired_at (by simpa using hl) fun j v e => by simpa using h (j + 1) v (by simpa using e))
  | [], _ :: _, hl, _ => by simp at hl
  | _ :: _, [], hl, _ => by simp at hl
/-- what is left of sorted(..) behind the copy -/
theorem sorted_rest {pins : List (Addr × Obj)} {s : Shared} {σ : L2.St} {H : Hp} {Q : VK} {μ : List Addr} {h : Hc} {a : Addr} {xs : List D} {fr : Bool} (I : Inv X pins σ H s) (R : Rh X.K μ H h)
    (col : ∀ {B : List Value → Shared → Prop} {E : Value → Shared → Prop}, (∀ (h' : Heap) (tk : Nat) (acc : List Value), (∀ b o, s.heap.get? b = some o → h'.get? b = some o) → Paired (Tv X.K μ H) xs acc → B acc { s with heap := h', toks := tk }) → wpAny (model X.prog X.w) X.A.in1 (collect (.ref a)) B E s)
    (hz : xs.length ≤ sizeLine) (hx : (isInts xs || isTupInts xs) = true) (p : Post X.K μ H (newL fr (sortD xs) h) Q) : wpAny (model X.prog X.w) X.A (call (.builtin "sorted") [.ref a]) (EP X pins σ Q) X.xe s := by
  refine Calls.call_function_entry PyProof.Rows.kind_sorted PyProof.Rows.plain_sorted PyProof.Rows.entry_sorted (PyProof.Rows.args_sorted1 _) ?_
  unfold Builtin.«sorted»
  refine wpAny_bind (m := checkCount "sorted" 1 1 _) (wpAny_pure ?_)
  refine wpAny_bind (col fun h' tk acc hk t => ?_)
  have al : acc.length = xs.length := (Paired.length t).symm
  refine wpAny_bind (wpAny_newList ?_ (by rw [al]; exact hz))
  have hoL : (h'.push (PyProof.Rows.seqObj "list" acc.toArray 0)).get? h'.objs.size = some (PyProof.Rows.seqObj "list" acc.toArray 0) := Heap.get?_push_size _ rfl
  show wpAny _ _ _ _ _ { s with heap := h'.push (PyProof.Rows.seqObj "list" acc.toArray 0), toks := tk }
  have I1 : Inv X pins σ H { s with heap := h', toks := tk } := I.kept hk
  have ok2 : HOk X.prog X.w H (h'.push (PyProof.Rows.seqObj "list" acc.toArray 0)) := I1.hok.kept fun b o e => Heap.get?_push_of_some _ e
  refine wpAny_bind (wpAny_holding (wpAny_call_entry PyProof.Rows.slot_list_sort ⟨_, hoL, rfl⟩ PyProof.Rows.entry_list_sort
    (sort_core (s := { s with heap := h'.push (PyProof.Rows.seqObj "list" acc.toArray 0), toks := tk }) ok2 hoL (by rw [al]; exact hz) t hx fun out ho hl => ⟨_, rfl, ?_⟩) (PyProof.Rows.args_list_sort _)))
  obtain ⟨e', he'⟩ := PyProof.Rows.sortedHeap_at (vs := acc) (out := out.toArray) hoL
  obtain ⟨ws, w1, w2⟩ := Tv.to ho
  have hlen : ws.length ≤ sizeLine := by
    rw [w2.length, hl, al]
    exact hz
  refine wpAny_pure ⟨_, rfl, .ref h'.objs.size, upd H h'.objs.size (.lst ws), I1.laid (t' := tk) (fun b u e => ?_) (Nat.le_refl _)
    (show ObjOk X.prog X.w _ _ _ (.lst ws) from ⟨hlen, out, e', w2, he'⟩), rfl, p.newL R w1 _ (I1.hok.fresh (Nat.le_refl _))⟩
  have hb : b < h'.objs.size := Heap.lt_size e
  rw [PyProof.Rows.sortedHeap_old (Nat.ne_of_lt hb) (by rw [PyProof.Rows.size_push']; exact Nat.lt_succ_of_lt hb)]
  exact Heap.get?_push_of_some _ e
theorem sorted_keys (hc : X.calm = true) {pins : List (Addr × Obj)} {s : Shared} {σ : L2.St} {H : Hp} {Q : VK} {μ : List Addr} {h : Hc} {a : Addr} {ks : List D} {fr : Bool} (I : Inv X pins σ H s) (R : Rh X.K μ H h)
    (hd : (∃ kvs, Rd H a (.dK kvs) ∧ ks = kvs.map fun kv => dK kv.1) ∨ ∃ kvs, Rd H a (.dT kvs) ∧ ks = kvs.map fun kv => dT kv.1) (hx : (isInts ks || isTupInts ks) = true) (p : Post X.K μ H (newL fr (sortD ks) h) Q) :
    wpAny (model X.prog X.w) X.A (call (.builtin "sorted") [.ref a]) (EP X pins σ Q) X.xe s := by
  rcases hd with ⟨kvs, hd, rfl⟩ | ⟨kvs, hd, rfl⟩
  · obtain ⟨z, lo, vs, rel, dd⟩ := dk_rd I.hok hd
    obtain ⟨ep, hat⟩ := dd.dictAt
    refine sorted_rest I R (fun {B E} q => PySem.W.kdu_collect (A := X.A.in1) (PySem.W.kdl_dict (knd := mixKind X.prog X.w) (kvs := vs) (ep := ep) lo) (I.ok.hd hc) hat (by rw [← rel.length]; exact z) fun h' tk acc hk hacc => q h' tk _ hk ?_) (by rw [List.length_map]; exact z) hx p
    refine paired_at (by rw [Array.length_toList, hacc.1, List.length_map, rel.length]) fun j v e => ?_
    obtain ⟨k, x, e1, e2⟩ := hacc.2 j v (by rw [← Array.getElem?_toList]; exact e)
    have e3 : (kvs.map (·.1))[j]? = some k := by rw [rel.keys, List.getElem?_map, e1]; rfl
    rw [List.getElem?_map] at e3
    obtain ⟨kv, e4, e5⟩ := Option.map_eq_some_iff.mp e3
    refine ⟨dK k, by rw [List.getElem?_map, e4, ← e5]; rfl, kV k, ?_, ?_⟩
    · cases k <;> simp only [dK, kV, Rv]
    · rcases keyIs_shape (show keyIs k v = true from e2) with ⟨i, t, ek, ev⟩ | ⟨z, t, ek, ev⟩
      · subst ek
        exact ⟨t, ev⟩
      · subst ek
        exact ⟨t, ev⟩
  · obtain ⟨z, hs, xs, pr, o, es, ep, ho, hx2, hdt, he, hn⟩ := (show ObjOk X.prog X.w H s.heap a (.dT kvs) from hd.ok I.hok)
    have l1 : es.size = xs.length := size_of_entries he
    have l2 : kvs.length = xs.length := Paired.length pr
    refine sorted_rest I R (fun {B E} q => PySem.W.kdu_collect (A := X.A.in1) (kdl_raw hs hx2 hdt) (I.ok.hd hc) ho (by omega) fun h' tk acc hk hacc => q h' tk _ hk ?_) (by rw [List.length_map]; exact z) hx p
    refine paired_at (by rw [Array.length_toList, hacc.1, List.length_map]; omega) fun j v e => ?_
    obtain ⟨en, hen, hv⟩ := hacc.2 j v (by rw [← Array.getElem?_toList]; exact e)
    have qe := entry_at he j
    rw [hen] at qe
    cases hb : xs[j]? with
    | none =>
      rw [hb] at qe
      cases (show some en = none from qe)
    | some b =>
      rw [hb] at qe
      cases (show some en = some (entryOfKey (tupleKind (mixKind X.prog X.w)) b) from qe)
      obtain ⟨kv, e4, f1, f2, _⟩ := Paired.at_right pr hb
      refine ⟨dT kv.1, by rw [List.getElem?_map, e4]; rfl, .ref b.2.1, ?_, hv⟩
      show Rv X.K μ H (.tup (kv.1.map dK)) _
      simp only [Rv]
      exact ⟨_, _, rfl, f2, rvs_dK _⟩
theorem c_sorted (hc : X.calm = true) {fr : Bool} : CallR X (.builtin "sorted") (rN X.K (.sorted fr)) := by
  intro pins s σ H xs us Q I r h
  obtain ⟨μ, h, ds, R, rd, p⟩ := h
  obtain ⟨d, rfl⟩ := one_of (fun ds h hd => by
    match ds, hd with
    | [], _ => rfl
    | [d], hd => exact absurd rfl (hd d)
    | _ :: _ :: _, _ => rfl) p
  obtain ⟨v, rfl, rv⟩ := rd.un1
  obtain ⟨u, rfl, ru⟩ := r.one
  simp only [primN] at p
  split at p
  · rename_i xs e1
    obtain ⟨a, vs, rfl, q, t⟩ := lookT_lst R rv e1
    cases ru
    split at p
    · rename_i hx
      exact sorted_seq I R (.inl (I.list (SqL.of q))) t hx p
    · exact p.elim
  · rename_i xs e1
    obtain ⟨a, vs, rfl, q, t⟩ := lookT_tup R rv e1
    cases ru
    split at p
    · rename_i hx
      exact sorted_seq I R (.inr (I.tuple (.inl q))) t hx p
    · exact p.elim
  · cases hk : dKeys h d with
    | none =>
      rw [hk] at p
      exact p.elim
    | some ks =>
      rw [hk, opt_some] at p
      obtain ⟨a, rfl, hd⟩ := keys_rv R rv hk
      cases ru
      split at p
      · rename_i hx
        exact sorted_keys hc I R hd hx p
      · exact p.elim
end
end Q

/-! QP6: len(set(..)), repr, methods, stores. -/
namespace Q
open PySem PySem.Spec PyProof.Rows L2
def onceI : List Int → List Int → List Int
  | acc, [] => acc
  | acc, x :: xs => if x ∈ acc then onceI acc xs else onceI (acc ++ [x]) xs
theorem onceD_ints : ∀ (ns acc : List Int), onceD (acc.map D.int) (ns.map D.int) = (onceI acc ns).map D.int
  | [], _ => rfl
  | n :: ns, acc => by
    rw [List.map_cons, onceD, onceI]
    have e : (D.int n ∈ acc.map D.int) ↔ n ∈ acc := by simp
    by_cases h : n ∈ acc
    · rw [if_pos (e.mpr h), if_pos h, onceD_ints ns acc]
    · rw [if_neg (fun z => h (e.mp z)), if_neg h, ← onceD_ints ns (acc ++ [n])]
      simp
theorem onceI_nodup : ∀ (ns acc : List Int), acc.Nodup → (onceI acc ns).Nodup
  | [], _, h => h
  | n :: ns, acc, h => by
    rw [onceI]
    split
    · exact onceI_nodup ns acc h
    · rename_i hn
      refine onceI_nodup ns _ (List.nodup_append.mpr ⟨h, by simp, fun a ha b hb e => ?_⟩)
      rw [List.mem_singleton.mp hb] at e
      exact hn (e ▸ ha)
theorem onceI_mem : ∀ (ns acc : List Int) (k : Int), k ∈ onceI acc ns ↔ k ∈ acc ∨ k ∈ ns
  | [], _, _ => by simp [onceI]
  | n :: ns, acc, k => by
    rw [onceI]
    split
    · rename_i hn
      rw [onceI_mem ns acc k, List.mem_cons]
      constructor
      · rintro (h | h)
        · exact .inl h
        · exact .inr (.inr h)
      · rintro (h | h | h)
        · exact .inl h
        · exact .inl (h ▸ hn)
        · exact .inr h
    · rw [onceI_mem ns _ k, List.mem_cons, List.mem_append, List.mem_singleton]
      constructor
      · rintro ((h | h) | h)
        · exact .inl h
        · exact .inr (.inl h)
        · exact .inr (.inr h)
      · rintro (h | h | h)
        · exact .inl (.inl h)
        · exact .inl (.inr h)
        · exact .inr h
theorem nodup_len {l m : List Int} (h : l.Nodup) (g : m.Nodup) (e : ∀ k, k ∈ l ↔ k ∈ m) : l.length = m.length := ((List.perm_ext_iff_of_nodup h g).mpr e).length_eq
theorem firstMet_nd (val : Nat → Int) : ∀ i, (PyProof.Rows.firstMet val i).Nodup
  | 0 => by rw [PyProof.Rows.firstMet_zero]; exact .nil
  | i + 1 => by
    rw [PyProof.Rows.firstMet_succ]
    unfold PyProof.Rows.step_dedup
    split
    · exact firstMet_nd val i
    · rename_i hn
      refine List.nodup_append.mpr ⟨firstMet_nd val i, by simp, fun a ha b hb e => hn ?_⟩
      rw [List.mem_singleton.mp hb] at e
      exact List.any_eq_true.mpr ⟨a, ha, by simp [e]⟩
theorem firstMet_mem (ns : List Int) (k : Int) : k ∈ PyProof.Rows.firstMet (fun i => ns.getD i 0) ns.length ↔ k ∈ ns := by
  have h := PyProof.Rows.firstMet_any (fun i => ns.getD i 0) ns.length k
  have e : (List.range ns.length).map (fun i => ns.getD i 0) = ns := by
    apply List.ext_getElem
    · simp
    · intro i h1 h2
      simp [List.getD_eq_getElem?_getD, h2]
  rw [e] at h
  constructor
  · intro hk
    have : (PyProof.Rows.firstMet (fun i => ns.getD i 0) ns.length).any (· == k) = true := List.any_eq_true.mpr ⟨k, hk, by simp⟩
    rw [h] at this
    obtain ⟨x, hx, ex⟩ := List.any_eq_true.mp this
    rw [← beq_iff_eq.mp ex]
    exact hx
  · intro hk
    have : ns.any (· == k) = true := List.any_eq_true.mpr ⟨k, hk, by simp⟩
    rw [← h] at this
    obtain ⟨x, hx, ex⟩ := List.any_eq_true.mp this
    rw [← beq_iff_eq.mp ex]
    exact hx
theorem firstMet_len (ns : List Int) : (PyProof.Rows.firstMet (fun i => ns.getD i 0) ns.length).length = (onceI [] ns).length :=
  nodup_len (firstMet_nd _ _) (onceI_nodup ns [] .nil) fun k => by rw [firstMet_mem, onceI_mem]; simp
section
variable {X : Cx} {e : Expr} {te : TE} {p p2 q pos : Pos}
/-- len(set(x)) -/
theorem pe_lenSet (hc : X.calm = true) (hg : Gl X "len") (hm : X.mg "len" = none) (hg2 : Gl X "set") (hm2 : X.mg "set" = none) (ha : PE X e te)
    (na : starEach [e] X.env = (false, eval e X.env) :: starEach [] X.env) : PE X (.Call (.Name "len" p) [.Call (.Name "set" p2) [e] [] q] [] pos) (fun σ H Q => te σ H fun x H1 => rN X.K .lenSet [x] H1 Q) := by
  refine ⟨fun pins s σ H Q I h => ?_⟩
  refine Call_ (ld_blt I hg hm PySem.boot_len ?_)
  refine PyProof.Rows.callWith_builtin1 (PyProof.Rows.args_cons ?_ rfl) rfl rfl
  refine Call_ (ld_blt I hg2 hm2 PyProof.Rows.boot_set ?_)
  refine PyProof.Rows.callWith_type1 (PyProof.Rows.args_cons (thn (ha.run pins s σ H _ I h) fun v s1 ⟨x, H1, I1, r1, q1⟩ => PyProof.Rows.args_nil ?_) na) na rfl
  obtain ⟨μ, h, ds, R, rd, p⟩ := q1
  obtain ⟨d, rfl⟩ := one_of (fun ds h hd => by
    match ds, hd with
    | [], _ => rfl
    | [d], hd => exact absurd rfl (hd d)
    | _ :: _ :: _, _ => rfl) p
  obtain ⟨v', ev, rv⟩ := rd.un1
  cases ev
  simp only [primN] at p
  have big : ∀ n : Nat, n ≤ 4000 → n + 1 < scanBound := fun n hn => by unfold scanBound; omega
  split at p
  · rename_i xs e1
    obtain ⟨a, vs, rfl, q, t⟩ := lookT_tup R rv e1
    cases r1
    split at p
    · rename_i hx
      simp only [Bool.and_eq_true, decide_eq_true_eq] at hx
      obtain ⟨its, rr, pl, hz⟩ := I1.tuple (.inl q)
      have hi := tv_ints (Tv.of t rr) hx.1
      have hl : xs.length = its.length := t.length.trans rr.length
      refine call_set_tupI (xs.map unI) (I1.ok.hd hc) (show s1.heap.IsTuple a its.toArray from pl) (by simpa using hi) (by rw [List.length_map]; exact big _ hx.2) fun h' tk c hS hcl hk => ?_
      refine PyProof.Rows.args_nil ?_
      obtain ⟨o, es, ep, tt, ho, hex, hd, hge, hnd, hmem, hb, hf, hn, _⟩ := hS
      have I2 : Inv X pins σ H1 { s1 with heap := h', toks := tk } := I1.kept hk
      have hlen : es.size = (onceD [] xs).length := by
        have e2 : onceD [] xs = (onceI [] (xs.map unI)).map D.int := by
          rw [← onceD_ints, ← isInts_map hx.1] <;> rfl
        rw [e2, List.length_map, ← Array.length_toList, ← List.length_map (f := keyOf)]
        refine nodup_len hnd (onceI_nodup _ _ .nil) fun k => ?_
        rw [← hmem k, onceI_mem]
        simp
      refine call_len_set ho hex hd hf (by have : scanBound < 2 ^ 63 := by unfold scanBound; decide
                                           omega) ⟨.int es.size, H1, I2.tok _, ⟨_, rfl⟩, ?_⟩
      rw [← hlen] at p
      exact p.int R
    · exact p.elim
  · rename_i xs e1
    obtain ⟨a, vs, rfl, q, t⟩ := lookT_lst R rv e1
    cases r1
    split at p
    · rename_i hx
      simp only [Bool.and_eq_true, decide_eq_true_eq] at hx
      obtain ⟨its, rr, pl, hz⟩ := I1.list (SqL.of q)
      have hi := tv_ints (Tv.of t rr) hx.1
      have hl : xs.length = its.length := t.length.trans rr.length
      refine call_set_list (I1.ok.hd hc) pl.isList (ns := xs.map unI) (by simpa using hi) (by rw [List.size_toArray, ← hl]; exact big _ hx.2) fun h' tk hS hk => ?_
      refine PyProof.Rows.args_nil ?_
      obtain ⟨o, es, ep, tt, ho, hex, hd, _, _, hb, hf, hn⟩ := hS
      have I2 : Inv X pins σ H1 { s1 with heap := h', toks := tk } := I1.kept fun b o e => hk b o (Heap.lt_size e) e
      have hlen : es.size = (onceD [] xs).length := by
        have e2 : onceD [] xs = (onceI [] (xs.map unI)).map D.int := by
          rw [← onceD_ints, ← isInts_map hx.1] <;> rfl
        have e3 : its.toArray.size = (xs.map unI).length := by rw [List.size_toArray, List.length_map, hl]
        rw [hn, e3, firstMet_len, e2, List.length_map]
      refine call_len_set ho hex hd hf (by have : scanBound < 2 ^ 63 := by unfold scanBound; decide
                                           omega) ⟨.int es.size, H1, I2.tok _, ⟨_, rfl⟩, ?_⟩
      rw [← hlen] at p
      exact p.int R
    · exact p.elim
  · exact p.elim
/-! repr -/
mutual
theorem py_nodict : ∀ (d : D) (p : PyData), d.py = some p → p.hasDict = false
  | .non, p, e => by simp only [D.py, Option.some.injEq] at e; subst e; simp [PyData.hasDict]
  | .bl _, p, e => by simp only [D.py, Option.some.injEq] at e; subst e; simp [PyData.hasDict]
  | .int _, p, e => by simp only [D.py, Option.some.injEq] at e; subst e; simp [PyData.hasDict]
  | .str _, p, e => by simp only [D.py, Option.some.injEq] at e; subst e; simp [PyData.hasDict]
  | .tup xs, p, e => by
    simp only [D.py, Option.map_eq_some_iff] at e
    obtain ⟨ps, e, rfl⟩ := e
    simpa [PyData.hasDict] using pys_nodict xs ps e
  | .lst xs, p, e => by
    simp only [D.py, Option.map_eq_some_iff] at e
    obtain ⟨ps, e, rfl⟩ := e
    simpa [PyData.hasDict] using pys_nodict xs ps e
  | .ftp xs, p, e => by
    simp only [D.py, Option.map_eq_some_iff] at e
    obtain ⟨ps, e, rfl⟩ := e
    simpa [PyData.hasDict] using pys_nodict xs ps e
  | .dk _ _, _, e | .dt _ _, _, e | .scr _, _, e | .exc _, _, e | .ref _, _, e => by simp [D.py] at e
theorem pys_nodict : ∀ (ds : List D) (ps : List PyData), D.pys ds = some ps → PyData.hasDictAll ps = false
  | [], ps, e => by simp only [D.pys, Option.some.injEq] at e; subst e; simp [PyData.hasDictAll]
  | d :: ds, ps, e => by
    simp only [D.pys, Option.bind_eq_some_iff, Option.map_eq_some_iff] at e
    obtain ⟨p, e1, ps', e2, rfl⟩ := e
    simp [PyData.hasDictAll, py_nodict d p e1, pys_nodict ds ps' e2]
end
theorem c_repr (hg : X.A.guards = some []) (hu : X.A.units + 66 < cLine) : CallR X (.builtin "repr") (rN X.K .repr) := by
  intro pins s σ H xs us Q I r h
  obtain ⟨μ, h, ds, R, rd, p⟩ := h
  obtain ⟨d, rfl⟩ := one_of (fun ds h hd => by
    match ds, hd with
    | [], _ => rfl
    | [d], hd => exact absurd rfl (hd d)
    | _ :: _ :: _, _ => rfl) p
  obtain ⟨v, rfl, rv⟩ := rd.un1
  obtain ⟨u, rfl, ru⟩ := r.one
  simp only [primN] at p
  obtain ⟨x, ex, p⟩ := opt_post p
  unfold dRepr at ex
  split at ex
  · rename_i pd e1
    split at ex
    · rename_i hc
      cases ex
      simp only [Bool.and_eq_true, decide_eq_true_eq] at hc
      have dp := Dp.thaw R 3 _ _ _ rv e1
      have fin : ∀ h' t tk, (∀ b o, s.heap.get? b = some o → h'.get? b = some o) → EP X pins σ Q (.str pd.shown t) { s with heap := h', toks := tk } := fun h' t tk hk => ⟨.str pd.shown, H, I.kept hk, ⟨t, rfl⟩, p.str R⟩
      have fin0 : ∀ t tk, EP X pins σ Q (.str pd.shown t) { s with toks := tk } := fun t tk => ⟨.str pd.shown, H, I.tok tk, ⟨t, rfl⟩, p.str R⟩
      obtain ⟨as, rr⟩ := Dp.reads I pd v u dp ru
      cases dp with
      | non => cases ru; exact P.repr_of_none (fin0 _ _)
      | bl b => cases ru; exact P.repr_of_bool (fin0 _ _)
      | int i =>
        obtain ⟨t, rfl⟩ := ru
        refine P.repr_of_int ?_ (fin0 _ _)
        have := hc.1.1
        simpa [PyData.showable] using this
      | str x => obtain ⟨t, rfl⟩ := ru; exact P.repr_of_str (fin0 _ _) hc.2
      | lst hs ha =>
        cases ru
        exact repr_of_reads' rr hc.1.1 (PyData.noDict_hsm (py_nodict _ _ e1)) hg (by omega) (fun _ _ e => e) (fun h' t tk hk => fin h' t tk hk) hc.2
      | tup hs ha =>
        cases ru
        exact repr_of_reads' rr hc.1.1 (PyData.noDict_hsm (py_nodict _ _ e1)) hg (by omega) (fun _ _ e => e) (fun h' t tk hk => fin h' t tk hk) hc.2
    · cases ex
  · cases ex

/-! ### methods -/
def rM (K : PySem.W.Frag) (q : P) : V → List V → Hp → VK → Prop := fun x vs H Q => ∃ μ h d ds, Rh K μ H h ∧ Rv K μ H d x ∧ Rvs K μ H ds vs ∧ Post K μ H (primM q d ds h) Q
theorem ref_lst {K : PySem.W.Frag} {μ : List Addr} {H : Hp} {h : Hc} (R : Rh K μ H h) {n : Nat} {x : V} {xs : List D} (rd : Rv K μ H (.ref n) x) (e : h[n]? = some (.lst xs)) : ∃ a vs, x = .ref a ∧ μ[n]? = some a ∧ H a = some (.lst vs) ∧ Rvs K μ H xs vs := by
  simp only [Rv] at rd
  obtain ⟨a, rfl, hn⟩ := rd
  obtain ⟨o, ho, ro⟩ := R.lt hn
  rw [e] at ho
  cases ho
  obtain ⟨vs, q, t⟩ := ro
  exact ⟨a, vs, rfl, hn, q, t⟩
theorem Post.put {K : PySem.W.Frag} {μ : List Addr} {H : Hp} {h : Hc} {d : D} {v : V} {Q : VK} {n : Nat} {a : Addr} {xs : List D} {vs ws : List V} (p : Post K μ H (.ok d (h.set n (.lst xs))) Q) (R : Rh K μ H h) (hn : μ[n]? = some a) (q : H a = some (.lst ws)) (t : Rvs K μ H xs vs) (r : Rv K μ H d v) : Q v (upd H a (.lst vs)) := by
  have X : Ext μ H μ (upd H a (.lst vs)) := Ext.put (List.mem_of_getElem? hn) (fun o w z => by rw [q] at z; cases z) fun xs => R.notup (List.mem_of_getElem? hn)
  obtain ⟨x1, x2⟩ := R.put (o := .lst xs) (u := .lst vs) hn (fun o w z => by rw [q] at z; cases z) ⟨vs, upd_same, Rvs.ext X _ _ t⟩
  exact p v μ _ x1 x2 (Rv.ext X _ _ r)
theorem Rvs.dropLast {K : PySem.W.Frag} {μ : List Addr} {H : Hp} {xs : List D} {vs : List V} (t : Rvs K μ H xs vs) : Rvs K μ H xs.dropLast vs.dropLast := by
  rw [List.dropLast_eq_take, List.dropLast_eq_take, t.length]
  exact t.take _
theorem Rvs.eraseIdx {K : PySem.W.Frag} {μ : List Addr} {H : Hp} {xs : List D} {vs : List V} (t : Rvs K μ H xs vs) (n : Nat) : Rvs K μ H (xs.eraseIdx n) (vs.eraseIdx n) := by
  rw [List.eraseIdx_eq_take_drop_succ, List.eraseIdx_eq_take_drop_succ]
  exact (t.take n).append (t.drop (n + 1))
theorem m_append : MtR X "list.append" (rM X.K .append) := by
  intro pins s σ H x vs v us Q I rx rv h
  obtain ⟨μ, h, d, ds, R, rd, rds, p⟩ := h
  unfold primM at p
  split at p <;> try (first | exact p.elim | (rename_i e; cases e))
  split at p
  · rename_i n w _ xs e
    obtain ⟨a, ws, rfl, hn, q, t⟩ := ref_lst R rd e
    obtain ⟨y, rfl, ry⟩ := rds.un1
    split at p
    · rename_i hl
      exact mt_append pins s σ H _ _ v us Q I rx rv ⟨a, ws, y, rfl, rfl, q, by rw [← t.length]; exact hl, p.put R hn q (t.append (Rvs.one ry)) (by simp only [Rv])⟩
    · exact p.elim
  · exact p.elim

theorem m_pop0 : MtR X "list.pop" (rM X.K .pop0) := by
  intro pins s σ H x vs v us Q I rx rv h
  obtain ⟨μ, h, d, ds, R, rd, rds, p⟩ := h
  unfold primM at p
  split at p <;> try (first | exact p.elim | (rename_i e; cases e))
  split at p
  · rename_i n _ xs e
    obtain ⟨a, ws, rfl, hn, q, t⟩ := ref_lst R rd e
    obtain ⟨z, ez, p⟩ := opt_post p
    obtain ⟨w, ew, rw'⟩ := t.get ez
    cases rds.unnil
    exact mt_pop pins s σ H _ _ v us Q I rx rv ⟨a, ws, w, rfl, rfl, q, by rw [← t.length]; exact ew, p.put R hn q t.dropLast rw'⟩
  · exact p.elim
theorem ixD_seq {n : Nat} {i : Int} {k : Nat} (e : ixD n i = some k) : seqIndex? i n = some k ∧ k < n := by
  have := ixN_seq (n := n) (i := i) (j := k) e
  exact ⟨this.1, this.2.1⟩
theorem m_pop1 : MtR X "list.pop" (rM X.K .pop1) := by
  intro pins s σ H x vs v us Q I rx rv h
  obtain ⟨μ, h, d, ds, R, rd, rds, p⟩ := h
  unfold primM at p
  split at p <;> try (first | exact p.elim | (rename_i e; cases e))
  split at p
  · rename_i n i _ xs e
    obtain ⟨a, ws, rfl, hn, q, t⟩ := ref_lst R rd e
    split at p
    · rename_i hi
      obtain ⟨z, ez, p⟩ := opt_post p
      obtain ⟨k, e1, e2⟩ := Option.bind_eq_some_iff.mp ez
      obtain ⟨d', e3, rfl⟩ := Option.map_eq_some_iff.mp e2
      obtain ⟨w, ew, rw'⟩ := t.get e3
      obtain ⟨y, rfl, ry⟩ := rds.un1
      simp only [Rv] at ry
      subst ry
      refine mt_popAt pins s σ H _ _ v us Q I rx rv ⟨a, ws, i, k, w, rfl, rfl, q, hi.1, hi.2, ?_, ew, p.put R hn q (t.eraseIdx k) rw'⟩
      rw [← t.length]
      exact (ixD_seq e1).1
    · exact p.elim
  · exact p.elim
theorem getD_rv {K : PySem.W.Frag} {μ : List Addr} {H : Hp} {r : Option D} {o : Option V} {d : D} {v : V} (c : (r = none ∧ o = none) ∨ ∃ z w, r = some z ∧ o = some w ∧ Rv K μ H z w) (rd : Rv K μ H d v) : Rv K μ H (r.getD d) (o.getD v) := by
  rcases c with ⟨rfl, rfl⟩ | ⟨z, w, rfl, rfl, h⟩
  · exact rd
  · exact h
theorem m_get1 (hu : X.A.units + 1 < cLine) : MtR X "dict.get" (rM X.K .get1) := by
  intro pins s σ H x vs v us Q I rx rv h
  obtain ⟨μ, h, d, ds, R, rd, rds, p⟩ := h
  unfold primM at p
  split at p <;> try (first | exact p.elim | (rename_i e; cases e))
  obtain ⟨r, er, p⟩ := opt_post p
  obtain ⟨y, rfl, ry⟩ := rds.un1
  obtain ⟨a, o, rfl, g, c⟩ := dGet_rv R rd ry er
  obtain ⟨u, rfl, ru⟩ := rv.one
  cases rx
  exact d_get1 hu I g ru fun w' s' I' rw' => ⟨_, H, I', rw', p.here R (getD_rv c (by simp only [Rv]))⟩
theorem m_get2 (hu : X.A.units + 1 < cLine) : MtR X "dict.get" (rM X.K .get2) := by
  intro pins s σ H x vs v us Q I rx rv h
  obtain ⟨μ, h, d, ds, R, rd, rds, p⟩ := h
  unfold primM at p
  split at p <;> try (first | exact p.elim | (rename_i e; cases e))
  obtain ⟨r, er, p⟩ := opt_post p
  obtain ⟨y, z, rfl, ry, rz⟩ := rds.un2
  obtain ⟨a, o, rfl, g, c⟩ := dGet_rv R rd ry er
  obtain ⟨u, u2, rfl, ru, ru2⟩ := rv.two
  cases rx
  exact d_get2 hu I g ru ru2 fun w' s' I' rw' => ⟨_, H, I', rw', p.here R (getD_rv c rz)⟩
theorem findD_some {x : PyData} : ∀ {ps : List PyData} {k : Nat}, findD x ps = some k → ∃ z, ps[k]? = some z ∧ PyData.eqv z x = true ∧ ∀ (m : Nat) z', m < k → ps[m]? = some z' → PyData.eqv z' x = false
  | [], _, e => by simp [findD] at e
  | y :: ys, k, e => by
    rw [findD] at e
    split at e
    · rename_i h
      cases e
      exact ⟨y, rfl, h, fun m z' hm => absurd hm (Nat.not_lt_zero _)⟩
    · rename_i h
      obtain ⟨j, e1, rfl⟩ := Option.map_eq_some_iff.mp e
      obtain ⟨z, h1, h2, h3⟩ := findD_some e1
      refine ⟨z, by simpa using h1, h2, fun m z' hm hz => ?_⟩
      cases m with
      | zero =>
        simp at hz
        subst hz
        simpa using h
      | succ m => exact h3 m z' (by omega) (by simpa using hz)
theorem dIndex_some {h : Hc} {xs : List D} {x : D} {k : Nat} (e : dIndex h xs x = some k) : ∃ ps p, D.pys (xs.map (Q.thaw h 2)) = some ps ∧ (Q.thaw h 2 x).py = some p ∧ SeqAt.shaped (.list ps) = true ∧ SeqAt.shaped p = true ∧ findD p ps = some k := by
  unfold dIndex at e
  split at e
  · rename_i ps p e1 e2
    split at e
    · rename_i hs
      simp only [Bool.and_eq_true] at hs
      exact ⟨ps, p, e1, e2, hs.1, hs.2, e⟩
    · cases e
  · cases e
theorem m_index (hu : X.A.units + 65 < cLine) : MtR X "list.index" (rM X.K .index) := by
  intro pins s σ H x vs v us Q I rx rv h
  obtain ⟨μ, h, d, ds, R, rd, rds, p⟩ := h
  unfold primM at p
  split at p <;> try (first | exact p.elim | (rename_i e; cases e))
  split at p
  · rename_i xs e
    obtain ⟨a, ws, rfl, q, t⟩ := look_lst R rd e
    obtain ⟨k, ek, p⟩ := opt_post p
    obtain ⟨ps, pd, e1, e2, s1, s2, e3⟩ := dIndex_some ek
    obtain ⟨z, z1, z2, z3⟩ := findD_some e3
    obtain ⟨y, rfl, ry⟩ := rds.un1
    exact mt_indexD hu pins s σ H _ _ v us Q I rx rv ⟨a, y, pd, ps, k, z, rfl, rfl, .lst (SqL.of q) (Dps.thaw R 2 t e1), Dp.thaw R 2 _ _ _ ry e2, s1, s2, z1, z2, z3, p.int R⟩
  · exact p.elim
theorem m_indexT (hu : X.A.units + 65 < cLine) : MtR X "tuple.index" (rM X.K .indexT) := by
  intro pins s σ H x vs v us Q I rx rv h
  obtain ⟨μ, h, d, ds, R, rd, rds, p⟩ := h
  unfold primM at p
  split at p <;> try (first | exact p.elim | (rename_i e; cases e))
  split at p
  · rename_i xs
    simp only [Rv] at rd
    obtain ⟨a, o', ws, rfl, q, hn, t⟩ := rd
    obtain ⟨k, ek, p⟩ := opt_post p
    obtain ⟨ps, pd, e1, e2, s1, s2, e3⟩ := dIndex_some ek
    obtain ⟨z, z1, z2, z3⟩ := findD_some e3
    obtain ⟨y, rfl, ry⟩ := rds.un1
    obtain ⟨uy, rfl, ru⟩ := rv.one
    cases rx
    obtain ⟨bs, r1⟩ := Dp.reads I pd y uy (Dp.thaw R 2 _ _ _ ry e2) ru
    have hxs : PyData.canLayAll0 ps = true := SeqAt.canLay_of_shaped s1
    have hroom : X.A.units + 1 + min (PyData.depthAll ps) pd.depth < cLine := room_in_shaped s2 hu
    obtain ⟨its, rv, ⟨⟨cls, dd, data, sls⟩, ho, hc, n, hdt⟩, hlen⟩ := I.tuple (.inl (.inr ⟨o', q⟩))
    simp only at hc hdt
    subst hc hdt
    obtain ⟨as, h4⟩ := Dp.readsAll I ps _ its (Dps.thaw R 2 t e1) rv
    have hn : its.length = ps.length := SeqAt.ReadsAll.length ps its as h4
    have hmap : its.map (SeqAt.readOf s.heap) = ps := SeqAt.readsAll_map ps its as hxs h4
    obtain ⟨hjd, _⟩ := List.getElem?_eq_some_iff.mp z1
    have hj : k < its.toArray.size := by
      rw [List.size_toArray]
      omega
    have at_ : ∀ (m : Nat) (hm : m < its.toArray.size) (z' : PyData), ps[m]? = some z' → SeqAt.readOf s.heap its.toArray[m] = z' := by
      intro m hm z' hz'
      have hml : m < its.length := by simpa using hm
      rw [← hmap, List.getElem?_map, List.getElem?_eq_getElem hml] at hz'
      have e1 : SeqAt.readOf s.heap its[m] = z' := Option.some.inj (show some (SeqAt.readOf s.heap its[m]) = some z' from hz')
      simpa using e1
    refine call_meets PySem.F.slot_tuple_index ⟨_, ho, rfl⟩ PySem.F.entry_tuple_index (PySem.F.args_tuple_index_2 _ _)
      (TI.tuple_indexAt a its.toArray n dd sls uy (fun u => PyData.eqv (SeqAt.readOf s.heap u) pd) k hj ?_ ?_) ⟨ho, SeqAt.items_eqAt (vs := its.toArray) (show ReadsAll s.heap its.toArray.toList ps as from h4) r1 hxs (SeqAt.canLay_of_shaped s2) hroom, ?_⟩
    · rw [at_ k hj z z1]
      exact z2
    · intro m hm hmk
      have hmp : m < ps.length := by omega
      rw [at_ m hm ps[m] (List.getElem?_eq_getElem hmp)]
      exact z3 m _ hmk (List.getElem?_eq_getElem hmp)
    · exact ⟨.int (k : Nat), H, I.tok _, ⟨_, rfl⟩, p.int R⟩
  · exact p.elim
theorem dCount_some {h : Hc} {xs : List D} {x : D} {k : Nat} (ek : dCount h xs x = some k) : ∃ ps p, D.pys (xs.map (Q.thaw h 2)) = some ps ∧ (Q.thaw h 2 x).py = some p ∧ SeqAt.shaped (.list ps) = true ∧ SeqAt.shaped p = true ∧ k = ps.countP fun z => PyData.eqv z p := by
  unfold dCount at ek
  split at ek
  · rename_i ps p e1 e2
    split at ek
    · rename_i hs
      simp only [Bool.and_eq_true] at hs
      exact ⟨ps, p, e1, e2, hs.1, hs.2, (Option.some.inj ek).symm⟩
    · cases ek
  · cases ek
theorem m_count (hu : X.A.units + 65 < cLine) : MtR X "list.count" (rM X.K .count) := by
  intro pins s σ H x vs v us Q I rx rv h
  obtain ⟨μ, h, d, ds, R, rd, rds, p⟩ := h
  unfold primM at p
  split at p <;> try (first | exact p.elim | (rename_i e; cases e))
  split at p
  · rename_i xs e
    obtain ⟨a, ws, rfl, q, t⟩ := look_lst R rd e
    obtain ⟨k, ek, p⟩ := opt_post p
    obtain ⟨ps, pd, e1, e2, s1, s2, e3⟩ := dCount_some ek
    obtain ⟨y, rfl, ry⟩ := rds.un1
    obtain ⟨uy, rfl, ru⟩ := rv.one
    cases rx
    obtain ⟨bs, r1⟩ := Dp.reads I pd y uy (Dp.thaw R 2 _ _ _ ry e2) ru
    have hxs : PyData.canLayAll0 ps = true := SeqAt.canLay_of_shaped s1
    have hroom : X.A.units + 1 + min (PyData.depthAll ps) pd.depth < cLine := room_in_shaped s2 hu
    obtain ⟨its, rv, ⟨⟨cls, dd, data, sls⟩, n, ho, hc, hdn, hdt⟩, hlen⟩ := I.list (SqL.of q)
    simp only at hc hdt
    subst hc hdt
    obtain ⟨as, h4⟩ := Dp.readsAll I ps _ its (Dps.thaw R 2 t e1) rv
    have hmap : its.map (SeqAt.readOf s.heap) = ps := SeqAt.readsAll_map ps its as hxs h4
    refine call_meets PySem.F.slot_list_count ⟨_, ho, rfl⟩ PySem.F.entry_list_count (PySem.F.args_list_count_2 _ _)
      (SeqAt.list_countAt a its.toArray n dd sls uy (fun u => PyData.eqv (SeqAt.readOf s.heap u) pd)) ⟨ho, SeqAt.items_eqAt (vs := its.toArray) (show ReadsAll s.heap its.toArray.toList ps as from h4) r1 hxs (SeqAt.canLay_of_shaped s2) hroom, ?_⟩
    have ec : its.toArray.toList.countP (fun u => PyData.eqv (SeqAt.readOf s.heap u) pd) = k := by
      rw [e3, ← hmap, List.countP_map] <;> rfl
    refine ⟨.int (k : Nat), H, I.tok _, ⟨s.toks, ?_⟩, p.int R⟩
    show Value.int ((its.toArray.toList.countP _ : Nat) : Int) s.toks = _
    rw [ec]
  · exact p.elim
theorem Pr.merge {κ : Type} [DecidableEq κ] {K : PySem.W.Frag} {μ : List Addr} {H : Hp} : ∀ {more : List (κ × D)} {mw : List (κ × V)} {ps : List (κ × D)} {ws : List (κ × V)}, Pr K μ H more mw → Pr K μ H ps ws → Pr K μ H (more.foldl (fun acc kv => putP acc kv.1 kv.2) ps) (mw.foldl (fun acc kv => putK acc kv.1 kv.2) ws)
  | [], mw, ps, ws, h, g => by
    have h : mw = [] := h
    subst h
    exact g
  | p :: more, mw, ps, ws, h, g => by
    obtain ⟨q, r, rfl, e, rv, t⟩ := h
    rw [List.foldl_cons, List.foldl_cons, e]
    exact Pr.merge t (Pr.put rv g)
theorem kv_merged : ∀ {more : List (Key × V)} {mv : List (Key × Value)} {ws : List (Key × V)} {vs : List (Key × Value)}, KV more mv → KV ws vs → KV (more.foldl (fun acc kv => putK acc kv.1 kv.2) ws) (merged vs mv)
  | _, _, ws, vs, .nil, g => g
  | _, _, ws, vs, .cons (a := a) (b := b) ⟨e, r⟩ t, g => by
    unfold merged
    rw [List.foldl_cons, List.foldl_cons, ← e]
    exact kv_merged t (g.put a.1 r)
theorem foldl_put_len : ∀ (more : List (Key × V)) (ws : List (Key × V)), (more.foldl (fun acc kv => putK acc kv.1 kv.2) ws).length ≤ ws.length + more.length
  | [], _ => Nat.le_refl _
  | p :: more, ws => by
    rw [List.foldl_cons]
    have := foldl_put_len more (putK ws p.1 p.2)
    have := length_putK ws p.1 p.2
    rw [List.length_cons]
    omega
theorem ref_dk {K : PySem.W.Frag} {μ : List Addr} {H : Hp} {h : Hc} (R : Rh K μ H h) {n : Nat} {x : V} {kvs : List (Key × D)} (rd : Rv K μ H (.ref n) x) (e : h[n]? = some (.dk kvs)) : ∃ a ws, x = .ref a ∧ μ[n]? = some a ∧ H a = some (.dK ws) ∧ Pr K μ H kvs ws := by
  simp only [Rv] at rd
  obtain ⟨a, rfl, hn⟩ := rd
  obtain ⟨o, ho, ro⟩ := R.lt hn
  rw [e] at ho
  cases ho
  obtain ⟨ws, q, k, t⟩ := ro
  exact ⟨a, ws, rfl, hn, q, Pr.of k t⟩
theorem m_update : MtR X "dict.update" (rM X.K .update1) := by
  intro pins s σ H x vs v us Q I rx rv h
  obtain ⟨μ, h, d, ds, R, rd, rds, p⟩ := h
  unfold primM at p
  split at p <;> try (first | exact p.elim | (rename_i e; cases e))
  split at p
  · rename_i n m _ _ kvs more e1 e2
    split at p
    · rename_i hc
      obtain ⟨y, rfl, ry⟩ := rds.un1
      obtain ⟨u, rfl, ru⟩ := rv.one
      obtain ⟨a, ws, rfl, hn, q, t⟩ := ref_dk R rd e1
      obtain ⟨b, mw, rfl, hm, q2, t2⟩ := ref_dk R ry e2
      cases rx
      cases ru
      have hne : a ≠ b := fun z => hc.1 (by
        subst z
        obtain ⟨h1, e1⟩ := List.getElem?_eq_some_iff.mp hn
        obtain ⟨h2, e2⟩ := List.getElem?_eq_some_iff.mp hm
        exact (List.getElem_inj R.nd).mp (e1.trans e2.symm))
      obtain ⟨z, hd, us1, rel, dd⟩ := dk_of I.hok q
      obtain ⟨z2, hd2, us2, rel2, dd2⟩ := dk_of I.hok q2
      have l1 : kvs.length = ws.length := t.to.2.2.symm
      have l2 : more.length = mw.length := t2.to.2.2.symm
      refine call_meetsIn PySem.F.slot_dict_update dd.typeIs PySem.F.entry_dict_update (PySem.F.args_dict_update_2 _ _) (meets_dict_update (mixKind X.prog X.w) a b hne hd2)
        ⟨us1, us2, dd, dd2, by rw [← rel.length, ← rel2.length]; omega, fun h' dd' _ hs => ?_⟩
      have hz : (mw.foldl (fun acc kv => putK acc kv.1 kv.2) ws).length ≤ sizeLine := by
        exact Nat.le_trans (foldl_put_len mw ws) (by omega)
      have X1 : Ext μ H μ (upd H a (.dK (mw.foldl (fun acc kv => putK acc kv.1 kv.2) ws))) := Ext.put (List.mem_of_getElem? hn) (fun o w z => by rw [q] at z; cases z) fun xs => R.notup (List.mem_of_getElem? hn)
      obtain ⟨p1, p2, p3⟩ := (Pr.ext X1 (Pr.merge t2 t)).to
      obtain ⟨x1, x2⟩ := R.put (o := .dk (more.foldl (fun acc kv => putP acc kv.1 kv.2) kvs)) hn (fun o w z => by rw [q] at z; cases z) ⟨_, upd_same, p1, p2⟩
      have he : ∃ q, h'.get? a = some q := let ⟨q, _, _, hq, _⟩ := dd'; ⟨q, hq⟩
      exact ⟨.non, _, d_write (t' := s.toks) I (by rw [q]; exact True.intro) hs he (dk_new hz hd (kv_merged rel2 rel) dd'), rfl, p _ _ _ x1 x2 (by simp only [Rv])⟩
    · exact p.elim
  · exact p.elim
/-! o[i] = v -/
theorem s_item (hu : X.A.units + 1 < cLine) {pins : List (Addr × Obj)} {s : Shared} {σ : L2.St} {H : Hp} {o i v : V} {ov iv u : Value} {C : Hp → Prop} (I : Inv X pins σ H s) (ro : RelV o ov) (ri : RelV i iv) (ru : RelV v u)
    {μ : List Addr} {h h' : Hc} {d k e : D} (R : Rh X.K μ H h) (rd : Rv X.K μ H d o) (rk : Rv X.K μ H k i) (re : Rv X.K μ H e v) (hs : _root_.Q.setItem d k e h = some h') (q : ∀ H', Ext μ H μ H' → Rh X.K μ H' h' → C H') :
    wpAny (model X.prog X.w) X.A (PySem.setItem ov iv u) (fun _ s' => ∃ H', Inv X pins σ H' s' ∧ C H') X.xe s := by
  unfold _root_.Q.setItem at hs
  have dict : dPut h d k e = some h' → wpAny (model X.prog X.w) X.A (PySem.setItem ov iv u) (fun _ s' => ∃ H', Inv X pins σ H' s' ∧ C H') X.xe s := fun hs => by
    obtain ⟨a, H', rfl, g, x1, x2⟩ := dPut_rv R rd rk re hs
    cases ro
    exact d_setItem hu I g ri ru fun s' I' => ⟨H', I', q H' x1 x2⟩
  split at hs
  · split at hs
    · rename_i n _ _ xs j e1
      obtain ⟨a, ws, rfl, hn, qa, t⟩ := ref_lst R rd e1
      obtain ⟨m, em, rfl⟩ := Option.map_eq_some_iff.mp hs
      simp only [Rv] at rk
      subst rk
      refine set_list pins s σ H _ _ v ov iv u C I ro ri ru ⟨a, ws, j, m, rfl, rfl, qa, by rw [← t.length]; exact em, ?_⟩
      have X1 : Ext μ H μ (upd H a (.lst (ws.set m v))) := Ext.put (List.mem_of_getElem? hn) (fun o w z => by rw [qa] at z; cases z) fun xs => R.notup (List.mem_of_getElem? hn)
      obtain ⟨x1, x2⟩ := R.put (o := .lst (xs.set m e)) (u := .lst (ws.set m v)) hn (fun o w z => by rw [qa] at z; cases z) ⟨_, upd_same, Rvs.ext X1 _ _ (t.set re m)⟩
      exact q _ x1 x2
    · exact dict hs
  · cases hs
end
end Q

/-! QP7: slices. -/
namespace Q
open PySem PySem.Spec PyProof.Rows L2
/-- a slice's part -/
def Part (d : D) (o : Option Int) : Prop := (d = .non ∧ o = none) ∨ ∃ i, d = .int i ∧ o = some i
theorem cutLo_part {n : Nat} {d : D} {o : Option Int} {k : Nat} (p : Part d o) (e : cutLo n d = some k) : k = HT.sIx n 0 o := by
  rcases p with ⟨rfl, rfl⟩ | ⟨i, rfl, rfl⟩
  · simp only [cutLo, Option.some.injEq] at e
    exact e.symm
  · simp only [cutLo, Option.some.injEq] at e
    exact e.symm
theorem cutHi_part {n : Nat} {d : D} {o : Option Int} {k : Nat} (p : Part d o) (e : cutHi n d = some k) : k = HT.sIx n n o := by
  rcases p with ⟨rfl, rfl⟩ | ⟨i, rfl, rfl⟩
  · simp only [cutHi, Option.some.injEq] at e
    exact e.symm
  · simp only [cutHi, Option.some.injEq] at e
    exact e.symm
theorem cutD_some {α : Type} {xs ys : List α} {l u : D} {lo hi : Option Int} (pl : Part l lo) (pu : Part u hi) (e : cutD xs l u = some ys) : ys = (xs.drop (HT.sIx xs.length 0 lo)).take (HT.sIx xs.length xs.length hi - HT.sIx xs.length 0 lo) := by
  unfold cutD at e
  obtain ⟨i, e1, e2⟩ := Option.bind_eq_some_iff.mp e
  obtain ⟨j, e3, rfl⟩ := Option.map_eq_some_iff.mp e2
  rw [cutLo_part pl e1, cutHi_part pu e3]
def rSl (K : PySem.W.Frag) (fr : Bool) : V → Option Int → Option Int → Hp → VK → Prop := fun x lo hi H Q => ∃ μ h d l u, Rh K μ H h ∧ Rv K μ H d x ∧ Part l lo ∧ Part u hi ∧ Post K μ H (sliceP fr d l u h) Q
section
variable {X : Cx}
theorem sl_any {fr : Bool} : SlR X (rSl X.K fr) := by
  intro pins s σ H x v vl vu lo hi sl Q I rx hs pl pu h
  obtain ⟨μ, h, d, l, u, R, rd, p1, p2, p⟩ := h
  unfold sliceP at p
  split at p
  · rename_i xs e1
    obtain ⟨a, vs, rfl, q, t⟩ := look_tup R rd e1
    obtain ⟨ys, ey, p⟩ := opt_post p
    cases cutD_some p1 p2 ey
    refine sl_tupA pins s σ H _ v vl vu lo hi sl Q I rx hs pl pu ⟨a, vs, rfl, SqT.of q, fun hw => p.here R ?_, fun _ => p.tup R ?_⟩
    · simp only [Rv]
      refine ⟨a, vs, rfl, q, ?_⟩
      rw [t.length, hw.1, hw.2, List.drop_zero, Nat.sub_zero, ← t.length, List.take_length]
      exact t
    · unfold cutV
      rw [t.length]
      exact (t.drop _).take _
  · rename_i xs e1
    obtain ⟨a, vs, rfl, q, t⟩ := look_lst R rd e1
    obtain ⟨ys, ey, p⟩ := opt_post p
    cases cutD_some p1 p2 ey
    refine sl_list pins s σ H _ v vl vu lo hi sl Q I rx hs pl pu ⟨a, vs, rfl, SqL.of q, p.newL R ?_⟩
    unfold cutV
    rw [t.length]
    exact (t.drop _).take _
  · rename_i x e1
    cases look_str R rd e1
    obtain ⟨ys, ey, p⟩ := opt_post p
    cases cutD_some p1 p2 ey
    split at p
    · rename_i hl
      refine sl_str pins s σ H _ v vl vu lo hi sl Q I rx hs pl pu ⟨x, rfl, hl, ?_⟩
      have e : (⟨((x.cps.toList.drop (HT.sIx x.cps.toList.length 0 lo)).take (HT.sIx x.cps.toList.length x.cps.toList.length hi - HT.sIx x.cps.toList.length 0 lo)).toArray⟩ : PySem.Str) = cutS x lo hi := by
        have hlen : x.cps.toList.length = x.length := by simp [PySem.Str.length]
        rw [hlen]
        rfl
      rw [e] at p
      exact p.str R
    · exact p.elim
  · exact p.elim
/-- an int or None, as a slice's part -/
theorem part_of {K : PySem.W.Frag} {μ : List Addr} {H : Hp} {d : D} {x : V} {u : Value} (hd : d = .non ∨ ∃ i, d = .int i) (r : Rv K μ H d x) (ru : RelV x u) : ∃ o, IsPart u o ∧ Part d o := by
  rcases hd with rfl | ⟨i, rfl⟩
  · simp only [Rv] at r
    subst r
    cases ru
    exact ⟨none, .none, .inl ⟨rfl, rfl⟩⟩
  · simp only [Rv] at r
    subst r
    obtain ⟨t, rfl⟩ := ru
    exact ⟨some i, .int i t, .inr ⟨i, rfl, rfl⟩⟩
theorem cutD_parts {α : Type} {xs ys : List α} {l u : D} (e : cutD xs l u = some ys) : (l = .non ∨ ∃ i, l = .int i) ∧ (u = .non ∨ ∃ i, u = .int i) := by
  unfold cutD at e
  obtain ⟨i, e1, e2⟩ := Option.bind_eq_some_iff.mp e
  obtain ⟨j, e3, _⟩ := Option.map_eq_some_iff.mp e2
  refine ⟨?_, ?_⟩
  · cases l <;> simp [cutLo] at e1
    · exact .inl rfl
    · exact .inr ⟨_, rfl⟩
  · cases u <;> simp [cutHi] at e3
    · exact .inl rfl
    · exact .inr ⟨_, rfl⟩
theorem sliceP_parts {K : PySem.W.Frag} {μ : List Addr} {H : Hp} {fr : Bool} {d l u : D} {h : Hc} {Q : VK} (p : Post K μ H (sliceP fr d l u h) Q) : (l = .non ∨ ∃ i, l = .int i) ∧ (u = .non ∨ ∃ i, u = .int i) := by
  unfold sliceP at p
  split at p
  · obtain ⟨ys, e, _⟩ := opt_post p
    exact cutD_parts e
  · obtain ⟨ys, e, _⟩ := opt_post p
    exact cutD_parts e
  · obtain ⟨ys, e, _⟩ := opt_post p
    exact cutD_parts e
  · exact p.elim
/-! x[::-1] -/
theorem sliceApplied_rev {prog : Program} {w : World} {A : Around} {E : Value → Shared → Prop} {s : Shared} {sl : Addr} {t : Tok} {n : Nat} {C : Int × Int × Nat → Shared → Prop} (hs : s.heap.IsSliceOf sl .none .none (.int (-1) t))
    (h : C ((n : Int) - 1, -1, n) s) : wpAny (model prog w) A (Builtin.Slice.sliceApplied (.ref sl) (pure (n : Int))) C E s := by
  obtain ⟨os, hos, hcs, hds⟩ := id hs
  unfold Builtin.Slice.sliceApplied Builtin.Slice.sliceFields
  refine wpAny_bind (wpAny_bind (wpAny_field hos hds (x := .none) rfl (wpAny_bind (wpAny_field hos hds (x := .none) rfl (wpAny_bind (wpAny_field hos hds (x := .int (-1) t) rfl (wpAny_pure ?_)))))))
  refine wpAny_bind (HT.slicePart_ (.int (-1) t) ?_)
  show wpAny _ _ (if ((-1 : Int) == 0) = true then _ else _) _ _ s
  rw [if_neg (by decide)]
  refine wpAny_bind (HT.slicePart_ .none (wpAny_bind (HT.slicePart_ .none (wpAny_bind (wpAny_pure ?_)))))
  have e1 : Builtin.Slice.sliceAdjust none none (-1) (n : Int) = ((n : Int) - 1, -1) := by
    simp [Builtin.Slice.sliceAdjust]
  have e2 : Builtin.Slice.slicePlaces ((n : Int) - 1) (-1) (-1) = n := by
    unfold Builtin.Slice.slicePlaces
    rw [if_neg (by decide)]
    by_cases hn : n = 0
    · subst hn
      decide
    · rw [if_pos (by omega)]
      have : ((n : Int) - 1 - -1 - 1) / (- -1) + 1 = n := by
        rw [Int.neg_neg, Int.ediv_one]
        omega
      rw [this] <;> rfl
  show wpAny _ _ (match Builtin.Slice.sliceAdjust none none (-1) (n : Int) with | (lo, hi) => pure (lo, (-1 : Int), Builtin.Slice.slicePlaces lo hi (-1))) _ _ s
  rw [e1]
  show wpAny _ _ (pure ((n : Int) - 1, (-1 : Int), Builtin.Slice.slicePlaces ((n : Int) - 1) (-1) (-1))) _ _ s
  rw [e2]
  exact wpAny_pure h

theorem pick_rev (xs : Array Value) : ((List.range xs.size).filterMap fun (k : Nat) => xs[((xs.size : Int) - 1 + (k : Int) * (-1)).toNat]?).toArray = xs.toList.reverse.toArray := by
  congr 1
  apply List.ext_getElem?
  intro i
  have e : ((List.range xs.size).filterMap fun (k : Nat) => xs[((xs.size : Int) - 1 + (k : Int) * (-1)).toNat]?) = (List.range xs.size).map fun k => xs.toList.getD (xs.size - 1 - k) .none := by
    have all : ∀ l : List Nat, (∀ k ∈ l, k < xs.size) → (l.filterMap fun (k : Nat) => xs[((xs.size : Int) - 1 + (k : Int) * (-1)).toNat]?) = l.map fun k => xs.toList.getD (xs.size - 1 - k) .none := by
      intro l
      induction l with
      | nil => exact fun _ => rfl
      | cons k l ih =>
        intro hl
        have hk : k < xs.size := hl k List.mem_cons_self
        have e1 : ((xs.size : Int) - 1 + (k : Int) * (-1)).toNat = xs.size - 1 - k := by omega
        have h2 : xs.size - 1 - k < xs.size := by omega
        have e2 : xs[((xs.size : Int) - 1 + (k : Int) * (-1)).toNat]? = some (xs.toList.getD (xs.size - 1 - k) .none) := by
          rw [e1, List.getD_eq_getElem?_getD, Array.getElem?_toList, Array.getElem?_eq_getElem h2]
          rfl
        rw [List.filterMap_cons, e2, List.map_cons, ih fun k hk => hl k (List.mem_cons_of_mem _ hk)]
    exact all _ fun k hk => List.mem_range.mp hk
  rw [e, List.getElem?_map]
  by_cases hi : i < xs.size
  · rw [List.getElem?_range hi, List.getElem?_reverse (by simpa using hi)]
    have h2 : xs.size - 1 - i < xs.toList.length := by
      rw [Array.length_toList]
      omega
    rw [Option.map_some, List.getD_eq_getElem?_getD, Array.length_toList, List.getElem?_eq_getElem h2]
    rfl
  · rw [List.getElem?_eq_none (by simpa using hi), List.getElem?_eq_none (by simpa using hi)]
    rfl
theorem getItem_tuple_rev {prog : Program} {w : World} {A : Around} {E : Value → Shared → Prop} {s : Shared} {a sl : Addr} {items : Array Value} {t : Tok} {C : Value → Shared → Prop} (ht : IsTup s.heap a items) (hs : s.heap.IsSliceOf sl .none .none (.int (-1) t))
    (h : C (.ref s.heap.objs.size) { s with heap := s.heap.push { cls := .type "tuple", data := .seq items.toList.reverse.toArray } }) (hsz : items.size ≤ sizeLine) : wpAny (model prog w) A (getItem (.ref a) (.ref sl)) C E s := by
  have htake : sizeOk (.seq items.toList.reverse.toArray) := by
    show items.toList.reverse.toArray.size ≤ sizeLine
    rw [List.size_toArray, List.length_reverse, Array.length_toList]
    exact hsz
  obtain ⟨os, hos, hcs, hds⟩ := id hs
  have hTs : s.TypeIs (.ref sl) "slice" := ⟨os, hos, hcs⟩
  unfold getItem
  try with_reducible refine wpAny_holding ?_
  first | refine wpAny_bind (wpAny_pure ?_) | skip
  refine wpAny_bind (wpAny_sequenceKey ht.typeIs (by decide) ?_)
  refine wpAny_bind (wpAny_callSpecial?_slot (name := Str.ofString "__getitem__") ht.typeIs PyProof.Rows.slot_tuple_getitem
    (wpAny_call_entry PyProof.Rows.slot_tuple_getitem ht.typeIs entry_tuple_getitem ?_ (args_tuple_getitem _ _)))
  show wpAny _ _ (Builtin.Tuple.tupleItemsOf (.ref a) >>= _) _ _ s
  refine wpAny_bind (PyProof.Rows.tupleItemsOf_ ht ?_)
  refine wpAny_bind (wpAny_typeOf hTs ?_)
  rw [if_pos (by decide)]
  refine wpAny_bind (sliceApplied_rev hs ?_)
  have hno : ¬ ((((items.size : Int) - 1) == 0 && (-1 : Int) == 1 && items.size == items.size) = true) := by simp
  show wpAny _ _ (if (((items.size : Int) - 1) == 0 && (-1 : Int) == 1 && items.size == items.size) = true then _ else _) _ _ s
  rw [if_neg hno, pick_rev]
  first
    | exact wpAny_bind (m := Builtin.Tuple.tupleExact _) (wpAny_newObj_type (wpAny_pure ⟨_, rfl, wpAny_pure h⟩) htake)
    | exact wpAny_bind (m := Builtin.Tuple.tupleExact _) (wpAny_newObj_type (wpAny_bind (wpAny_pure (wpAny_pure ⟨_, rfl, wpAny_pure h⟩))) htake)
    | exact wpAny_bind (wpAny_bind (m := Builtin.Tuple.tupleExact _) (wpAny_newObj_type (wpAny_pure (wpAny_pure ⟨_, rfl, wpAny_pure h⟩)) htake))
    | exact wpAny_bind (wpAny_bind (m := Builtin.Tuple.tupleExact _) (wpAny_newObj_type (wpAny_pure ⟨_, rfl, wpAny_pure h⟩) htake))
def rRev (K : PySem.W.Frag) (fr : Bool) : V → Hp → VK → Prop := fun x H Q => ∃ μ h d, Rh K μ H h ∧ Rv K μ H d x ∧ Post K μ H (revP fr d h) Q
theorem pe_rev {fr : Bool} {e : Expr} {te : TE} {k : Nat} {p1 p2 p3 pos : Pos} (he : PE X e te) : PE X (.Subscript e (.Slice none none (some (.UnaryOp .USub (.Constant (.int 1) k p1) p2)) p3) pos) (tUn (rRev X.K fr) te) := by
  refine ⟨fun pins s σ H Q I h => ?_⟩
  refine Subscript_ (thn (he.run pins s σ H _ I h) fun v s1 ⟨x, H1, I1, r1, q1⟩ => ?_)
  obtain ⟨μ, h, d, R, rd, p⟩ := q1
  have hst : PO X (some (.UnaryOp .USub (.Constant (.int 1) k p1) p2)) (tPart (tUn (rU fun i => .int (-i)) (tC (.int 1)))) := po_some (pe_un un_neg pe_int)
  refine wpAny_Slice (thn (po_none.run pins s1 σ H1 (fun o H2 => o = none ∧ H2 = H1) I1 ⟨rfl, rfl⟩) fun vl s2 ⟨l, H2, I2, pl, el, e2⟩ => ?_)
  subst el e2
  refine thn (po_none.run pins s2 σ H2 (fun o H3 => o = none ∧ H3 = H2) I2 ⟨rfl, rfl⟩) fun vu s3 ⟨u, H3, I3, pu, eu, e3⟩ => ?_
  subst eu e3
  refine thn (hst.run pins s3 σ H3 (fun o H4 => o = some (-1) ∧ H4 = H3) I3 ⟨1, rfl, -1, rfl, rfl, rfl⟩) fun vs s4 ⟨o, H4, I4, ps, eo, e4⟩ => ?_
  subst eo e4
  have I5 : Inv X pins σ H4 { s4 with heap := s4.heap.push { cls := .type "slice", data := .fields #[vl, vu, vs] } } := I4.kept (t' := s4.toks) fun b ob q => Heap.get?_push_of_some _ q
  have sl : (s4.heap.push { cls := .type "slice", data := .fields #[vl, vu, vs] }).IsSliceOf s4.heap.objs.size vl vu vs := Heap.IsSliceOf.new _ vl vu vs
  unfold revP at p
  split at p
  · rename_i xs e1
    obtain ⟨a, ws, rfl, q, t⟩ := look_tup R rd e1
    cases r1
    obtain ⟨its, r, ht, hz⟩ := I5.tuple (SqT.of q)
    have hlen := r.length
    cases pl
    cases pu
    cases ps with
    | int i tk =>
      show wpAny (model X.prog X.w) X.A (subscriptTail e (.Slice none none (some (.UnaryOp .USub (.Constant (.int 1) k p1) p2)) p3) (.ref a) (.ref s4.heap.objs.size)) (EP X pins σ Q) X.xe _
      refine tail_any (ops := [.ref a, .ref s4.heap.objs.size]) ht.typeIs PyProof.Rows.slot_tuple_getitem.lookup ?_ (by with_unfolding_all rfl)
      refine getItem_tuple_rev ht sl ?_ (by rw [List.size_toArray]; omega)
      refine ⟨.ref _, _, I5.laid (t' := s4.toks) (o := .tup ws.reverse) (fun b ob q => Heap.get?_push_of_some _ q) (Nat.le_refl _) ?_, rfl, p.tup R t.reverse _ (I5.hok.fresh (Nat.le_refl _))⟩
      exact ⟨by rw [List.length_reverse]; exact hz, _, by simpa using r.reverse, IsTup.new _ _⟩
  · rename_i xs e1
    obtain ⟨a, ws, rfl, q, t⟩ := look_lst R rd e1
    cases r1
    obtain ⟨its, r, ht, hz⟩ := I5.list (SqL.of q)
    have hlen := r.length
    show wpAny (model X.prog X.w) X.A (subscriptTail e (.Slice none none (some (.UnaryOp .USub (.Constant (.int 1) k p1) p2)) p3) (.ref a) (.ref s4.heap.objs.size)) (EP X pins σ Q) X.xe _
    refine tail_any (ops := [.ref a, .ref s4.heap.objs.size]) ht.isList.typeIs (PySem.slot_list_getitem.lookup) ?_ (by with_unfolding_all rfl)
    refine wpAny_getItem_list_slice ht.isList sl pl pu ps (by decide) ?_ (by rw [List.size_toArray]; omega)
    rw [PySem.W.krv_pick]
    refine ⟨.ref _, _, I5.laid (t' := s4.toks) (o := .lst ws.reverse) (fun b ob q => Heap.get?_push_of_some _ q) (Nat.le_refl _) ?_, rfl, p.newL R t.reverse _ (I5.hok.fresh (Nat.le_refl _))⟩
    exact ⟨by rw [List.length_reverse]; exact hz, _, 0, by simpa using r.reverse, Heap.get?_push_size _ rfl⟩
  · exact p.elim
end
end Q

/-! QD: places dropped at the end of a call, of a comprehension. -/
namespace Q
open PySem PySem.Spec PyProof.Rows L2
section
variable {K : PySem.W.Frag} {μ ν : List Addr} {G H : Hp} {h h' : Hc}
mutual
theorem Rv.isOld : ∀ (d : D) (v : V), Rv K μ H d v → d.old μ.length = true
  | .non, _, _ | .bl _, _, _ | .int _, _, _ | .str _, _, _ | .scr _, _, _ | .exc _, _, _ => rfl
  | .tup xs, v, r => by
    simp only [Rv] at r
    obtain ⟨a, vs, _, _, t⟩ := r
    exact Rvs.isOld xs vs t
  | .lst xs, v, r => by
    simp only [Rv] at r
    obtain ⟨a, vs, _, _, _, t⟩ := r
    exact Rvs.isOld xs vs t
  | .ftp xs, v, r => by
    simp only [Rv] at r
    obtain ⟨a, o, vs, _, _, _, t⟩ := r
    exact Rvs.isOld xs vs t
  | .dk ks xs, v, r => by
    simp only [Rv] at r
    obtain ⟨a, kvs, _, _, _, _, t⟩ := r
    exact Rvs.isOld xs _ t
  | .dt ks xs, v, r => by
    simp only [Rv] at r
    obtain ⟨a, kvs, _, _, _, _, t⟩ := r
    exact Rvs.isOld xs _ t
  | .ref n, v, r => by
    simp only [Rv] at r
    obtain ⟨a, _, e⟩ := r
    exact decide_eq_true (List.getElem?_eq_some_iff.mp e).1
theorem Rvs.isOld : ∀ (ds : List D) (vs : List V), Rvs K μ H ds vs → D.olds μ.length ds = true
  | [], _, _ => rfl
  | d :: ds, vs, r => by
    obtain ⟨v, w, _, q, t⟩ := r.uncons
    rw [D.olds, Rv.isOld d v q, Rvs.isOld ds w t]
    rfl
end
theorem notMem_take {a : Addr} {n : Nat} (h : a ∉ ν) : a ∉ ν.take n := fun z => h (List.mem_of_mem_take z)
mutual
theorem Rv.drop {m : Nat} : ∀ (d : D) (v : V), d.old m = true → Rv K ν H d v → Rv K (ν.take m) H d v
  | .non, _, _, r | .bl _, _, _, r | .int _, _, _, r | .str _, _, _, r | .scr _, _, _, r | .exc _, _, _, r => r
  | .tup xs, v, o, r => by
    simp only [Rv] at r ⊢
    obtain ⟨a, vs, e, q, t⟩ := r
    exact ⟨a, vs, e, q, Rvs.drop' xs vs o t⟩
  | .lst xs, v, o, r => by
    simp only [Rv] at r ⊢
    obtain ⟨a, vs, e, n, q, t⟩ := r
    exact ⟨a, vs, e, notMem_take n, q, Rvs.drop' xs vs o t⟩
  | .ftp xs, v, o, r => by
    simp only [Rv] at r ⊢
    obtain ⟨a, ob, vs, e, q, n, t⟩ := r
    exact ⟨a, ob, vs, e, q, n, Rvs.drop' xs vs o t⟩
  | .dk ks xs, v, o, r => by
    simp only [Rv] at r ⊢
    obtain ⟨a, kvs, e, n, q, k, t⟩ := r
    exact ⟨a, kvs, e, notMem_take n, q, k, Rvs.drop' xs _ o t⟩
  | .dt ks xs, v, o, r => by
    simp only [Rv] at r ⊢
    obtain ⟨a, kvs, e, n, q, k, t⟩ := r
    exact ⟨a, kvs, e, notMem_take n, q, k, Rvs.drop' xs _ o t⟩
  | .ref n, v, o, r => by
    simp only [Rv] at r ⊢
    obtain ⟨a, e, q⟩ := r
    have hn : n < m := of_decide_eq_true o
    exact ⟨a, e, by rw [List.getElem?_take_of_lt hn]; exact q⟩
theorem Rvs.drop' {m : Nat} : ∀ (ds : List D) (vs : List V), D.olds m ds = true → Rvs K ν H ds vs → Rvs K (ν.take m) H ds vs
  | [], vs, _, r => r
  | d :: ds, vs, o, r => by
    simp only [D.olds, Bool.and_eq_true] at o
    obtain ⟨v, w, rfl, q, t⟩ := r.uncons
    exact Rvs.cons (Rv.drop d v o.1 q) (Rvs.drop' ds w o.2 t)
end
theorem Ro.drop {m : Nat} {o : O} {a : Addr} (q : o.old m = true) (r : Ro K ν H o a) : Ro K (ν.take m) H o a := by
  cases o with
  | lst xs => obtain ⟨vs, e, t⟩ := r; exact ⟨vs, e, Rvs.drop' _ _ q t⟩
  | hl xs => obtain ⟨vs, e, t⟩ := r; exact ⟨vs, e, Rvs.drop' _ _ q t⟩
  | dk xs => obtain ⟨vs, e, k, t⟩ := r; exact ⟨vs, e, k, Rvs.drop' _ _ q t⟩
  | dt xs => obtain ⟨vs, e, k, t⟩ := r; exact ⟨vs, e, k, Rvs.drop' _ _ q t⟩
  | wk xs => obtain ⟨o, vs, e, k, t⟩ := r; exact ⟨o, vs, e, k, Rvs.drop' _ _ q t⟩
  | wt xs => obtain ⟨o, vs, e, k, t⟩ := r; exact ⟨o, vs, e, k, Rvs.drop' _ _ q t⟩
  | ins c fs => exact r.elim
theorem Ro.isOld {o : O} {a : Addr} (r : Ro K μ H o a) : o.old μ.length = true := by
  cases o with
  | lst xs => obtain ⟨vs, e, t⟩ := r; exact Rvs.isOld _ _ t
  | hl xs => obtain ⟨vs, e, t⟩ := r; exact Rvs.isOld _ _ t
  | dk xs => obtain ⟨vs, e, k, t⟩ := r; exact Rvs.isOld _ _ t
  | dt xs => obtain ⟨vs, e, k, t⟩ := r; exact Rvs.isOld _ _ t
  | wk xs => obtain ⟨o, vs, e, k, t⟩ := r; exact Rvs.isOld _ _ t
  | wt xs => obtain ⟨o, vs, e, k, t⟩ := r; exact Rvs.isOld _ _ t
  | ins c fs => exact r.elim
theorem Ext.take (x : Ext μ G ν H) : ν.take μ.length = μ := by
  obtain ⟨l, rfl, _⟩ := x.pre
  rw [List.take_left]
theorem Ext.back (x : Ext μ G ν H) : Ext μ G μ H := ⟨⟨[], by simp, fun _ h => nomatch h⟩, x.keep, x.lst, x.tup, x.frz, x.stood⟩
/-- the new places dropped -/
theorem Rh.drop (x : Ext μ G ν H) (R0 : Rh K μ G h) (R : Rh K ν H h') (k : kept h h' = true) : Rh K μ H (h'.take h.length) := by
  unfold kept at k
  simp only [Bool.and_eq_true, decide_eq_true_eq, List.all_eq_true, List.mem_range] at k
  obtain ⟨k1, k2⟩ := k
  have e0 : h.length = μ.length := R0.len
  refine ⟨by rw [List.length_take]; omega, R0.nd, fun n o a e1 e2 => ?_⟩
  have hn : n < h.length := by
    rw [e0]
    exact (List.getElem?_eq_some_iff.mp e2).1
  rw [List.getElem?_take_of_lt hn] at e1
  have ro := R.ob n o a e1 (x.get e2)
  have old : o.old h.length = true := by
    have := k2 n hn
    rw [Bool.or_eq_true] at this
    rcases this with q | q
    · have q := of_decide_eq_true q
      rw [e1] at q
      rw [e0]
      exact Ro.isOld (R0.ob n o a q.symm e2)
    · rw [e1] at q
      exact q
  have := Ro.drop old ro
  rw [e0, x.take] at this
  exact this
mutual
theorem D.old_via {m : Nat} (f : Nat → D) (hf : ∀ n, n < m → f n = .ref n) : ∀ d : D, d.old m = true → D.via f d = d
  | .non, _ | .bl _, _ | .int _, _ | .str _, _ | .scr _, _ | .exc _, _ => rfl
  | .tup xs, h => by rw [D.via, D.olds_via f hf xs h]
  | .lst xs, h => by rw [D.via, D.olds_via f hf xs h]
  | .ftp xs, h => by rw [D.via, D.olds_via f hf xs h]
  | .dk ks xs, h => by rw [D.via, D.olds_via f hf xs h]
  | .dt ks xs, h => by rw [D.via, D.olds_via f hf xs h]
  | .ref n, h => hf n (of_decide_eq_true h)
theorem D.olds_via {m : Nat} (f : Nat → D) (hf : ∀ n, n < m → f n = .ref n) : ∀ ds : List D, D.olds m ds = true → D.vias f ds = ds
  | [], _ => rfl
  | d :: ds, h => by
    simp only [D.olds, Bool.and_eq_true] at h
    rw [D.vias, D.old_via f hf d h.1, D.olds_via f hf ds h.2]
end
mutual
/-- new places as frozen values -/
theorem Rv.via {m : Nat} (f : Nat → D) (hf : ∀ n v, Rv K ν H (.ref n) v → (f n).old m = true → Rv K (ν.take m) H (f n) v) : ∀ (d : D) (v : V), Rv K ν H d v → (D.via f d).old m = true → Rv K (ν.take m) H (D.via f d) v
  | .non, _, r, _ | .bl _, _, r, _ | .int _, _, r, _ | .str _, _, r, _ | .scr _, _, r, _ | .exc _, _, r, _ => r
  | .tup xs, v, r, o => by
    simp only [Rv, D.via] at r ⊢
    obtain ⟨a, vs, e, q, t⟩ := r
    exact ⟨a, vs, e, q, Rvs.via f hf xs vs t o⟩
  | .lst xs, v, r, o => by
    simp only [Rv, D.via] at r ⊢
    obtain ⟨a, vs, e, n, q, t⟩ := r
    exact ⟨a, vs, e, notMem_take n, q, Rvs.via f hf xs vs t o⟩
  | .ftp xs, v, r, o => by
    simp only [Rv, D.via] at r ⊢
    obtain ⟨a, ob, vs, e, q, n, t⟩ := r
    exact ⟨a, ob, vs, e, q, n, Rvs.via f hf xs vs t o⟩
  | .dk ks xs, v, r, o => by
    simp only [Rv, D.via] at r ⊢
    obtain ⟨a, kvs, e, n, q, k, t⟩ := r
    exact ⟨a, kvs, e, notMem_take n, q, k, Rvs.via f hf xs _ t o⟩
  | .dt ks xs, v, r, o => by
    simp only [Rv, D.via] at r ⊢
    obtain ⟨a, kvs, e, n, q, k, t⟩ := r
    exact ⟨a, kvs, e, notMem_take n, q, k, Rvs.via f hf xs _ t o⟩
  | .ref n, v, r, o => hf n v r o
theorem Rvs.via {m : Nat} (f : Nat → D) (hf : ∀ n v, Rv K ν H (.ref n) v → (f n).old m = true → Rv K (ν.take m) H (f n) v) : ∀ (ds : List D) (vs : List V), Rvs K ν H ds vs → D.olds m (D.vias f ds) = true → Rvs K (ν.take m) H (D.vias f ds) vs
  | [], _, r, _ => r
  | d :: ds, vs, r, o => by
    simp only [D.vias, D.olds, Bool.and_eq_true] at o
    obtain ⟨v, w, rfl, q, t⟩ := r.uncons
    exact Rvs.cons (Rv.via f hf d v q o.1) (Rvs.via f hf ds w t o.2)
end
theorem olds_mem {m : Nat} : ∀ {ds : List D}, D.olds m ds = true → ∀ d ∈ ds, d.old m = true
  | [], _, _, h => nomatch h
  | d :: ds, h, x, hx => by
    simp only [D.olds, Bool.and_eq_true] at h
    rcases List.mem_cons.mp hx with rfl | hx
    · exact h.1
    · exact olds_mem h.2 x hx
theorem Rvs.mapF {ν' : List Addr} {F : D → D} (hF : ∀ d v, Rv K ν H d v → (F d).old ν'.length = true → Rv K ν' H (F d) v) : ∀ {ds : List D} {vs : List V}, Rvs K ν H ds vs → D.olds ν'.length (ds.map F) = true → Rvs K ν' H (ds.map F) vs
  | [], vs, r, _ => by
    rw [r.unnil]
    exact Rvs.nil
  | d :: ds, vs, r, o => by
    rw [List.map_cons] at o ⊢
    simp only [D.olds, Bool.and_eq_true] at o
    obtain ⟨v, w, rfl, q, t⟩ := r.uncons
    exact Rvs.cons (hF d v q o.1) (Rvs.mapF hF t o.2)
theorem Rv.frost (R : Rh K ν H h') {m : Nat} (hm : m ≤ ν.length) : ∀ (k : Nat) (d : D) (v : V), Rv K ν H d v → (Q.frost h' m k d).old m = true → Rv K (ν.take m) H (Q.frost h' m k d) v
  | 0, d, v, r, o => Rv.drop d v o r
  | k + 1, d, v, r, o => by
    refine Rv.via _ (fun n v r o => ?_) d v r o
    by_cases hn : n < m
    · rw [if_pos hn] at o ⊢
      exact Rv.drop _ v o r
    · rw [if_neg hn] at o ⊢
      have hl : (ν.take m).length = m := by
        rw [List.length_take]
        omega
      simp only [Rv] at r
      obtain ⟨a, rfl, e⟩ := r
      have na : a ∉ ν.take m := fun z => by
        obtain ⟨j, hj, ej⟩ := List.getElem_of_mem z
        rw [List.length_take] at hj
        rw [List.getElem_take] at ej
        obtain ⟨h1, e1⟩ := List.getElem?_eq_some_iff.mp e
        have := (List.getElem_inj R.nd).mp (ej.trans e1.symm)
        omega
      obtain ⟨ob, ho, ro⟩ := R.lt e
      rw [ho] at o ⊢
      cases ob with
      | lst xs =>
        obtain ⟨vs, q, t⟩ := ro
        simp only [thawF, Rv] at o ⊢
        exact ⟨a, vs, rfl, na, q, Rvs.mapF (fun d v r o => Rv.frost R hm k d v r (by rwa [hl] at o)) t (by rw [hl]; exact o)⟩
      | dk kvs =>
        obtain ⟨ws, q, k1, t⟩ := ro
        simp only [thawF, Rv] at o ⊢
        refine ⟨a, ws, rfl, na, .inl q, k1, ?_⟩
        have e3 : (kvs.map fun p => Q.frost h' m k p.2) = (kvs.map (·.2)).map (Q.frost h' m k) := by rw [List.map_map] <;> rfl
        have o' : D.olds m (kvs.map fun p => Q.frost h' m k p.2) = true := o
        rw [e3] at o' ⊢
        exact Rvs.mapF (fun d v r o => Rv.frost R hm k d v r (by rwa [hl] at o)) t (by rw [hl]; exact o')
      | dt kvs =>
        obtain ⟨ws, q, k1, t⟩ := ro
        simp only [thawF, Rv] at o ⊢
        refine ⟨a, ws, rfl, na, .inl q, k1, ?_⟩
        have e3 : (kvs.map fun p => Q.frost h' m k p.2) = (kvs.map (·.2)).map (Q.frost h' m k) := by rw [List.map_map] <;> rfl
        have o' : D.olds m (kvs.map fun p => Q.frost h' m k p.2) = true := o
        rw [e3] at o' ⊢
        exact Rvs.mapF (fun d v r o => Rv.frost R hm k d v r (by rwa [hl] at o)) t (by rw [hl]; exact o')
      | hl xs => exact absurd (of_decide_eq_true o) hn
      | wk kvs =>
        obtain ⟨ob, ws, q, k1, t⟩ := ro
        simp only [thawF, Rv] at o ⊢
        refine ⟨a, ws, rfl, na, .inr ⟨ob, q⟩, k1, ?_⟩
        have e3 : (kvs.map fun p => Q.frost h' m k p.2) = (kvs.map (·.2)).map (Q.frost h' m k) := by rw [List.map_map] <;> rfl
        have o' : D.olds m (kvs.map fun p => Q.frost h' m k p.2) = true := o
        rw [e3] at o' ⊢
        exact Rvs.mapF (fun d v r o => Rv.frost R hm k d v r (by rwa [hl] at o)) t (by rw [hl]; exact o')
      | wt kvs =>
        obtain ⟨ob, ws, q, k1, t⟩ := ro
        simp only [thawF, Rv] at o ⊢
        refine ⟨a, ws, rfl, na, .inr ⟨ob, q⟩, k1, ?_⟩
        have e3 : (kvs.map fun p => Q.frost h' m k p.2) = (kvs.map (·.2)).map (Q.frost h' m k) := by rw [List.map_map] <;> rfl
        have o' : D.olds m (kvs.map fun p => Q.frost h' m k p.2) = true := o
        rw [e3] at o' ⊢
        exact Rvs.mapF (fun d v r o => Rv.frost R hm k d v r (by rwa [hl] at o)) t (by rw [hl]; exact o')
      | ins c fs => exact ro.elim
end
end Q

/-! QE: readings by the clean evaluator. -/
namespace Q
open PySem PySem.Spec PyProof.Rows L2
/-- what a clean end asks -/
def PostG {α β : Type} (K : PySem.W.Frag) (cv : Nat → Value) (Rel : List Addr → Hp → α → β → Prop) (μ : List Addr) (H : Hp) (r : R α) (C : β → Hp → Prop) (W : Value → Hp → Prop) : Prop := match r with
  | .ok a h' => ∀ b ν H', Ext μ H ν H' → Rh K ν H' h' → Rel ν H' a b → C b H'
  | .ex c h' => ∀ ν H', Ext μ H ν H' → Rh K ν H' h' → W (cv c) H'
  | .bad => False
section
variable {α α' β β' : Type} {K : PySem.W.Frag} {cv : Nat → Value} {Rel : List Addr → Hp → α → β → Prop} {Rel' : List Addr → Hp → α' → β' → Prop} {μ ν : List Addr} {G H : Hp} {W : Value → Hp → Prop}
theorem PostG.ext {r : R α} {C : β → Hp → Prop} (p : PostG K cv Rel μ G r C W) (x : Ext μ G ν H) : PostG K cv Rel ν H r C W := by
  cases r with
  | ok a h => exact fun b κ H' y => p b κ H' (x.trans y)
  | ex c h => exact fun κ H' y => p κ H' (x.trans y)
  | bad => exact p
theorem PostG.bind {r : R α'} {f : α' → Hc → R α} {C : β → Hp → Prop} (p : PostG K cv Rel μ H (r.bind f) C W) :
    PostG K cv Rel' μ H r (fun b H' => ∃ ν h' a, Ext μ H ν H' ∧ Rh K ν H' h' ∧ Rel' ν H' a b ∧ PostG K cv Rel ν H' (f a h') C W) W := by
  cases r with
  | ok a h => exact fun b ν H' x R rel => ⟨ν, h, a, x, R, rel, PostG.ext p x⟩
  | ex c h => exact p
  | bad => exact p
theorem PostG.imp {r : R α} {C C' : β → Hp → Prop} {W' : Value → Hp → Prop} (p : PostG K cv Rel μ H r C W) (hc : ∀ b H', C b H' → C' b H') (hw : ∀ c H', W c H' → W' c H') : PostG K cv Rel μ H r C' W' := by
  cases r with
  | ok a h => exact fun b ν H' x R rel => hc _ _ (p b ν H' x R rel)
  | ex c h => exact fun ν H' x R => hw _ _ (p ν H' x R)
  | bad => exact p
end
theorem PostG.post {K : PySem.W.Frag} {cv : Nat → Value} {μ : List Addr} {H : Hp} {W : Value → Hp → Prop} {r : R D} {C : VK} (p : PostG K cv (Rv K · ·) μ H r C W) (hn : ∀ c h, r ≠ .ex c h) : Post K μ H r C := by
  cases r with
  | ok a h => exact p
  | ex c h => exact absurd rfl (hn c h)
  | bad => exact p
theorem opt_nex {α : Type} {o : Option α} {f : α → R D} (h : ∀ a c h', f a ≠ .ex c h') (c : Nat) (h' : Hc) : opt o f ≠ .ex c h' := by
  cases o with
  | none => exact nofun
  | some a => exact h a c h'
theorem newL_nex {fr : Bool} {xs : List D} {h : Hc} (c : Nat) (h' : Hc) : newL fr xs h ≠ .ex c h' := by
  unfold newL
  split <;> (intro ee; cases ee; done)
theorem prim2_nex (q : P) (d e : D) (h : Hc) (c : Nat) (h' : Hc) : prim2 q d e h ≠ .ex c h' := by
  unfold prim2
  repeat' split
  all_goals first | (intro ee; cases ee; done) | exact newL_nex _ _ | (refine opt_nex (fun a c h' => ?_) _ _; first | (intro ee; cases ee; done) | (repeat' split) <;> first | (intro ee; cases ee; done) | exact newL_nex _ _ | (refine opt_nex (fun a c h' => ?_) _ _; (intro ee; cases ee; done)))
theorem prim1_nex (q : P) (d : D) (h : Hc) (c : Nat) (h' : Hc) : prim1 q d h ≠ .ex c h' := by
  unfold prim1
  repeat' split
  all_goals first | (intro ee; cases ee; done) | (refine opt_nex (fun a c h' => ?_) _ _; (intro ee; cases ee; done))
theorem primN_nex (q : P) (ds : List D) (h : Hc) (c : Nat) (h' : Hc) : primN q ds h ≠ .ex c h' := by
  unfold primN
  repeat' split
  all_goals first | (intro ee; cases ee; done) | exact newL_nex _ _ | (refine opt_nex (fun a c h' => ?_) _ _; first | (intro ee; cases ee; done) | (split <;> first | (intro ee; cases ee; done) | exact newL_nex _ _))
theorem primM_nex (q : P) (d : D) (ds : List D) (h : Hc) (c : Nat) (h' : Hc) : primM q d ds h ≠ .ex c h' := by
  unfold primM
  repeat' split
  all_goals first | (intro ee; cases ee; done) | (refine opt_nex (fun a c h' => ?_) _ _; (intro ee; cases ee; done))
theorem sliceP_nex (fr : Bool) (d l u : D) (h : Hc) (c : Nat) (h' : Hc) : sliceP fr d l u h ≠ .ex c h' := by
  unfold sliceP
  repeat' split
  all_goals first | (intro ee; cases ee; done) | (refine opt_nex (fun a c h' => ?_) _ _; first | (intro ee; cases ee; done) | exact newL_nex _ _ | (split <;> (intro ee; cases ee; done)))
theorem revP_nex (fr : Bool) (d : D) (h : Hc) (c : Nat) (h' : Hc) : revP fr d h ≠ .ex c h' := by
  unfold revP
  repeat' split
  all_goals first | (intro ee; cases ee; done) | exact newL_nex _ _
/-! ### readings -/
/-- an exception's wish at these slots -/
abbrev WAt (W : WX) (σ : L2.St) : Value → Hp → Prop := fun c H => ∀ d, W c d σ H
section
variable (K : PySem.W.Frag) (cv : Nat → Value) (W : WX)
def RG {α β : Type} (Rel : List Addr → Hp → α → β → Prop) (f : Env → Hc → R α) : L2.St → Hp → (β → Hp → Prop) → Prop := fun σ H C => ∃ μ ρ h, Re K μ H ρ σ ∧ Rh K μ H h ∧ PostG K cv Rel μ H (f ρ h) C (WAt W σ)
abbrev RE (f : Env → Hc → R D) : TE := RG K cv W (Rv K · ·) f
abbrev RA (f : Env → Hc → R (List D)) : TA := RG K cv W (Rvs K · ·) f
abbrev RT (f : Env → Hc → R Bool) : TT := RG K cv W (fun _ _ a b => a = b) f
end
section
variable {K : PySem.W.Frag} {cv : Nat → Value} {W : WX} {σ : L2.St} {H : Hp}
/-- one piece of code ahead of another -/
theorem RG.bind {α α' β β' : Type} {Rel : List Addr → Hp → α → β → Prop} {Rel' : List Addr → Hp → α' → β' → Prop} {a : Env → Hc → R α'} {f : Env → α' → Hc → R α} {C : β → Hp → Prop}
    (h : RG K cv W Rel (fun ρ h => (a ρ h).bind (f ρ)) σ H C) : RG K cv W Rel' a σ H fun b H1 => ∃ ν ρ h1 x, Re K ν H1 ρ σ ∧ Rh K ν H1 h1 ∧ Rel' ν H1 x b ∧ PostG K cv Rel ν H1 (f ρ x h1) C (WAt W σ) := by
  obtain ⟨μ, ρ, hh, re, rh, p⟩ := h
  refine ⟨μ, ρ, hh, re, rh, (PostG.bind (Rel' := Rel') p).imp (fun b H' ⟨ν, h', x, ex, R, rel, q⟩ => ⟨ν, ρ, h', x, re.ext ex, R, rel, q⟩) fun _ _ z => z⟩
end
theorem _root_.L2.PE.impQ {X : Cx} {e : Expr} {t t' : TE} (p : PE X e t) (h : ∀ σ H C, t' σ H C → t σ H C) : PE X e t' := ⟨fun pins s σ H C I w => p.run pins s σ H C I (h σ H C w)⟩
theorem _root_.L2.PT.impQ {X : Cx} {e : Expr} {t t' : TT} (p : PT X e t) (h : ∀ σ H C, t' σ H C → t σ H C) : PT X e t' := ⟨fun pins s σ H C I w => p.run pins s σ H C I (h σ H C w)⟩
theorem _root_.L2.PW.impQ {X : Cx} {e : Expr} {t t' : TT} (p : PW X e t) (h : ∀ σ H C, t' σ H C → t σ H C) : PW X e t' := ⟨fun wh pins s σ H C I w => p.run wh pins s σ H C I (h σ H C w)⟩
theorem _root_.L2.PA.impQ {X : Cx} {e : List Expr} {t t' : TA} (p : PA X e t) (h : ∀ σ H C, t' σ H C → t σ H C) : PA X e t' := ⟨fun pos pins s σ H C I w => p.run pos pins s σ H C I (h σ H C w)⟩
/-! ### what a def promises -/
def FnQ (P : Program) (w : World) (K : PySem.W.Frag) (mg : PySem.Str → Option Value) (base : Heap) (cv : Nat → Value) (k : Nat) (fa : Addr) (n : Nat) (f : List D → Hc → R D) : Prop :=
  ∀ (A : Around) (outer : List PySem.Env) (s : Shared) (H : Hp) (us : List Value) (vs : List V) (C : VK) (W : Value → Hp → Prop) (μ : List Addr) (h : Hc) (ds : List D), Room k A → A.guards = some [] → Env0 P w K mg base A outer s H → Vals vs us → ds.length = n → Rh K μ H h → Rvs K μ H ds vs →
    PostG K cv (Rv K · ·) μ H (f ds h) C W → codeAny (model P w) A (.call (.ref fa) ⟨us, []⟩) (CR (L2.CX P w) outer P w H s C (fun c d H' => W c H')) s
/-- a context and its clean side -/
structure Cxt (X : Cx) (C : Ck) (F : Nat → List D → Hc → R D) (cv : Nat → Value) (k : Nat) : Prop where
  hN : X.N = C.N
  nd : X.N.Nodup
  calm : X.calm = true
  room : Room k X.A
  gd : X.A.guards = some []
  fns : ∀ x f n, C.names.lookup x = some (f, n) → ∃ fa, X.mg x = some (.ref fa) ∧ PySem.W.keepIn X.K (.ref fa) = true ∧ FnQ X.prog X.w X.K X.mg X.base cv k fa n (F f)
  free : ∀ y ∈ C.frees, X.mg y = none
  cls : ∀ x c, C.clss.lookup x = some c → ∃ ca, cv c = .ref ca ∧ X.mg x = some (.ref ca) ∧ PySem.W.keepIn X.K (.ref ca) = true ∧ Raises X (.ref ca) ∧ ∃ B newId initId bmB, ExcBaseFacts B newId initId bmB ∧ PySem.W.excIn X.K ca bmB newId = true
  con : ∀ x d, C.consts.lookup x = some d → ∃ u v, X.mg x = some u ∧ RelV v u ∧ ∀ μ H, Rv X.K μ H d v
theorem Cxt.blk {X : Cx} {C : Ck} {F : Nat → List D → Hc → R D} {cv : Nat → Value} {k : Nat} (c : Cxt X C F cv k) (s : Shared) (H : Hp) (scope : Scope) (cenv : PySem.Env) (fp : List Addr) : Cxt (X.blk s H scope cenv fp) C F cv k :=
  ⟨c.hN, c.nd, c.calm, c.room, c.gd, c.fns, c.free, c.cls, c.con⟩
theorem takes_no {X : Cx} : Takes X (fun _ _ _ _ => False) := fun u s' ⟨_, _, _, _, _, _, _, _, _, _, _, _, _, _, _, _, z⟩ => z.elim
/-! ### names -/
theorem vis_of {sc : Scope} {x : PySem.Str} (h : visB sc x = true) : Vis sc x := by
  unfold visB at h
  split at h
  · exact .inl (by assumption)
  · exact .inr (.inl (by assumption))
  · exact .inr (.inr (by assumption))
  · cases h
theorem loc_of {sc : Scope} {x : PySem.Str} (h : locB sc x = true) : Loc sc x := by
  unfold locB at h
  split at h
  · exact .inl (by assumption)
  · exact .inr (by assumption)
  · cases h
theorem gl_of {X : Cx} {x : PySem.Str} (h : glB X.env.scope x = true) : Gl X x ∧ (x == ("__debug__" : PySem.Str)) = false ∧ x ≠ "__name__" := by
  unfold glB at h
  simp only [Bool.and_eq_true, decide_eq_true_eq, Bool.not_eq_true'] at h
  exact ⟨h.1.1, h.1.2, h.2⟩
section
variable {X : Cx} {C : Ck} {F : Nat → List D → Hc → R D} {cv : Nat → Value} {k : Nat} {W : WX}
theorem q_var (c : Cxt X C F cv k) {i : Nat} {x : PySem.Str} {pos : Pos} (h : ck C X.env.scope (.v i) (.Name x pos) = true) : PE X (.Name x pos) (RE X.K cv W (ev F (.v i))) := by
  simp only [ck, Bool.and_eq_true, decide_eq_true_eq, Bool.not_eq_true'] at h
  obtain ⟨⟨⟨h1, h2⟩, h3⟩, h4⟩ := h
  refine (pe_var (i := i) (by rw [c.hN]; exact h1) (vis_of h2) h3 h4).impQ fun σ H Q ⟨μ, ρ, hh, re, rh, p⟩ => ?_
  rw [ev] at p
  split at p
  · rename_i d e
    obtain ⟨v, e', r⟩ := re.get e
    exact ⟨v, e', p v μ H (Ext.refl μ H) rh r⟩
  · exact p.elim
theorem q_const {i : Const} {j : Nat} {pos : Pos} {d : D} (h : ck C X.env.scope (.c d) (.Constant i j pos) = true) : PE X (.Constant i j pos) (RE X.K cv W (ev F (.c d))) := by
  simp only [ck] at h
  have fin : ∀ {v : V}, (∀ μ H, Rv X.K μ H d v) → ∀ σ H (Q : VK), RE X.K cv W (ev F (.c d)) σ H Q → tC v σ H Q := fun {v} hv σ H Q ⟨μ, ρ, hh, re, rh, p⟩ => by
    rw [ev] at p
    exact p v μ H (Ext.refl μ H) rh (hv μ H)
  cases i <;> cases d <;> simp only [constB, Bool.false_eq_true, decide_eq_true_eq, beq_iff_eq] at h
  · exact pe_non.impQ (fin fun μ H => by simp only [Rv])
  · subst h
    exact pe_bl.impQ (fin fun μ H => by simp only [Rv])
  · subst h
    exact pe_int.impQ (fin fun μ H => by simp only [Rv])
  · subst h
    exact pe_str.impQ (fin fun μ H => by simp only [Rv])
theorem q_con (c : Cxt X C F cv k) {d : D} {x : PySem.Str} {pos : Pos} (h : ck C X.env.scope (.c d) (.Name x pos) = true) : PE X (.Name x pos) (RE X.K cv W (ev F (.c d))) := by
  simp only [ck, Bool.and_eq_true, decide_eq_true_eq] at h
  obtain ⟨g, hd, hn⟩ := gl_of h.1
  obtain ⟨u, v, hm, r, hv⟩ := c.con x d h.2
  refine (pe_glob g hm r hd).impQ fun σ H Q ⟨μ, ρ, hh, re, rh, p⟩ => ?_
  rw [ev] at p
  exact p v μ H (Ext.refl μ H) rh (hv μ H)
end
end Q

/-! QF: each form of expression, of test. -/
namespace Q
open PySem PySem.Spec PyProof.Rows L2
section
variable {K : PySem.W.Frag} {cv : Nat → Value} {W : WX} {σ : L2.St} {H : Hp}
theorem RG.one {α β : Type} {Rel : List Addr → Hp → α → β → Prop} {a : Env → Hc → R D} {f : D → Hc → R α} {C : β → Hp → Prop} (h : RG K cv W Rel (fun ρ h => (a ρ h).bind f) σ H C) :
    RE K cv W a σ H fun x H1 => ∃ μ h d, Rh K μ H1 h ∧ Rv K μ H1 d x ∧ PostG K cv Rel μ H1 (f d h) C (WAt W σ) := by
  obtain ⟨μ, ρ, hh, re, rh, p⟩ := h
  exact ⟨μ, ρ, hh, re, rh, (PostG.bind (Rel' := (Rv K · ·)) p).imp (fun b H' ⟨ν, h', x, ex, R, rel, q⟩ => ⟨ν, h', x, R, rel, q⟩) fun _ _ z => z⟩
theorem RG.two {α β : Type} {Rel : List Addr → Hp → α → β → Prop} {a b : Env → Hc → R D} {f : D → D → Hc → R α} {C : β → Hp → Prop} (h : RG K cv W Rel (fun ρ h => (a ρ h).bind fun d h => (b ρ h).bind fun e h => f d e h) σ H C) :
    RE K cv W a σ H fun x H1 => RE K cv W b σ H1 fun y H2 => ∃ μ h d e, Rh K μ H2 h ∧ Rv K μ H2 d x ∧ Rv K μ H2 e y ∧ PostG K cv Rel μ H2 (f d e h) C (WAt W σ) := by
  obtain ⟨μ, ρ, hh, re, rh, p⟩ := h
  exact ⟨μ, ρ, hh, re, rh, (PostG.bind (Rel' := (Rv K · ·)) p).imp (fun b H' ⟨ν, h', x, ex, R, rel, q⟩ => ⟨ν, ρ, h', re.ext ex, R, (PostG.bind (Rel' := (Rv K · ·)) q).imp (fun y H2 ⟨κ, h2, e, ex2, R2, re2, q2⟩ => ⟨κ, h2, x, e, R2, Rv.ext ex2 _ _ rel, re2, q2⟩) fun _ _ z => z⟩) fun _ _ z => z⟩
theorem RG.args {α β : Type} {Rel : List Addr → Hp → α → β → Prop} {a : Env → Hc → R (List D)} {f : List D → Hc → R α} {C : β → Hp → Prop} (h : RG K cv W Rel (fun ρ h => (a ρ h).bind f) σ H C) :
    RA K cv W a σ H fun x H1 => ∃ μ h d, Rh K μ H1 h ∧ Rvs K μ H1 d x ∧ PostG K cv Rel μ H1 (f d h) C (WAt W σ) := by
  obtain ⟨μ, ρ, hh, re, rh, p⟩ := h
  exact ⟨μ, ρ, hh, re, rh, (PostG.bind (Rel' := (Rvs K · ·)) p).imp (fun b H' ⟨ν, h', x, ex, R, rel, q⟩ => ⟨ν, h', x, R, rel, q⟩) fun _ _ z => z⟩
end
section
variable {X : Cx} {C : Ck} {F : Nat → List D → Hc → R D} {cv : Nat → Value} {k : Nat} {W : WX} {e x y z : Expr} {a b d : CE} {pos : Pos}
theorem q_bin {q : P} {op : Operator} (ho : OpR X (binaryOp op) (r2 X.K q)) (ha : PE X x (RE X.K cv W (ev F a))) (hb : PE X y (RE X.K cv W (ev F b))) : PE X (.BinOp x op y pos) (RE X.K cv W (ev F (.bin q a b))) :=
  (pe_op ho ha hb).impQ fun σ H Q h => by
    simp only [RE, RG, ev] at h
    obtain ⟨μ, ρ, hh, re, rh, p⟩ := RG.two (K := X.K) (cv := cv) (W := W) (a := ev F a) (b := ev F b) (f := prim2 q) h
    exact ⟨μ, ρ, hh, re, rh, p.imp (fun v H1 ⟨μ, ρ, hh, re, rh, p⟩ => ⟨μ, ρ, hh, re, rh, p.imp (fun u H2 ⟨μ, h, d, e, R, rd, re, p⟩ => ⟨μ, h, d, e, R, rd, re, p.post (prim2_nex _ _ _ _)⟩) fun _ _ z => z⟩) fun _ _ z => z⟩
theorem q_cmp {q : P} {op : CmpOp} (ho : OpR X (compareOp op) (r2 X.K q)) (ha : PE X x (RE X.K cv W (ev F a))) (hb : PE X y (RE X.K cv W (ev F b))) (hm : behindInMarks op y = false) : PE X (.Compare x [op] [y] pos) (RE X.K cv W (ev F (.cmp q a b))) :=
  (pe_cmpR ho ha hb hm).impQ fun σ H Q h => by
    simp only [RE, RG, ev] at h
    obtain ⟨μ, ρ, hh, re, rh, p⟩ := RG.two (K := X.K) (cv := cv) (W := W) (a := ev F a) (b := ev F b) (f := prim2 q) h
    exact ⟨μ, ρ, hh, re, rh, p.imp (fun v H1 ⟨μ, ρ, hh, re, rh, p⟩ => ⟨μ, ρ, hh, re, rh, p.imp (fun u H2 ⟨μ, h, d, e, R, rd, re, p⟩ => ⟨μ, h, d, e, R, rd, re, p.post (prim2_nex _ _ _ _)⟩) fun _ _ z => z⟩) fun _ _ z => z⟩
theorem q_un {q : P} {op : UnaryOp} (ho : UnR X (unaryOp op) (r1 X.K q)) (ha : PE X x (RE X.K cv W (ev F a))) : PE X (.UnaryOp op x pos) (RE X.K cv W (ev F (.un q a))) :=
  (pe_un ho ha).impQ fun σ H Q h => by
    simp only [RE, RG, ev] at h
    obtain ⟨μ, ρ, hh, re, rh, p⟩ := RG.one (K := X.K) (cv := cv) (W := W) (a := ev F a) (f := prim1 q) h
    exact ⟨μ, ρ, hh, re, rh, p.imp (fun v H1 ⟨μ, h, d, R, rd, p⟩ => ⟨μ, h, d, R, rd, p.post (prim1_nex _ _ _)⟩) fun _ _ z => z⟩
/-- is None and the like -/
theorem un_reads {q : P} {σ : L2.St} {H : Hp} {Q : VK} (h : RE X.K cv W (ev F (.un q a)) σ H Q) : tUn (r1 X.K q) (RE X.K cv W (ev F a)) σ H Q := by
  simp only [RE, RG, ev] at h
  obtain ⟨μ, ρ, hh, re, rh, p⟩ := RG.one (K := X.K) (cv := cv) (W := W) (a := ev F a) (f := prim1 q) h
  exact ⟨μ, ρ, hh, re, rh, p.imp (fun v H1 ⟨μ, h, d, R, rd, p⟩ => ⟨μ, h, d, R, rd, p.post (prim1_nex _ _ _)⟩) fun _ _ z => z⟩
theorem q_isOp {q : P} {op : CmpOp} {c : Const} {j : Nat} {p : Pos} (h : isB1 q op c = true) (ha : PE X x (RE X.K cv W (ev F a))) : PE X (.Compare x [op] [.Constant c j p] pos) (RE X.K cv W (ev F (.un q a))) := by
  unfold isB1 at h
  split at h
  · exact (pe_isN ha).impQ fun σ H Q => un_reads
  · exact (pe_isntN ha).impQ fun σ H Q => un_reads
  · rw [beq_iff_eq] at h
    subst h
    exact (pe_isB ha).impQ fun σ H Q => un_reads
  · rw [beq_iff_eq] at h
    subst h
    exact (pe_isntB ha).impQ fun σ H Q => un_reads
  · cases h
theorem PW.plain {t : TT} (he : ∀ whole, isTrue e X.env whole = isTrue e X.env (eval e X.env)) (h : PT X e t) : PW X e t := ⟨fun wh pins s σ H Q I hw => by
  rw [he]
  exact h.run pins s σ H Q I hw⟩
/-- a comparison's result -/
theorem opt_bl {α : Type} {o : Option α} {f : α → Bool} {h h' : Hc} {x : D} (hr : opt o (fun r => R.ok (D.bl (f r)) h) = .ok x h') : ∃ b, x = .bl b := by
  cases o with
  | none => cases hr
  | some r => cases hr; exact ⟨_, rfl⟩
theorem cmp_bl {q : P} {op : CmpOp} {d e : D} {h h' : Hc} {x : D} (hq : cmpB q op = true) (hr : prim2 q d e h = .ok x h') : ∃ b, x = .bl b := by
  cases q <;> cases op <;> simp only [cmpB, Bool.false_eq_true] at hq
  all_goals
    simp only [prim2] at hr
    repeat' split at hr
    all_goals first | contradiction | (cases hr; done) | (cases hr; exact ⟨_, rfl⟩) | exact opt_bl hr
/-- a comparison as a test -/
theorem tcmp {q : P} {op : CmpOp} (hq : cmpB q op = true) {μ : List Addr} {H : Hp} {d e : D} {h : Hc} {Q : Bool → Hp → Prop} {W' : Value → Hp → Prop} (p : PostG X.K cv (fun _ _ a b => a = b) μ H (truthR (prim2 q d e h)) Q W') :
    Post X.K μ H (prim2 q d e h) (fun z H3 => ∃ k, z = .bl k ∧ Q k H3) := by
  unfold truthR at p
  cases hr : prim2 q d e h with
  | ok x h' =>
    obtain ⟨b, rfl⟩ := cmp_bl hq hr
    rw [hr] at p
    intro v ν H' ex R rv
    simp only [Rv] at rv
    subst rv
    exact ⟨b, rfl, p b ν H' ex R rfl⟩
  | ex c h' => exact absurd hr (prim2_nex _ _ _ _ _ _)
  | bad => rw [hr] at p; exact p.elim
theorem bind_assoc {α β γ : Type} (r : R α) (f : α → Hc → R β) (g : β → Hc → R γ) : (r.bind f).bind g = r.bind fun a h => (f a h).bind g := by
  cases r <;> rfl
theorem qt_cmp {q : P} {op : CmpOp} (hq : cmpB q op = true) (ho : OpR X (compareOp op) (r2 X.K q)) (ha : PE X x (RE X.K cv W (ev F a))) (hb : PE X y (RE X.K cv W (ev F b))) (hm : behindInMarks op y = false) : PT X (.Compare x [op] [y] pos) (RT X.K cv W fun ρ h => truthR (ev F (.cmp q a b) ρ h)) :=
  (pt_cmpR ho ha hb hm).impQ fun σ H Q h => by
    simp only [RT, RG, ev, truthR, bind_assoc] at h
    obtain ⟨μ, ρ, hh, re, rh, p⟩ := RG.two (K := X.K) (cv := cv) (W := W) (a := ev F a) (b := ev F b) (f := fun d e h => truthR (prim2 q d e h)) h
    exact ⟨μ, ρ, hh, re, rh, p.imp (fun v H1 ⟨μ, ρ, hh, re, rh, p⟩ => ⟨μ, ρ, hh, re, rh, p.imp (fun u H2 ⟨μ, h, d, e, R, rd, re, p⟩ => ⟨μ, h, d, e, R, rd, re, tcmp hq p⟩) fun _ _ z => z⟩) fun _ _ z => z⟩
/-- a value's truth as a test -/
theorem qt_truth {f : Env → Hc → R D} (he : ∀ whole, isTrue x X.env whole = (do let v ← whole; standAt x.pos; holding [v] (truthy v))) (hx : PE X x (RE X.K cv W f)) : PT X x (RT X.K cv W fun ρ h => truthR (f ρ h)) :=
  (pt_truth hx he).impQ fun σ H Q h => by
    obtain ⟨μ, ρ, hh, re, rh, p⟩ := RG.one (K := X.K) (cv := cv) (W := W) (a := f) (f := fun d h => match truth h d with
      | some b => .ok b h
      | none => .bad) h
    refine ⟨μ, ρ, hh, re, rh, p.imp (fun v H1 ⟨μ, h, d, R, rd, p⟩ => ?_) fun _ _ z => z⟩
    split at p
    · rename_i b eb
      exact ⟨b, truth_rv R rd eb, p b μ H1 (Ext.refl μ H1) R rfl⟩
    · exact p.elim
theorem truthR_bind {a : R D} {f : D → Hc → R D} : truthR (a.bind f) = a.bind fun d h => truthR (f d h) := by cases a <;> rfl
theorem truthR_ok {d : D} {h : Hc} : truthR (.ok d h) = match truth h d with
  | some b => .ok b h
  | none => .bad := rfl
theorem qt_not (ha : PT X x (RT X.K cv W fun ρ h => truthR (ev F a ρ h))) : PT X (.UnaryOp .Not x pos) (RT X.K cv W fun ρ h => truthR (ev F (.un .not a) ρ h)) :=
  (pt_not ha).impQ fun σ H Q ⟨μ, ρ, hh, re, rh, p⟩ => by
    refine ⟨μ, ρ, hh, re, rh, ?_⟩
    simp only [ev, truthR_bind] at p
    show PostG X.K cv (fun x x_1 a b => a = b) μ H (truthR (ev F a ρ hh)) (fun c H1 => Q (!c) H1) (WAt W σ)
    cases hr : ev F a ρ hh with
    | ok d h' =>
      rw [hr] at p
      rw [truthR_ok]
      cases ht : truth h' d with
      | none =>
        simp only [R.bind_ok, prim1, ht, opt_none] at p
        exact p
      | some b =>
        simp only [R.bind_ok, prim1, ht, opt_some] at p
        intro b' ν H' ex R e
        subst e
        exact p (!b) ν H' ex R rfl
    | ex c h' => rw [hr] at p; exact p
    | bad => rw [hr] at p; exact p
theorem RG.oneT {q : P} {f : D → Bool} (hf : ∀ d h, prim1 q d h = .ok (.bl (f d)) h) {σ : L2.St} {H : Hp} {Q : Bool → Hp → Prop} (h : RT X.K cv W (fun ρ h => truthR (ev F (.un q a) ρ h)) σ H Q) :
    RE X.K cv W (ev F a) σ H fun x H1 => ∃ μ h d, Rh X.K μ H1 h ∧ Rv X.K μ H1 d x ∧ Q (f d) H1 := by
  obtain ⟨μ, ρ, hh, re, rh, p⟩ := h
  refine ⟨μ, ρ, hh, re, rh, ?_⟩
  simp only [ev, truthR_bind] at p
  refine (PostG.bind (Rel' := (Rv X.K · ·)) p).imp (fun x H1 ⟨ν, h1, d, ex, R, rd, q⟩ => ?_) fun _ _ z => z
  refine ⟨ν, h1, d, R, rd, ?_⟩
  rw [hf] at q
  exact q (f d) ν H1 (Ext.refl ν H1) R rfl
theorem qt_isOp {q : P} {op : CmpOp} {c : Const} {j : Nat} {p : Pos} (h : isB1 q op c = true) (ha : PE X x (RE X.K cv W (ev F a))) : PT X (.Compare x [op] [.Constant c j p] pos) (RT X.K cv W fun ρ h => truthR (ev F (.un q a) ρ h)) := by
  refine ⟨fun pins s σ H Q I hw => ?_⟩
  unfold isB1 at h
  split at h
  · refine wpAny_isTrue_Compare1 (thn (ha.run pins s σ H _ I (RG.oneT (f := fun d => decide (d = .non)) (fun _ _ => rfl) hw)) fun v s1 ⟨x, H1, I1, r1, μ, hh, d, R, rd, q⟩ => Constant_none (is_none_gen (wpAny_truthy_bool ⟨H1, I1, ?_⟩))) (nobehind _ (by decide) (by decide))
    rw [r1.none_iff, ← isN_iff rd]
    exact q
  · refine wpAny_isTrue_Compare1 (thn (ha.run pins s σ H _ I (RG.oneT (f := fun d => !decide (d = .non)) (fun _ _ => rfl) hw)) fun v s1 ⟨x, H1, I1, r1, μ, hh, d, R, rd, q⟩ => Constant_none (isnot_none_gen (wpAny_truthy_bool ⟨H1, I1, ?_⟩))) (nobehind _ (by decide) (by decide))
    rw [r1.none_iff, ← isN_iff rd]
    exact q
  · rename_i b1 b2
    rw [beq_iff_eq] at h
    subst h
    refine wpAny_isTrue_Compare1 (thn (ha.run pins s σ H _ I (RG.oneT (f := fun d => decide (d = .bl b1)) (fun _ _ => rfl) hw)) fun v s1 ⟨x, H1, I1, r1, μ, hh, d, R, rd, q⟩ => Constant_bool (is_bl_gen (relV_nb r1) (wpAny_truthy_bool ⟨H1, I1, ?_⟩))) (nobehind _ (by decide) (by decide))
    rw [relV_bl b1 r1, ← isB_iff b1 rd]
    exact q
  · rename_i b1 b2
    rw [beq_iff_eq] at h
    subst h
    refine wpAny_isTrue_Compare1 (thn (ha.run pins s σ H _ I (RG.oneT (f := fun d => !decide (d = .bl b1)) (fun _ _ => rfl) hw)) fun v s1 ⟨x, H1, I1, r1, μ, hh, d, R, rd, q⟩ => Constant_bool (isnt_bl_gen (relV_nb r1) (wpAny_truthy_bool ⟨H1, I1, ?_⟩))) (nobehind _ (by decide) (by decide))
    rw [relV_bl b1 r1, ← isB_iff b1 rd]
    exact q
  · cases h
end
end Q

/-! QG: and, or, displays, calls. -/
namespace Q
open PySem PySem.Spec PyProof.Rows L2
section
variable {X : Cx} {C : Ck} {F : Nat → List D → Hc → R D} {cv : Nat → Value} {k : Nat} {W : WX} {e x y z : Expr} {a b d : CE} {pos : Pos} {r es : List Expr} {cs : List CE}
/-! and, or -/
theorem truth_step {Q : VK} {μ : List Addr} {H : Hp} {v : V} {h : Hc} {d : D} {W' : Value → Hp → Prop} {f : Hc → R D} {K : PySem.W.Frag} (t : Bool) (R : Rh K μ H h) (rd : Rv K μ H d v)
    (p : PostG K cv (Rv K · ·) μ H (match truth h d with
      | some b => if b = t then f h else .ok d h
      | none => .bad) Q W') : ∃ b, TruV K v H b ∧ if b = t then PostG K cv (Rv K · ·) μ H (f h) Q W' else Q v H := by
  split at p
  · rename_i b eb
    refine ⟨b, truth_rv R rd eb, ?_⟩
    split at p
    · rename_i hb
      rw [if_pos hb]
      exact p
    · rename_i hb
      rw [if_neg hb]
      exact p v μ H (Ext.refl μ H) R rd
  · exact p.elim
theorem q_and (ha : PE X x (RE X.K cv W (ev F a))) (hb : PE X (.BoolOp .And (y :: r) pos) (RE X.K cv W (ev F b))) : PE X (.BoolOp .And (x :: y :: r) pos) (RE X.K cv W (ev F (.and a b))) :=
  (pe_andT ha hb).impQ fun σ H Q ⟨μ, ρ, hh, re, rh, p⟩ => by
    simp only [ev] at p
    refine ⟨μ, ρ, hh, re, rh, (PostG.bind (Rel' := (Rv X.K · ·)) p).imp (fun v H1 ⟨ν, h1, d, ex, R, rd, q⟩ => ?_) fun _ _ z => z⟩
    split at q
    · rename_i eb
      exact ⟨true, truth_rv R rd eb, ν, ρ, h1, re.ext ex, R, q⟩
    · rename_i eb
      exact ⟨false, truth_rv R rd eb, q v ν H1 (Ext.refl ν H1) R rd⟩
    · exact q.elim
theorem q_or (ha : PE X x (RE X.K cv W (ev F a))) (hb : PE X (.BoolOp .Or (y :: r) pos) (RE X.K cv W (ev F b))) : PE X (.BoolOp .Or (x :: y :: r) pos) (RE X.K cv W (ev F (.or a b))) :=
  (pe_orT ha hb).impQ fun σ H Q ⟨μ, ρ, hh, re, rh, p⟩ => by
    simp only [ev] at p
    refine ⟨μ, ρ, hh, re, rh, (PostG.bind (Rel' := (Rv X.K · ·)) p).imp (fun v H1 ⟨ν, h1, d, ex, R, rd, q⟩ => ?_) fun _ _ z => z⟩
    split at q
    · rename_i eb
      exact ⟨true, truth_rv R rd eb, q v ν H1 (Ext.refl ν H1) R rd⟩
    · rename_i eb
      exact ⟨false, truth_rv R rd eb, ν, ρ, h1, re.ext ex, R, q⟩
    · exact q.elim
theorem qw_and (ha : PT X x (RT X.K cv W fun ρ h => truthR (ev F a ρ h))) (hb : PW X (.BoolOp .And (y :: r) pos) (RT X.K cv W fun ρ h => truthR (ev F b ρ h))) : PW X (.BoolOp .And (x :: y :: r) pos) (RT X.K cv W fun ρ h => truthR (ev F (.and a b) ρ h)) :=
  (pw_and ha hb).impQ fun σ H Q ⟨μ, ρ, hh, re, rh, p⟩ => by
    simp only [ev, truthR_bind] at p
    refine ⟨μ, ρ, hh, re, rh, ?_⟩
    show PostG X.K cv (fun x x_1 a b => a = b) μ H (truthR (ev F a ρ hh)) _ (WAt W σ)
    cases hr : ev F a ρ hh with
    | ok d h' =>
      rw [hr] at p
      rw [truthR_ok]
      simp only [R.bind_ok] at p
      cases ht : truth h' d with
      | none => simp only [ht] at p; exact p
      | some b0 =>
        intro b1 ν H' ex R eb
        subst eb
        cases b0 with
        | true =>
          simp only [ht] at p
          rw [if_pos rfl]
          exact ⟨ν, ρ, h', re.ext ex, R, PostG.ext p ex⟩
        | false =>
          simp only [ht] at p
          rw [if_neg Bool.false_ne_true]
          rw [truthR_ok, ht] at p
          exact p false ν H' ex R rfl
    | ex c h' => rw [hr] at p; exact p
    | bad => rw [hr] at p; exact p
theorem qw_or (ha : PT X x (RT X.K cv W fun ρ h => truthR (ev F a ρ h))) (hb : PW X (.BoolOp .Or (y :: r) pos) (RT X.K cv W fun ρ h => truthR (ev F b ρ h))) : PW X (.BoolOp .Or (x :: y :: r) pos) (RT X.K cv W fun ρ h => truthR (ev F (.or a b) ρ h)) :=
  (pw_or ha hb).impQ fun σ H Q ⟨μ, ρ, hh, re, rh, p⟩ => by
    simp only [ev, truthR_bind] at p
    refine ⟨μ, ρ, hh, re, rh, ?_⟩
    show PostG X.K cv (fun x x_1 a b => a = b) μ H (truthR (ev F a ρ hh)) _ (WAt W σ)
    cases hr : ev F a ρ hh with
    | ok d h' =>
      rw [hr] at p
      rw [truthR_ok]
      simp only [R.bind_ok] at p
      cases ht : truth h' d with
      | none => simp only [ht] at p; exact p
      | some b0 =>
        intro b1 ν H' ex R eb
        subst eb
        cases b0 with
        | true =>
          simp only [ht] at p
          rw [if_pos rfl]
          rw [truthR_ok, ht] at p
          exact p true ν H' ex R rfl
        | false =>
          simp only [ht] at p
          rw [if_neg Bool.false_ne_true]
          exact ⟨ν, ρ, h', re.ext ex, R, PostG.ext p ex⟩
    | ex c h' => rw [hr] at p; exact p
    | bad => rw [hr] at p; exact p
/-- a if c else b -/
theorem q_ite {c : CE} {t : Expr} (hc : PT X t (RT X.K cv W fun ρ h => truthR (ev F c ρ h))) (ha : PE X x (RE X.K cv W (ev F a))) (hb : PE X y (RE X.K cv W (ev F b))) : PE X (.IfExp t x y pos) (RE X.K cv W (ev F (.ite c a b))) :=
  (pe_ifExp hc ha hb).impQ fun σ H Q ⟨μ, ρ, hh, re, rh, p⟩ => by
    simp only [ev] at p
    refine ⟨μ, ρ, hh, re, rh, (PostG.bind (Rel' := fun _ _ a b => a = b) p).imp (fun v H1 ⟨ν, h1, d, ex, R, rd, q⟩ => ?_) fun _ _ z => z⟩
    subst rd
    cases d with
    | true => exact ⟨ν, ρ, h1, re.ext ex, R, q⟩
    | false => exact ⟨ν, ρ, h1, re.ext ex, R, q⟩
theorem pt_ifExp' {t : Expr} {tt ta tb : TT} (hc : PT X t tt) (ha : PT X x ta) (hb : PT X y tb) : PT X (.IfExp t x y pos) (fun σ H Q => tt σ H fun c H1 => if c = true then ta σ H1 Q else tb σ H1 Q) := ⟨fun pins s σ H Q I h => by
  show wpAny _ _ (isTrue t X.env (eval t X.env) >>= fun c => if c = true then isTrue x X.env (eval x X.env) else isTrue y X.env (eval y X.env)) _ _ s
  refine wpAny_bind (thn (hc.run pins s σ H _ I h) fun c s1 ⟨H1, I1, q⟩ => ?_)
  cases c with
  | true => exact ha.run pins s1 σ H1 Q I1 q
  | false => exact hb.run pins s1 σ H1 Q I1 q⟩
theorem qt_ite {c : CE} {t : Expr} (hc : PT X t (RT X.K cv W fun ρ h => truthR (ev F c ρ h))) (ha : PT X x (RT X.K cv W fun ρ h => truthR (ev F a ρ h))) (hb : PT X y (RT X.K cv W fun ρ h => truthR (ev F b ρ h))) : PT X (.IfExp t x y pos) (RT X.K cv W fun ρ h => truthR (ev F (.ite c a b) ρ h)) :=
  (pt_ifExp' hc ha hb).impQ fun σ H Q ⟨μ, ρ, hh, re, rh, p⟩ => by
    have e : truthR (ev F (.ite c a b) ρ hh) = (truthR (ev F c ρ hh)).bind fun k h => if k then truthR (ev F a ρ h) else truthR (ev F b ρ h) := by
      simp only [ev]
      cases truthR (ev F c ρ hh) with
      | ok k h => cases k <;> rfl
      | ex c h => rfl
      | bad => rfl
    have p : PostG X.K cv (fun x x_1 a b => a = b) μ H (truthR (ev F (.ite c a b) ρ hh)) Q (WAt W σ) := p
    rw [e] at p
    refine ⟨μ, ρ, hh, re, rh, (PostG.bind (Rel' := fun _ _ a b => a = b) p).imp (fun v H1 ⟨ν, h1, d, ex, R, rd, q⟩ => ?_) fun _ _ z => z⟩
    subst rd
    cases d with
    | true => exact ⟨ν, ρ, h1, re.ext ex, R, q⟩
    | false => exact ⟨ν, ρ, h1, re.ext ex, R, q⟩
/-! argument lists -/
theorem star_plain {C : Ck} {sc : Scope} {env : PySem.Env} (h : ck C sc a x = true) : starEach (x :: es) env = (false, eval x env) :: starEach es env := by
  cases x <;> first | rfl | (cases a <;> simp [ck] at h)
theorem stars_plain {C : Ck} {sc : Scope} {env : PySem.Env} : ∀ {cs : List CE} {es : List Expr}, cks C sc cs es = true → (starEach es env).any (·.1) = false
  | [], [], _ => rfl
  | c :: cs, e :: es, h => by
    simp only [cks, Bool.and_eq_true] at h
    rw [star_plain h.1]
    show (false || (starEach es env).any (·.1)) = false
    rw [stars_plain h.2]
    rfl
  | [], _ :: _, h => by simp [cks] at h
  | _ :: _, [], h => by simp [cks] at h
theorem back_plain {env : PySem.Env} {pos : Pos} (h : (starEach es env).any (·.1) = false) : (backTo pos (starEach es env)).any (·.1) = false := by
  have e : ∀ l : List (Bool × Sem Value), (backTo pos l).any (·.1) = l.any (·.1) := fun l => by
    induction l with
    | nil => rfl
    | cons p l ih =>
      obtain ⟨b, t⟩ := p
      show (b || (backTo pos l).any (·.1)) = (b || l.any (·.1))
      rw [ih]
  rw [e]
  exact h
theorem q_nil : PA X [] (RA X.K cv W (evs F [])) := pa_nil.impQ fun σ H Q ⟨μ, ρ, hh, re, rh, p⟩ => by
  simp only [evs] at p
  exact p [] μ H (Ext.refl μ H) rh Rvs.nil
theorem q_cons {C : Ck} {sc : Scope} (hk : ck C sc a x = true) (ha : PE X x (RE X.K cv W (ev F a))) (hr : PA X es (RA X.K cv W (evs F cs))) : PA X (x :: es) (RA X.K cv W (evs F (a :: cs))) :=
  (pa_cons ha hr (star_plain hk)).impQ fun σ H Q ⟨μ, ρ, hh, re, rh, p⟩ => by
    simp only [evs] at p
    refine ⟨μ, ρ, hh, re, rh, (PostG.bind (Rel' := (Rv X.K · ·)) p).imp (fun v H1 ⟨ν, h1, d, ex, R, rd, q⟩ => ⟨ν, ρ, h1, re.ext ex, R, (PostG.bind (Rel' := (Rvs X.K · ·)) q).imp (fun vs H2 ⟨κ, h2, ds, ex2, R2, rds, q2⟩ => ?_) fun _ _ z => z⟩) fun _ _ z => z⟩
    exact q2 (v :: vs) κ H2 (Ext.refl κ H2) R2 (Rvs.cons (Rv.ext ex2 _ _ rd) rds)
/-! displays -/
theorem q_tup {n : Nat} (h : PA X es (RA X.K cv W (evs F cs))) : PE X (.Tuple es n pos) (RE X.K cv W (ev F (.tup cs))) :=
  (pe_tup h).impQ fun σ H Q hw => by
    simp only [RE, RG, ev] at hw
    obtain ⟨μ, ρ, hh, re, rh, p⟩ := RG.args (K := X.K) (cv := cv) (W := W) (a := evs F cs) (f := fun ds h => if ds.length ≤ sizeLine then R.ok (D.tup ds) h else .bad) hw
    refine ⟨μ, ρ, hh, re, rh, p.imp (fun vs H1 ⟨ν, h1, ds, R, rd, q⟩ => ?_) fun _ _ z => z⟩
    split at q
    · rename_i hl
      exact ⟨by rw [← rd.length]; exact hl, Post.tup (PostG.post q nofun) R rd⟩
    · exact q.elim
theorem q_lst {fr : Bool} (h : PA X es (RA X.K cv W (evs F cs))) : PE X (.List es pos) (RE X.K cv W (ev F (.lst fr cs))) :=
  (pe_lst h).impQ fun σ H Q hw => by
    simp only [RE, RG, ev] at hw
    obtain ⟨μ, ρ, hh, re, rh, p⟩ := RG.args (K := X.K) (cv := cv) (W := W) (a := evs F cs) (f := fun ds h => if ds.length ≤ sizeLine then newL fr ds h else .bad) hw
    refine ⟨μ, ρ, hh, re, rh, p.imp (fun vs H1 ⟨ν, h1, ds, R, rd, q⟩ => ?_) fun _ _ z => z⟩
    split at q
    · rename_i hl
      exact ⟨by rw [← rd.length]; exact hl, Post.newL (PostG.post q newL_nex) R rd⟩
    · exact q.elim
theorem q_dnew {t : Bool} : PE X (.Dict [] [] pos) (RE X.K cv W (ev F (.dnew t))) := by
  cases t with
  | false =>
    refine pe_dnewK.impQ fun σ H Q ⟨μ, ρ, hh, re, rh, p⟩ => fun a ha => ?_
    simp only [ev, Bool.false_eq_true, if_false] at p
    refine p _ (μ ++ [a]) _ (Ext.push μ ha) (rh.push ha ⟨[], upd_same, rfl, Rvs.nil⟩) ?_
    simp only [Rv]
    refine ⟨a, rfl, ?_⟩
    rw [rh.len, List.getElem?_append_right (Nat.le_refl _)]
    simp
  | true =>
    refine pe_dnewT.impQ fun σ H Q ⟨μ, ρ, hh, re, rh, p⟩ => fun a ha => ?_
    simp only [ev, if_true] at p
    refine p _ (μ ++ [a]) _ (Ext.push μ ha) (rh.push ha ⟨[], upd_same, rfl, Rvs.nil⟩) ?_
    simp only [Rv]
    refine ⟨a, rfl, ?_⟩
    rw [rh.len, List.getElem?_append_right (Nat.le_refl _)]
    simp
end
end Q

/-! QH: calls, methods, subscripts, dict displays. -/
namespace Q
open PySem PySem.Spec PyProof.Rows L2
section
variable {X : Cx} {C : Ck} {F : Nat → List D → Hc → R D} {cv : Nat → Value} {k : Nat} {W : WX} {e x y z : Expr} {a b d : CE} {pos p0 : Pos} {r es : List Expr} {cs : List CE} {nm : PySem.Str}
/-- f(..), f a def -/
theorem run_q {fa : Addr} {n : Nat} {f : List D → Hc → R D} (c : Cxt X C F cv k) (tk : Takes X W) (fq : FnQ X.prog X.w X.K X.mg X.base cv k fa n f) {pins : List (Addr × Obj)} {σ : L2.St} {H : Hp} {s : Shared} {Q : VK} {us : List Value} {vs : List V} {μ : List Addr} {h : Hc} {ds : List D}
    (I : Inv X pins σ H s) (r : Vals vs us) (hn : ds.length = n) (R : Rh X.K μ H h) (rd : Rvs X.K μ H ds vs) (p : PostG X.K cv (Rv X.K · ·) μ H (f ds h) Q (WAt W σ)) : wpAny (model X.prog X.w) X.A (call (.ref fa) us) (EP X pins σ Q) X.xe s := by
  refine wpAny_call (codeAny_mono (fq X.A X.stack s H us vs Q (WAt W σ) μ h ds c.room c.gd I.env0 r hn R rd p) fun r s' hq => ?_)
  cases r with
  | error e => exact tk e s' (XE.of_call I (fun cls d H' hw => hw d) hq)
  | ok fl =>
    cases fl with
    | ret u => exact I.after hq
    | next => exact False.elim hq
    | brk => exact False.elim hq
    | cont => exact False.elim hq
theorem q_call (c : Cxt X C F cv k) (tk : Takes X W) {f : Nat} {n : Nat} (hg : glB X.env.scope nm = true) (hl : C.names.lookup nm = some (f, n)) (hn : cs.length = n) (hk : cks C X.env.scope cs es = true) (ha : PA X es (RA X.K cv W (evs F cs))) : PE X (.Call (.Name nm p0) es [] pos) (RE X.K cv W (ev F (.call f cs))) := by
  obtain ⟨g, hd, _⟩ := gl_of hg
  obtain ⟨fa, hm, kp, fq⟩ := c.fns nm f n hl
  have len : ∀ {ρ h ds h'}, evs F cs ρ h = .ok ds h' → ds.length = cs.length := by
    have : ∀ (cs : List CE) {ρ h ds h'}, evs F cs ρ h = .ok ds h' → ds.length = cs.length := by
      intro cs
      induction cs with
      | nil => intro ρ h ds h' e; simp only [evs] at e; cases e; rfl
      | cons c cs ih =>
        intro ρ h ds h' e
        simp only [evs] at e
        cases h1 : ev F c ρ h with
        | ok d hh =>
          rw [h1] at e
          simp only [R.bind_ok] at e
          cases h2 : evs F cs ρ hh with
          | ok ds2 hh2 =>
            rw [h2] at e
            simp only [R.bind_ok] at e
            cases e
            rw [List.length_cons, List.length_cons, ih h2]
          | ex c h => rw [h2] at e; cases e
          | bad => rw [h2] at e; cases e
        | ex c h => rw [h1] at e; cases e
        | bad => rw [h1] at e; cases e
    exact fun {ρ h ds h'} e => this cs e
  refine ⟨fun pins s σ H Q I h => ?_⟩
  refine wpAny_Call_Name_kw (ld_glob I g hm ?_ hd)
  have hw : RA X.K cv W (evs F cs) σ H fun vs H1 => ∃ μ h ds, Rh X.K μ H1 h ∧ Rvs X.K μ H1 ds vs ∧ ds.length = n ∧ PostG X.K cv (Rv X.K · ·) μ H1 (F f ds h) Q (WAt W σ) := by
    obtain ⟨μ, ρ, hh, re, rh, p⟩ := h
    simp only [ev] at p
    refine ⟨μ, ρ, hh, re, rh, ?_⟩
    cases he : evs F cs ρ hh with
    | ok ds h' =>
      rw [he] at p
      exact fun vs ν H' ex R rds => ⟨ν, h', ds, R, rds, (len he).trans hn, PostG.ext p ex⟩
    | ex c h' => rw [he] at p; exact p
    | bad => rw [he] at p; exact p
  cases es with
  | nil =>
    refine PySem.W.callWith_K0 I.kIn kp ?_
    cases cs with
    | nil =>
      obtain ⟨μ, ρ, hh, re, rh, p⟩ := hw
      simp only [evs] at p
      obtain ⟨ν, h1, ds, R, rds, hl, q⟩ := p [] μ H (Ext.refl μ H) rh Rvs.nil
      exact run_q c tk fq I .nil hl R rds q
    | cons c cs => simp [cks] at hk
  | cons e es =>
    have hk' := hk
    cases cs with
    | nil => simp [cks] at hk
    | cons c0 cs =>
      simp only [cks, Bool.and_eq_true] at hk
      refine PySem.W.callWith_K (h₀ := X.base) I.ok.mod.kin kp (thn (ha.run pos pins s σ H _ I hw) fun us s1 ⟨vs, H1, I1, r, μ, h, ds, R, rds, hl, q⟩ => ⟨I1.kIn, ?_⟩) (star_plain hk.1) (back_plain (stars_plain hk.2))
      exact run_q c tk fq I1 r hl R rds q
theorem args_post {q : P} (hw : RE X.K cv W (ev F (.bi q cs)) σ H Q) : RA X.K cv W (evs F cs) σ H fun vs H1 => rN X.K q vs H1 Q := by
  simp only [RE, RG, ev] at hw
  obtain ⟨μ, ρ, hh, re, rh, p⟩ := RG.args (K := X.K) (cv := cv) (W := W) (a := evs F cs) (f := primN q) hw
  exact ⟨μ, ρ, hh, re, rh, p.imp (fun vs H1 ⟨ν, h1, ds, R, rd, q2⟩ => ⟨ν, h1, ds, R, rd, PostG.post q2 (primN_nex _ _ _)⟩) fun _ _ z => z⟩
/-- a built-in function -/
theorem q_biF {q : P} {id : String} (hc : CallR X (.builtin id) (rN X.K q)) (hv : bootBuiltins nm = some (.builtin id)) (hg : glB X.env.scope nm = true) (hm : X.mg nm = none) (hk : cks C X.env.scope cs es = true) (hne : cs ≠ []) (ha : PA X es (RA X.K cv W (evs F cs))) :
    PE X (.Call (.Name nm p0) es [] pos) (RE X.K cv W (ev F (.bi q cs))) := by
  obtain ⟨g, hd, hn⟩ := gl_of hg
  cases es with
  | nil =>
    cases cs with
    | nil => exact absurd rfl hne
    | cons _ _ => simp [cks] at hk
  | cons e es =>
    cases cs with
    | nil => exact absurd rfl hne
    | cons c0 cs =>
      simp only [cks, Bool.and_eq_true] at hk
      exact (pe_callB hc g hm hv ha hn hd (star_plain hk.1) (back_plain (stars_plain hk.2))).impQ fun σ H Q hw => args_post hw
theorem q_biT {q : P} {T : String} (hc : CallR X (.type T) (rN X.K q)) (hv : bootBuiltins nm = some (.type T)) (hg : glB X.env.scope nm = true) (hm : X.mg nm = none) (hk : cks C X.env.scope cs es = true) (hne : cs ≠ []) (ha : PA X es (RA X.K cv W (evs F cs))) :
    PE X (.Call (.Name nm p0) es [] pos) (RE X.K cv W (ev F (.bi q cs))) := by
  obtain ⟨g, hd, hn⟩ := gl_of hg
  cases es with
  | nil =>
    cases cs with
    | nil => exact absurd rfl hne
    | cons _ _ => simp [cks] at hk
  | cons e es =>
    cases cs with
    | nil => exact absurd rfl hne
    | cons c0 cs =>
      simp only [cks, Bool.and_eq_true] at hk
      exact (pe_callTy hc g hm hv ha hn hd (star_plain hk.1) (back_plain (stars_plain hk.2))).impQ fun σ H Q hw => args_post hw

/-- isinstance(e, T) -/
theorem q_isi {t : Ty} {p1 : Pos} (hg : glB X.env.scope "isinstance" = true) (hm : X.mg "isinstance" = none) (hg2 : glB X.env.scope (tyB t) = true) (hm2 : X.mg (tyB t) = none) (hk : ck C X.env.scope a e = true) (ha : PE X e (RE X.K cv W (ev F a))) :
    PE X (.Call (.Name "isinstance" p0) [e, .Name (tyB t) p1] [] pos) (RE X.K cv W (ev F (.bi (.isinst t) [a]))) := by
  obtain ⟨g, hd, hn⟩ := gl_of hg
  obtain ⟨g2, hd2, hn2⟩ := gl_of hg2
  have bt : bootBuiltins (tyB t) = some (.type (tyN t)) := by
    cases t
    · exact PyProof.Rows.boot_int
    · exact PyProof.Rows.boot_bool
    · exact PyProof.Rows.boot_tuple
    · exact PyProof.Rows.boot_list
    · exact PyProof.Rows.boot_str
    · exact PyProof.Rows.boot_dict
  have pt : PE X (.Name (tyB t) p1) (tC (.ty (tyN t))) := pe_bltn g2 hm2 bt rfl hn2 hd2
  have pa : PA X [e, .Name (tyB t) p1] (tCons (RE X.K cv W (ev F a)) (tCons (tC (.ty (tyN t))) tNil)) := pa_cons ha (pa_cons pt pa_nil) (star_plain hk)
  refine ⟨fun pins s σ H Q I h => ?_⟩
  refine wpAny_Call_Name_kw (ld_blt I g hm boot_isinstance ?_ hn hd)
  have hw : RE X.K cv W (ev F a) σ H fun x H1 => rN X.K (.isinst t) [x] H1 Q := by
    simp only [RE, RG, ev, evs, bind_assoc, R.bind_ok] at h
    obtain ⟨μ, ρ, hh, re, rh, p⟩ := RG.one (K := X.K) (cv := cv) (W := W) (a := ev F a) (f := fun d h => primN (.isinst t) [d] h) h
    exact ⟨μ, ρ, hh, re, rh, p.imp (fun v H1 ⟨ν, h1, d, R, rd, q2⟩ => ⟨ν, h1, [d], R, Rvs.one rd, PostG.post q2 (primN_nex _ _ _)⟩) fun _ _ z => z⟩
  refine PyProof.Rows.callWith_builtin1 (thn (pa.run pos pins s σ H (fun vs H1 => ∃ x, vs = [x, .ty (tyN t)] ∧ rN X.K (.isinst t) [x] H1 Q) I ?_) fun us s1 ⟨vs, H1, I1, r, x, ev1, q⟩ => ?_) (star_plain hk) rfl
  · obtain ⟨μ, ρ, hh, re, rh, p⟩ := hw
    exact ⟨μ, ρ, hh, re, rh, p.imp (fun v H1 q => ⟨v, rfl, q⟩) fun _ _ z => z⟩
  · subst ev1
    obtain ⟨u1, u2, rfl, r1, r2⟩ := r.two
    cases r2
    exact c_isi I1 r1 q
/-- len(set(e)) -/
theorem q_lenSet {p1 p2 : Pos} (hc : X.calm = true) (hg : glB X.env.scope "len" = true) (hm : X.mg "len" = none) (hg2 : glB X.env.scope "set" = true) (hm2 : X.mg "set" = none) (hk : ck C X.env.scope a e = true) (ha : PE X e (RE X.K cv W (ev F a))) :
    PE X (.Call (.Name "len" p0) [.Call (.Name "set" p1) [e] [] p2] [] pos) (RE X.K cv W (ev F (.bi .lenSet [a]))) :=
  (pe_lenSet hc (gl_of hg).1 hm (gl_of hg2).1 hm2 ha (star_plain hk)).impQ fun σ H Q h => by
    simp only [RE, RG, ev, evs, bind_assoc, R.bind_ok] at h
    obtain ⟨μ, ρ, hh, re, rh, p⟩ := RG.one (K := X.K) (cv := cv) (W := W) (a := ev F a) (f := fun d h => primN .lenSet [d] h) h
    exact ⟨μ, ρ, hh, re, rh, p.imp (fun v H1 ⟨ν, h1, d, R, rd, q2⟩ => ⟨ν, h1, [d], R, Rvs.one rd, PostG.post q2 (primN_nex _ _ _)⟩) fun _ _ z => z⟩
/-- list(range(e)) -/
theorem q_rngL {fr : Bool} {p1 p2 : Pos} (hc : X.calm = true) (hg : glB X.env.scope "list" = true) (hm : X.mg "list" = none) (hg2 : glB X.env.scope "range" = true) (hm2 : X.mg "range" = none) (hk : ck C X.env.scope a e = true) (ha : PE X e (RE X.K cv W (ev F a))) :
    PE X (.Call (.Name "list" p0) [.Call (.Name "range" p1) [e] [] p2] [] pos) (RE X.K cv W (ev F (.bi (.rngL fr) [a]))) :=
  (pe_listRg hc (gl_of hg).1 hm (prg_1 (gl_of hg2).1 hm2 ha (star_plain hk))).impQ fun σ H Q h => by
    simp only [RE, RG, ev, evs, bind_assoc, R.bind_ok] at h
    obtain ⟨μ, ρ, hh, re, rh, p⟩ := RG.one (K := X.K) (cv := cv) (W := W) (a := ev F a) (f := fun d h => primN (.rngL fr) [d] h) h
    refine ⟨μ, ρ, hh, re, rh, p.imp (fun v H1 ⟨ν, h1, d, R, rd, q2⟩ => ?_) fun _ _ z => z⟩
    have q2 := PostG.post q2 (primN_nex _ _ _)
    cases d with
    | int j =>
      simp only [Rv] at rd
      subst rd
      simp only [primN] at q2
      split at q2
      · rename_i hj
        unfold inS at hj
        refine ⟨j, rfl, ⟨by omega, by omega, by omega, by omega, by omega⟩, ?_⟩
        · have rr : Rvs X.K ν H1 (rangeD 0 j.toNat) (rgV 0 j) := by
            unfold rangeD rgV
            rw [Int.sub_zero]
            generalize List.range j.toNat = l
            induction l with
            | nil => exact Rvs.nil
            | cons x l ih => exact Rvs.cons (by simp only [Rv]) ih
          exact fun q hq => q2.newL R rr q hq
      · exact q2.elim
    | _ => simp only [primN] at q2; exact q2.elim
/-! methods -/
theorem base_plain {o : Expr} {m : PySem.Str} {env : PySem.Env} {whole : Sem Value} (h : recvB o = true) : attributeBase o m env whole = whole := by
  cases o with
  | Call f as kws p =>
    cases f with
    | Name x q =>
      cases as with
      | nil =>
        cases kws with
        | nil => simp [recvB] at h
        | cons _ _ => rfl
      | cons _ _ => rfl
    | _ => rfl
  | _ => rfl
def mtN : P → PySem.Str
  | .append => "append"
  | .pop0 => "pop"
  | .pop1 => "pop"
  | .get1 => "get"
  | .get2 => "get"
  | .update1 => "update"
  | .index => "index"
  | .indexT => "index"
  | .count => "count"
  | .countT => "count"
  | _ => ""
theorem typeOf_m {id : String} (h : builtinType id = pure (.type "method_descriptor")) : typeOf (.builtin id) = pure (.type "method_descriptor") := h
theorem recv_ok {q : P} {pins : List (Addr × Obj)} {s : Shared} {σ : L2.St} {H : Hp} {μ : List Addr} {h : Hc} {d : D} {x : V} {v : Value} (hu : X.A.units + 66 < cLine) (I : Inv X pins σ H s) (R : Rh X.K μ H h) (rd : Rv X.K μ H d x) (rx : RelV x v) (hr : recv q d h = true) :
    ∃ T id, PlainAttrs T ∧ Slot T (mtN q) id ∧ typeOf (.builtin id) = pure (.type "method_descriptor") ∧ s.TypeIs v T ∧ (∀ a, v = .ref a → ∃ ob, s.heap.get? a = some ob ∧ ob.dict = none) ∧ MtR X id (rM X.K q) := by
  have lst : recv.isLst h d = true → s.TypeIs v "list" ∧ ∀ a, v = .ref a → ∃ ob, s.heap.get? a = some ob ∧ ob.dict = none := fun hl => by
    unfold recv.isLst at hl
    split at hl
    · rename_i xs e1
      obtain ⟨a, vs, rfl, q, t⟩ := look_lst R rd e1
      exact tyV_is I rx (T := "list") (.inl ⟨rfl, vs, SqL.of q⟩)
    · cases hl
  have dct : recv.isDct h d = true → s.TypeIs v "dict" ∧ ∀ a, v = .ref a → ∃ ob, s.heap.get? a = some ob ∧ ob.dict = none := fun hl => by
    have kk : ∀ {a : Addr} {ws : List (Key × V)}, x = .ref a → Rd H a (.dK ws) → s.TypeIs v "dict" ∧ ∀ a, v = .ref a → ∃ ob, s.heap.get? a = some ob ∧ ob.dict = none := fun {a ws} e q => by
      subst e
      cases rx
      obtain ⟨_, _, vs, _, o, es, ep, h1, h2, _⟩ := q.ok I.hok
      exact ⟨⟨o, h1, h2.1⟩, fun a e => by cases e; exact ⟨o, h1, h2.2.1⟩⟩
    have tt : ∀ {a : Addr} {ws : List (List Key × V)}, x = .ref a → Rd H a (.dT ws) → s.TypeIs v "dict" ∧ ∀ a, v = .ref a → ∃ ob, s.heap.get? a = some ob ∧ ob.dict = none := fun {a ws} e q => by
      subst e
      cases rx
      obtain ⟨_, _, xs, _, o, es, ep, h1, h2, _⟩ := q.ok I.hok
      exact ⟨⟨o, h1, h2.1⟩, fun a e => by cases e; exact ⟨o, h1, h2.2.1⟩⟩
    unfold recv.isDct at hl
    split at hl
    · simp only [Rv] at rd
      obtain ⟨a, ws, e, _, q, _⟩ := rd
      exact kk e q
    · simp only [Rv] at rd
      obtain ⟨a, ws, e, _, q, _⟩ := rd
      exact tt e q
    · rename_i n
      simp only [Rv] at rd
      obtain ⟨a, e, hn⟩ := rd
      obtain ⟨o, ho, ro⟩ := R.lt hn
      rw [ho] at hl
      cases o with
      | dk kvs => obtain ⟨ws, q, _⟩ := ro; exact kk e (.inl q)
      | dt kvs => obtain ⟨ws, q, _⟩ := ro; exact tt e (.inl q)
      | wk kvs => obtain ⟨z, ws, q, _⟩ := ro; exact kk e (.inr ⟨z, q⟩)
      | wt kvs => obtain ⟨z, ws, q, _⟩ := ro; exact tt e (.inr ⟨z, q⟩)
      | _ => cases hl
    · cases hl
  cases q <;> first | (cases hr; done) | skip
  · exact ⟨_, _, PySem.F.plainAttrs_list, PySem.F.slot_list_append, PySem.F.type_list_append, (lst hr).1, (lst hr).2, m_append⟩
  · exact ⟨_, _, PySem.F.plainAttrs_list, PySem.F.slot_list_pop, PySem.F.type_list_pop, (lst hr).1, (lst hr).2, m_pop0⟩
  · exact ⟨_, _, PySem.F.plainAttrs_list, PySem.F.slot_list_pop, PySem.F.type_list_pop, (lst hr).1, (lst hr).2, m_pop1⟩
  · exact ⟨_, _, PySem.F.plainAttrs_dict, PySem.F.slot_dict_get, PySem.F.type_dict_get, (dct hr).1, (dct hr).2, m_get1 (by omega)⟩
  · exact ⟨_, _, PySem.F.plainAttrs_dict, PySem.F.slot_dict_get, PySem.F.type_dict_get, (dct hr).1, (dct hr).2, m_get2 (by omega)⟩
  · exact ⟨_, _, PySem.F.plainAttrs_dict, PySem.F.slot_dict_update, PySem.F.type_dict_update, (dct hr).1, (dct hr).2, m_update⟩
  · exact ⟨_, _, PySem.F.plainAttrs_list, PySem.F.slot_list_index, PySem.F.type_list_index, (lst hr).1, (lst hr).2, m_index (by omega)⟩
  · cases d with
    | ftp xs =>
      simp only [Rv] at rd
      obtain ⟨a, o', ws, rfl, q, hn, t⟩ := rd
      cases rx
      obtain ⟨ho, _, _, _, o, h1, h2, _⟩ := (show ObjOk X.prog X.w H s.heap a (.frz o' (.tup ws)) from I.hok a _ q)
      rw [ho] at h1
      cases h1
      exact ⟨_, _, PySem.F.plainAttrs_tuple, PySem.F.slot_tuple_index, PySem.F.type_tuple_index, ⟨o', ho, h2⟩, fun a e => by cases e; exact ⟨o', ho, hn⟩, m_indexT (by omega)⟩
    | _ => cases hr
  · exact ⟨_, _, PySem.F.plainAttrs_list, PySem.F.slot_list_count, PySem.F.type_list_count, (lst hr).1, (lst hr).2, m_count (by omega)⟩
theorem few_plain {env : PySem.Env} (h : (starEach es env).any (·.1) = false) (hl : es.length < 30) : ((backTo pos (starEach es env)).all (fun x => !x.1) && (backToKw pos (keywordEach [] env)).all (fun x => x.1.isSome) && decide (es.length + ([] : List Keyword).length + (if ([] : List Keyword).isEmpty then 0 else 1) < 30)) = true := by
  have e1 : (backTo pos (starEach es env)).all (fun x => !x.1) = true := by
    have := back_plain (pos := pos) h
    rw [List.all_eq_not_any_not]
    simpa using this
  rw [e1]
  have e2 : (backToKw pos (keywordEach [] env)).all (fun x => x.1.isSome) = true := rfl
  rw [e2]
  simpa using hl
theorem q_mt {q : P} {apos : Pos} (c : Cxt X C F cv k) (hm : mtN q = nm) (hr : recvB x = true) (hline : (apos.endLine == pos.line) = true) (hl : cs.length < 30) (hk : cks C X.env.scope cs es = true) (hlen : es.length = cs.length) (ho : PE X x (RE X.K cv W (ev F a))) (ha : PA X es (RA X.K cv W (evs F cs))) :
    PE X (.Call (.Attribute x nm apos) es [] pos) (RE X.K cv W (ev F (.mt q a cs))) := by
  have hu : X.A.units + 66 < cLine := by have := c.room.un; omega
  refine ⟨fun pins s σ H Q I h => ?_⟩
  obtain ⟨μ, ρ, hh, re, rh, p⟩ := h
  simp only [ev] at p
  have hw : RE X.K cv W (ev F a) σ H fun v H1 => ∃ ν ρ h1 d, Re X.K ν H1 ρ σ ∧ Rh X.K ν H1 h1 ∧ Rv X.K ν H1 d v ∧ PostG X.K cv (Rv X.K · ·) ν H1 (if recv q d h1 = true then (evs F cs ρ h1).bind fun ds h => primM q d ds h else .bad) Q (WAt W σ) :=
    ⟨μ, ρ, hh, re, rh, (PostG.bind (Rel' := (Rv X.K · ·)) p).imp (fun v H1 ⟨ν, h1, d, ex, R, rd, q⟩ => ⟨ν, ρ, h1, d, re.ext ex, R, rd, q⟩) fun _ _ z => z⟩
  have body : ∀ (v : Value) (s1 : Shared) (x1 : V) (H1 : Hp), Inv X pins σ H1 s1 → RelV x1 v → (∃ ν ρ h1 d, Re X.K ν H1 ρ σ ∧ Rh X.K ν H1 h1 ∧ Rv X.K ν H1 d x1 ∧ PostG X.K cv (Rv X.K · ·) ν H1 (if recv q d h1 = true then (evs F cs ρ h1).bind fun ds h => primM q d ds h else .bad) Q (WAt W σ)) →
      MethodOn X.prog X.w X.A nm pos v (backTo pos (starEach es X.env)) (EP X pins σ Q) X.xe s1 := fun v s1 x1 H1 I1 r1 ⟨ν, ρ, h1, d, re1, R, rd, p1⟩ => by
    split at p1
    · rename_i hrc
      obtain ⟨T, id, pa, slot, hty, h1', h2, mt⟩ := recv_ok hu I1 R rd r1 hrc
      refine ⟨T, id, pa, by rw [← hm]; exact slot, hty, h1', h2, ?_⟩
      have ha' : RA X.K cv W (evs F cs) σ H1 fun vs H2 => rM X.K q x1 vs H2 Q :=
        ⟨ν, ρ, h1, re1, R, (PostG.bind (Rel' := (Rvs X.K · ·)) p1).imp (fun vs H2 ⟨κ, h2, ds, ex, R2, rds, q2⟩ => ⟨κ, h2, d, ds, R2, Rv.ext ex _ _ rd, rds, PostG.post q2 (primM_nex _ _ _ _)⟩) fun _ _ z => z⟩
      cases es with
      | nil =>
        cases cs with
        | cons _ _ => simp at hlen
        | nil =>
          obtain ⟨μ', ρ', hh', _, rh', p'⟩ := ha'
          simp only [evs] at p'
          have q0 := p' [] μ' H1 (Ext.refl μ' H1) rh' Rvs.nil
          exact Calls.callWith_builtin rfl (PySem.evalArgs_none (mt pins s1 σ H1 x1 [] v [] Q I1 r1 .nil q0))
      | cons e es =>
        cases cs with
        | nil => simp at hlen
        | cons c0 cs =>
          simp only [cks, Bool.and_eq_true] at hk
          have hA := ha.run pos pins s1 σ H1 _ I1 ha'
          have hs := star_plain (es := es) (env := X.env) hk.1
          rw [hs] at hA ⊢
          refine Calls.callWith_builtin (by show (false || (backTo pos (starEach es X.env)).any (·.1)) = false; rw [back_plain (stars_plain hk.2)] <;> rfl) (Calls.evalArgs_plain ?_)
          exact thn hA fun us s2 ⟨vs, H2, I2, r2, q2⟩ => mt pins s2 σ H2 x1 vs v us Q I2 r1 r2 q2
    · exact p1.elim
  exact wpAny_Call_method_late (base_plain hr) (few_plain (stars_plain hk) (by rw [hlen]; exact hl)) hline rfl (thn (ho.run pins s σ H _ I hw) fun v s1 ⟨x1, H1, I1, r1, q1⟩ => body v s1 x1 H1 I1 r1 q1)
end
end Q

/-! QI: subscripts, slices, dict displays, targets. -/
namespace Q
open PySem PySem.Spec PyProof.Rows L2
section
variable {X : Cx} {C : Ck} {F : Nat → List D → Hc → R D} {cv : Nat → Value} {k : Nat} {W : WX} {e x y z : Expr} {a b d : CE} {pos p0 p1 p2 : Pos} {r es : List Expr} {cs : List CE} {nm : PySem.Str}
theorem plainIx {sc : Scope} (h : ck C sc b y = true) : PlainIx y := by
  intro o i
  cases y <;> first | rfl | (cases b <;> simp [ck] at h)
theorem q_idx (hu : X.A.units + 1 < cLine) (hk : ck C X.env.scope b y = true) (ha : PE X x (RE X.K cv W (ev F a))) (hb : PE X y (RE X.K cv W (ev F b))) : PE X (.Subscript x y pos) (RE X.K cv W (ev F (.idx a b))) :=
  (pe_ix (o_idx hu) ha hb (plainIx hk)).impQ fun σ H Q h => by
    simp only [RE, RG, ev] at h
    obtain ⟨μ, ρ, hh, re, rh, p⟩ := RG.two (K := X.K) (cv := cv) (W := W) (a := ev F a) (b := ev F b) (f := prim2 .idx) h
    exact ⟨μ, ρ, hh, re, rh, p.imp (fun v H1 ⟨μ, ρ, hh, re, rh, p⟩ => ⟨μ, ρ, hh, re, rh, p.imp (fun u H2 ⟨μ, h, d, e, R, rd, re, p⟩ => ⟨μ, h, d, e, R, rd, re, p.post (prim2_nex _ _ _ _)⟩) fun _ _ z => z⟩) fun _ _ z => z⟩
/-- a slice's part by its reading -/
def tPartQ (t : TE) : TO := fun σ H Q => t σ H fun x H1 => (x = .non ∧ Q none H1) ∨ ∃ i, x = .int i ∧ Q (some i) H1
theorem po_q {t : TE} (h : PE X e t) : PO X (some e) (tPartQ t) := ⟨fun pins s σ H Q I hw => by
  rw [evalPart_some]
  refine thn (h.run pins s σ H _ I hw) fun u s1 ⟨x, H1, I1, r1, q1⟩ => ?_
  rcases q1 with ⟨rfl, q⟩ | ⟨i, rfl, q⟩
  · cases r1
    exact ⟨none, H1, I1, .none, q⟩
  · obtain ⟨t, rfl⟩ := r1
    exact ⟨some i, H1, I1, .int i t, q⟩⟩
theorem q_part {o : Option Expr} {c : CE} (h : (o = none ∧ c = .c .non) ∨ ∃ e, o = some e ∧ PE X e (RE X.K cv W (ev F c))) : PO X o (tPartQ (RE X.K cv W (ev F c))) := by
  rcases h with ⟨rfl, rfl⟩ | ⟨e, rfl, h⟩
  · refine ⟨fun pins s σ H Q I hw => po_none.run pins s σ H Q I ?_⟩
    obtain ⟨μ, ρ, hh, re, rh, p⟩ := hw
    simp only [ev] at p
    rcases p .non μ H (Ext.refl μ H) rh (by simp only [Rv]) with ⟨_, q⟩ | ⟨i, e, _⟩
    · exact q
    · cases e
  · exact po_q h
theorem isPart_of {K : PySem.W.Frag} {μ : List Addr} {H : Hp} {l : D} {x : V} (h : isPart l = true) (r : Rv K μ H l x) : (l = .non ∧ x = .non) ∨ ∃ i, l = .int i ∧ x = .int i := by
  cases l <;> simp only [isPart, Bool.false_eq_true] at h
  · exact .inl ⟨rfl, by simpa only [Rv] using r⟩
  · exact .inr ⟨_, rfl, by simpa only [Rv] using r⟩
theorem q_sl {fr : Bool} {lo hi : Option Expr} {cl cu : CE} (ha : PE X x (RE X.K cv W (ev F a))) (hl : (lo = none ∧ cl = .c .non) ∨ ∃ e, lo = some e ∧ PE X e (RE X.K cv W (ev F cl))) (hu : (hi = none ∧ cu = .c .non) ∨ ∃ e, hi = some e ∧ PE X e (RE X.K cv W (ev F cu))) :
    PE X (.Subscript x (.Slice lo hi none p2) pos) (RE X.K cv W (ev F (.sl fr a cl cu))) :=
  (pe_slice (sl_any (fr := fr)) ha (q_part hl) (q_part hu)).impQ fun σ H Q ⟨μ, ρ, hh, re, rh, p⟩ => by
    simp only [ev] at p
    refine ⟨μ, ρ, hh, re, rh, (PostG.bind (Rel' := (Rv X.K · ·)) p).imp (fun v H1 ⟨ν, h1, d, ex, R, rd, q⟩ => ?_) fun _ _ z => z⟩
    refine ⟨ν, ρ, h1, re.ext ex, R, (PostG.bind (Rel' := (Rv X.K · ·)) q).imp (fun v2 H2 ⟨κ, h2, l, ex2, R2, rl, q2⟩ => ?_) fun _ _ z => z⟩
    split at q2
    · rename_i hl
      have go : ∀ o, Part l o → tPartQ (RE X.K cv W (ev F cu)) σ H2 fun u H3 => rSl X.K fr v o u H3 Q := fun o po => by
        refine ⟨κ, ρ, h2, (re.ext ex).ext ex2, R2, (PostG.bind (Rel' := (Rv X.K · ·)) q2).imp (fun v3 H3 ⟨κ3, h3, u, ex3, R3, ru, q3⟩ => ?_) fun _ _ z => z⟩
        split at q3
        · rename_i hu
          rcases isPart_of hu ru with ⟨rfl, rfl⟩ | ⟨i, rfl, rfl⟩
          · exact .inl ⟨rfl, κ3, h3, d, l, .non, R3, Rv.ext ex3 _ _ (Rv.ext ex2 _ _ rd), po, .inl ⟨rfl, rfl⟩, PostG.post q3 (sliceP_nex _ _ _ _ _)⟩
          · exact .inr ⟨i, rfl, κ3, h3, d, l, .int i, R3, Rv.ext ex3 _ _ (Rv.ext ex2 _ _ rd), po, .inr ⟨i, rfl, rfl⟩, PostG.post q3 (sliceP_nex _ _ _ _ _)⟩
        · exact q3.elim
      rcases isPart_of hl rl with ⟨rfl, rfl⟩ | ⟨i, rfl, rfl⟩
      · exact .inl ⟨rfl, go none (.inl ⟨rfl, rfl⟩)⟩
      · exact .inr ⟨i, rfl, go (some i) (.inr ⟨i, rfl, rfl⟩)⟩
    · exact q2.elim
theorem q_rev {fr : Bool} {j : Nat} {p3 : Pos} (ha : PE X x (RE X.K cv W (ev F a))) : PE X (.Subscript x (.Slice none none (some (.UnaryOp .USub (.Constant (.int 1) j p1) p2)) p3) pos) (RE X.K cv W (ev F (.rev fr a))) :=
  (pe_rev (fr := fr) ha).impQ fun σ H Q h => by
    simp only [RE, RG, ev] at h
    obtain ⟨μ, ρ, hh, re, rh, p⟩ := RG.one (K := X.K) (cv := cv) (W := W) (a := ev F a) (f := revP fr) h
    exact ⟨μ, ρ, hh, re, rh, p.imp (fun v H1 ⟨μ, h, d, R, rd, p⟩ => ⟨μ, h, d, R, rd, p.post (revP_nex _ _ _)⟩) fun _ _ z => z⟩
/-! dict displays -/
def pairsTE (K : PySem.W.Frag) (cv : Nat → Value) (W : WX) (F : Nat → List D → Hc → R D) : List CE → List (TE × TE)
  | c :: d :: r => (RE K cv W (ev F c), RE K cv W (ev F d)) :: pairsTE K cv W F r
  | _ => []
def pairUp : List V → List (V × V)
  | k :: v :: r => (k, v) :: pairUp r
  | _ => []
theorem tPairs_of {K : PySem.W.Frag} {σ : L2.St} : ∀ (n : Nat) {cs : List CE}, cs.length = 2 * n → ∀ {μ : List Addr} {H : Hp} {ρ : Env} {h : Hc} {Q : List (V × V) → Hp → Prop}, Re K μ H ρ σ → Rh K μ H h → PostG K cv (Rvs K · ·) μ H (evs F cs ρ h) (fun vs H' => Q (pairUp vs) H') (WAt W σ) → tPairs (pairsTE K cv W F cs) σ H Q
  | 0, [], _, μ, H, ρ, h, Q, re, rh, p => by
    simp only [evs] at p
    exact p [] μ H (Ext.refl μ H) rh Rvs.nil
  | n + 1, c :: d :: cs, hl, μ, H, ρ, h, Q, re, rh, p => by
    simp only [evs, bind_assoc, R.bind_ok] at p
    show RE K cv W (ev F c) σ H fun x H1 => RE K cv W (ev F d) σ H1 fun y H2 => tPairs (pairsTE K cv W F cs) σ H2 fun ps H3 => Q ((x, y) :: ps) H3
    refine ⟨μ, ρ, h, re, rh, (PostG.bind (Rel' := (Rv K · ·)) p).imp (fun x H1 ⟨ν, h1, d1, ex, R1, r1, q1⟩ => ⟨ν, ρ, h1, re.ext ex, R1, (PostG.bind (Rel' := (Rv K · ·)) q1).imp (fun y H2 ⟨κ, h2, d2, ex2, R2, r2, q2⟩ => ?_) fun _ _ z => z⟩) fun _ _ z => z⟩
    refine tPairs_of n (by simp only [List.length_cons] at hl; omega) ((re.ext ex).ext ex2) R2 ((PostG.bind (Rel' := (Rvs K · ·)) q2).imp (fun vs H3 ⟨κ3, h3, ds, ex3, R3, rs, q3⟩ => ?_) fun _ _ z => z)
    exact q3 (x :: y :: vs) κ3 H3 (Ext.refl _ _) R3 (Rvs.cons (Rv.ext (ex2.trans ex3) _ _ r1) (Rvs.cons (Rv.ext ex3 _ _ r2) rs))
  | 0, _ :: _, hl, _, _, _, _, _, _, _, _ => by simp at hl
  | n + 1, [], hl, _, _, _, _, _, _, _, _ => by simp at hl
  | n + 1, [_], hl, _, _, _, _, _, _, _, _ => by simp only [List.length_cons, List.length_nil] at hl; omega
/-- the pairs of a display, as keys and values -/
theorem mkK_pairs {K : PySem.W.Frag} {μ : List Addr} {H : Hp} : ∀ (n : Nat) {ds : List D} {vs : List V} {acc out : List (Key × D)}, ds.length = 2 * n → mkK ds acc = some out → Rvs K μ H ds vs → ∃ (kd : List (Key × D)) (kvs : List (Key × V)), out = kd.foldl (fun acc kv => putP acc kv.1 kv.2) acc ∧ pairUp vs = kvs.map (fun kv => (kV kv.1, kv.2)) ∧ Pr K μ H kd kvs ∧ kvs.length = n
  | 0, [], vs, acc, out, _, e, r => by
    simp only [mkK, Option.some.injEq] at e
    rw [r.unnil]
    exact ⟨[], [], e.symm, rfl, rfl, rfl⟩
  | n + 1, k :: d :: ds, vs, acc, out, hl, e, r => by
    obtain ⟨x, w, rfl, rk, r⟩ := r.uncons
    obtain ⟨y, w, rfl, rv, r⟩ := r.uncons
    simp only [mkK, Option.bind_eq_some_iff] at e
    obtain ⟨q, e1, e2⟩ := e
    obtain ⟨kd, kvs, h1, h2, h3, h4⟩ := mkK_pairs n (by simp only [List.length_cons] at hl; omega) e2 r
    refine ⟨(q, d) :: kd, (q, y) :: kvs, h1, ?_, ⟨_, _, rfl, rfl, rv, h3⟩, by rw [List.length_cons, h4]⟩
    rw [pairUp, h2, List.map_cons, keyK_rv rk e1]
  | 0, _ :: _, _, _, _, hl, _, _ => by simp at hl
  | n + 1, [], _, _, _, hl, _, _ => by simp at hl
  | n + 1, [_], _, _, _, hl, _, _ => by simp only [List.length_cons, List.length_nil] at hl; omega
theorem evs_len : ∀ (cs : List CE) {ρ : Env} {h : Hc} {ds : List D} {h' : Hc}, evs F cs ρ h = .ok ds h' → ds.length = cs.length
  | [], ρ, h, ds, h', e => by simp only [evs] at e; cases e; rfl
  | c :: cs, ρ, h, ds, h', e => by
    simp only [evs] at e
    cases h1 : ev F c ρ h with
    | ok d hh =>
      rw [h1] at e
      simp only [R.bind_ok] at e
      cases h2 : evs F cs ρ hh with
      | ok ds2 hh2 =>
        rw [h2] at e
        simp only [R.bind_ok] at e
        cases e
        rw [List.length_cons, List.length_cons, evs_len cs h2]
      | ex c h => rw [h2] at e; cases e
      | bad => rw [h2] at e; cases e
    | ex c h => rw [h1] at e; cases e
    | bad => rw [h1] at e; cases e
theorem q_dic {t : Bool} {keys : List (Option Expr)} {values : List Expr} {n : Nat} (h : PPs X pos keys values (pairsTE X.K cv W F cs)) (hall : keys.all (·.isSome) = true) (hl : keys.length = values.length) (h0 : keys ≠ []) (h15 : keys.length ≤ 15) (hn : cs.length = 2 * n) (hn2 : n = keys.length) :
    PE X (.Dict keys values pos) (RE X.K cv W (ev F (.dic t cs))) :=
  (pe_disp h hall hl h0 h15).impQ fun σ H Q ⟨μ, ρ, hh, re, rh, p⟩ => fun a ha => by
    simp only [ev] at p
    cases t with
    | true => exact p.elim
    | false =>
      simp only [Bool.false_eq_true, if_false] at p
      have X1 := Ext.push (u := .dK []) μ ha
      have R1 : Rh X.K (μ ++ [a]) (upd H a (.dK [])) (hh ++ [.dk []]) := rh.push ha ⟨[], upd_same, rfl, Rvs.nil⟩
      have p := PostG.ext p X1
      refine tPairs_of n hn (re.ext X1) R1 ?_
      cases hr : evs F cs ρ (hh ++ [.dk []]) with
      | bad => rw [hr] at p; exact p
      | ex c h' => rw [hr] at p; exact p
      | ok ds h2 =>
        rw [hr] at p
        simp only [R.bind_ok] at p
        intro vs ν H2 ex R2 rds
        have hat : (μ ++ [a])[hh.length]? = some a := by
          rw [rh.len, List.getElem?_append_right (Nat.le_refl _)]
          simp
        have p := PostG.ext p ex
        split at p
        · rename_i hget
          have hn' := ex.get hat
          obtain ⟨o, ho, ro⟩ := R2.lt hn'
          rw [hget] at ho
          cases ho
          obtain ⟨ws, q, k1, t1⟩ := ro
          have ews : ws = [] := by simpa using k1
          subst ews
          cases hm : mkK ds [] with
          | none => rw [hm] at p; exact p.elim
          | some out =>
            rw [hm] at p
            obtain ⟨kd, kvs, e1, e2, e3, e4⟩ := mkK_pairs n ((evs_len cs hr).trans hn) hm rds
            refine ⟨q, kvs, e2, by omega, ?_⟩
            have X2 : Ext ν H2 ν (upd H2 a (.dK (mergeK [] kvs))) := Ext.put (List.mem_of_getElem? hn') (fun o w z => by rw [q] at z; cases z) fun xs => R2.notup (List.mem_of_getElem? hn')
            have m : Pr X.K ν H2 out (mergeK [] kvs) := by rw [e1]; exact Pr.merge e3 (show Pr X.K ν H2 [] [] from rfl)
            obtain ⟨p1, p2, p3⟩ := (Pr.ext X2 m).to
            obtain ⟨x1, x2⟩ := R2.put (o := .dk out) hn' (fun o w z => by rw [q] at z; cases z) ⟨_, upd_same, p1, p2⟩
            refine p _ ν _ x1 x2 ?_
            simp only [Rv]
            exact ⟨a, rfl, hn'⟩
        · exact p.elim
end
end Q

/-! QJ: targets. -/
namespace Q
open PySem PySem.Spec PyProof.Rows L2
/-- a target's store -/
def gQ (K : PySem.W.Frag) (t : CT) : TG := fun v σ H C => ∃ μ h d ρ ρ', Rh K μ H h ∧ Rv K μ H d v ∧ Re K μ H ρ σ ∧ bindT t d ρ = some ρ' ∧ ∀ σ', Re K μ H ρ' σ' → (∀ vs : List Nat, (∀ i ∈ slotsT t, i ∈ vs) → L2.wipe σ' vs = L2.wipe σ vs) → C σ' H
def gQs (K : PySem.W.Frag) (ts : List CT) : TGs := fun vs σ H C => ∃ μ h ds ρ ρ', Rh K μ H h ∧ Rvs K μ H ds vs ∧ Re K μ H ρ σ ∧ bindTs ts ds ρ = some ρ' ∧ ∀ σ', Re K μ H ρ' σ' → (∀ vs : List Nat, (∀ i ∈ slotsTs ts, i ∈ vs) → L2.wipe σ' vs = L2.wipe σ vs) → C σ' H
theorem wipe_set {σ : L2.St} {i : Nat} {v : Option V} : ∀ {vs : List Nat}, i ∈ vs → L2.wipe (σ.set i v) vs = L2.wipe σ vs
  | [], h => nomatch h
  | j :: vs, h => by
    show (L2.wipe (σ.set i v) vs).set j none = (L2.wipe σ vs).set j none
    by_cases hi : i ∈ vs
    · rw [wipe_set hi]
    · have e : i = j := by
        rcases List.mem_cons.mp h with e | e
        · exact e
        · exact absurd e hi
      subst e
      have : ∀ {vs : List Nat}, i ∉ vs → L2.wipe (σ.set i v) vs = (L2.wipe σ vs).set i v := by
        intro vs
        induction vs with
        | nil => exact fun _ => rfl
        | cons k vs ih =>
          intro hk
          simp only [List.mem_cons, not_or] at hk
          show (L2.wipe (σ.set i v) vs).set k none = ((L2.wipe σ vs).set k none).set i v
          rw [ih hk.2, List.set_comm _ _ hk.1]
      rw [this hi, List.set_set]
section
variable {X : Cx} {C : Ck} {sc : Scope}
theorem each_plain {x : Expr} {es : List Expr} {t : CT} {env : PySem.Env} (h : ckT C sc t x = true) : assignEach (x :: es) env = (false, assign x env) :: assignEach es env := by
  cases x <;> first | rfl | (cases t <;> simp [ckT] at h)
theorem eachs_len {env : PySem.Env} : ∀ {ts : List CT} {es : List Expr}, ckTs C sc ts es = true → (assignEach es env).length = ts.length ∧ (assignEach es env).findIdx? (·.1) = none
  | [], [], _ => ⟨rfl, rfl⟩
  | t :: ts, e :: es, h => by
    simp only [ckTs, Bool.and_eq_true] at h
    obtain ⟨h1, h2⟩ := eachs_len (env := env) h.2
    rw [each_plain h.1]
    refine ⟨by rw [List.length_cons, List.length_cons, h1], ?_⟩
    rw [List.findIdx?_cons]
    simp only [Bool.false_eq_true, if_false, h2, Option.map_none]
  | [], _ :: _, h => by simp [ckTs] at h
  | _ :: _, [], h => by simp [ckTs] at h
mutual
theorem pg_q (hN : X.N = C.N) (nd : X.N.Nodup) (hc : X.calm = true) (hl : ∀ x, locB sc x = true → Loc X.env.scope x ∧ (X.fn x = true ∨ X.env.scope.names.lookup x = some .local)) : ∀ (t : CT) (e : Expr), ckT C sc t e = true → PG X e (gQ X.K t)
  | .n i, e, h => by
    cases e with
    | Name x p =>
      simp only [ckT, Bool.and_eq_true, decide_eq_true_eq] at h
      obtain ⟨l1, l2⟩ := hl x h.2
      refine ⟨fun pins s σ H v u Q I r ⟨μ, hh, d, ρ, ρ', R, rd, re, eb, w⟩ => ?_⟩
      simp only [bindT, Option.some.injEq] at eb
      subst eb
      exact (pg_name (pos := p) nd (by rw [hN]; exact h.1) l1 l2).run pins s σ H v u Q I r (w _ (re.set i rd) fun vs hv => wipe_set (hv i (by simp [slotsT])))
    | _ => simp [ckT] at h
  | .t ts, e, h => by
    cases e with
    | Tuple es k p =>
      simp only [ckT, Bool.and_eq_true, decide_eq_true_eq] at h
      have ih := pgs_q hN nd hc hl ts es h.1
      obtain ⟨n1, n2⟩ := eachs_len (env := X.env) h.1
      refine ⟨fun pins s σ H v u Q I r ⟨μ, hh, d, ρ, ρ', R, rd, re, eb, w⟩ => ?_⟩
      have lenB : ∀ {ts : List CT} {ds : List D} {ρ ρ' : Env}, bindTs ts ds ρ = some ρ' → ds.length = ts.length := by
        intro ts
        induction ts with
        | nil => intro ds ρ ρ' e; cases ds <;> simp [bindTs] at e; rfl
        | cons t ts ih =>
          intro ds ρ ρ' e
          cases ds with
          | nil => simp [bindTs] at e
          | cons d ds =>
            simp only [bindTs, Option.bind_eq_some_iff] at e
            obtain ⟨ρ1, _, e2⟩ := e
            rw [List.length_cons, List.length_cons, ih e2]
      have w' : ∀ σ', Re X.K μ H ρ' σ' → (∀ vs : List Nat, (∀ i ∈ slotsTs ts, i ∈ vs) → L2.wipe σ' vs = L2.wipe σ vs) → Q σ' H := fun σ' a b => w σ' a (by simpa only [slotsT] using b)
      cases d with
      | tup xs =>
        simp only [bindT] at eb
        simp only [Rv] at rd
        obtain ⟨a, vs, rfl, q, t⟩ := rd
        exact (pg_tup (n := ts.length) hc ih n1 n2).run pins s σ H _ u Q I r ⟨a, vs, rfl, SqT.of q, t.length.symm.trans (lenB eb), μ, hh, xs, ρ, ρ', R, t, re, eb, w'⟩
      | ftp xs =>
        simp only [bindT] at eb
        simp only [Rv] at rd
        obtain ⟨a, o, vs, rfl, q, _, t⟩ := rd
        exact (pg_tup (n := ts.length) hc ih n1 n2).run pins s σ H _ u Q I r ⟨a, vs, rfl, .inl (.inr ⟨o, q⟩), t.length.symm.trans (lenB eb), μ, hh, xs, ρ, ρ', R, t, re, eb, w'⟩
      | lst xs =>
        simp only [bindT] at eb
        simp only [Rv] at rd
        obtain ⟨a, vs, rfl, _, q, t⟩ := rd
        exact (pg_lst (n := ts.length) hc ih n1 n2).run pins s σ H _ u Q I r ⟨a, vs, rfl, SqL.of q, t.length.symm.trans (lenB eb), μ, hh, xs, ρ, ρ', R, t, re, eb, w'⟩
      | _ => simp [bindT] at eb
    | _ => simp [ckT] at h
theorem pgs_q (hN : X.N = C.N) (nd : X.N.Nodup) (hc : X.calm = true) (hl : ∀ x, locB sc x = true → Loc X.env.scope x ∧ (X.fn x = true ∨ X.env.scope.names.lookup x = some .local)) : ∀ (ts : List CT) (es : List Expr), ckTs C sc ts es = true → PGs X es (gQs X.K ts)
  | [], [], _ => ⟨fun pins s σ H vs us Q I r ⟨μ, hh, ds, ρ, ρ', R, rd, re, eb, w⟩ => by
    cases ds with
    | cons _ _ => simp [bindTs] at eb
    | nil =>
      simp only [bindTs, Option.some.injEq] at eb
      subst eb
      exact pgs_nil.run pins s σ H vs us Q I r ⟨rd.unnil, w σ re fun _ _ => rfl⟩⟩
  | t :: ts, e :: es, h => by
    simp only [ckTs, Bool.and_eq_true] at h
    have h1 := pg_q hN nd hc hl t e h.1
    have h2 := pgs_q hN nd hc hl ts es h.2
    refine ⟨fun pins s σ H vs us Q I r ⟨μ, hh, ds, ρ, ρ', R, rd, re, eb, w⟩ => ?_⟩
    cases ds with
    | nil => simp [bindTs] at eb
    | cons d ds =>
      simp only [bindTs, Option.bind_eq_some_iff] at eb
      obtain ⟨ρ1, eb1, eb2⟩ := eb
      obtain ⟨v, vr, rfl, rv, rt⟩ := rd.uncons
      refine (pgs_cons h1 h2 (by rw [each_plain h.1] <;> rfl)).run pins s σ H _ us Q I r ⟨v, vr, rfl, μ, hh, d, ρ, ρ1, R, rv, re, eb1, fun σ1 re1 w1 => ⟨μ, hh, ds, ρ1, ρ', R, rt, re1, eb2, fun σ2 re2 w2 => w σ2 re2 fun vs hv => ?_⟩⟩
      rw [w2 vs fun i hi => hv i (by simp only [slotsTs, List.mem_append]; exact .inr hi), w1 vs fun i hi => hv i (by simp only [slotsTs, List.mem_append]; exact .inl hi)]
  | [], _ :: _, h => by simp [ckTs] at h
  | _ :: _, [], h => by simp [ckTs] at h
end
theorem loc_blk {X : Cx} {s : Shared} {H : Hp} {scope : Scope} {cl : List (PySem.Str × Addr)} {A : Addr} {fp : List Addr} : ∀ x, locB scope x = true → Loc (X.blk s H scope (compEnvC scope cl A X.env) fp).env.scope x ∧ ((X.blk s H scope (compEnvC scope cl A X.env) fp).fn x = true ∨ (X.blk s H scope (compEnvC scope cl A X.env) fp).env.scope.names.lookup x = some .local) := by
  intro x h
  rcases loc_of h with h | h
  · have := lookup_relS_keep (sc := X.env.scope) (by decide) h
    exact ⟨.inl this, .inr this⟩
  · have := lookup_relS_keep (sc := X.env.scope) (by decide) h
    refine ⟨.inr this, .inl ?_⟩
    show (scope.names.lookup x == some .cell) = true
    rw [h] <;> rfl
end
end Q

/-! QK: what a loop walks. -/
namespace Q
open PySem PySem.Spec PyProof.Rows L2
/-- J hands out the items of w -/
def Walk (K : PySem.W.Frag) (ν : List Addr) (H1 : Hp) (w : Wk) (J : It) : Prop :=
  ∀ κ H2 h2, Ext ν H1 κ H2 → Rh K κ H2 h2 → stays h2 w.stay = true →
    (∀ (i : Nat) (d : D), w.items[i]? = some d → J.go i H2 ∧ ∀ x H3, J.yld i H2 x H3 → Ext κ H2 κ H3 ∧ Rh K κ H3 h2 ∧ Rv K κ H3 d x) ∧ J.stop w.items.length H2
/-- a sequence at an address, now and later -/
def SeqW (K : PySem.W.Frag) (ν : List Addr) (H1 : Hp) (w : Wk) (S : Hp → List V → Prop) : Prop :=
  ∀ κ H2 h2, Ext ν H1 κ H2 → Rh K κ H2 h2 → stays h2 w.stay = true → ∃ vs, S H2 vs ∧ Rvs K κ H2 w.items vs
theorem seqW_of {K : PySem.W.Frag} {ν : List Addr} {H1 : Hp} {h1 : Hc} {d : D} {x : V} {w : Wk} (R : Rh K ν H1 h1) (r : Rv K ν H1 d x) (e : walkSeq h1 d = some w) :
    ∃ a, x = .ref a ∧ ((isListD h1 d = true ∧ SeqW K ν H1 w (fun H vs => SqL K H a vs) ∧ ∃ vs, SqL K H1 a vs) ∨ (isListD h1 d = false ∧ SeqW K ν H1 w (fun H vs => SqT K H a vs) ∧ ∃ vs, SqT K H1 a vs)) := by
  unfold walkSeq at e
  split at e
  · cases e
    simp only [Rv] at r
    obtain ⟨a, vs, rfl, q, t⟩ := r
    exact ⟨a, rfl, .inr ⟨rfl, fun κ H2 h2 ex R2 st => ⟨vs, SqT.of (ex.tup a vs q), Rvs.ext ex _ _ t⟩, vs, SqT.of q⟩⟩
  · cases e
    simp only [Rv] at r
    obtain ⟨a, o, vs, rfl, q, _, t⟩ := r
    exact ⟨a, rfl, .inr ⟨rfl, fun κ H2 h2 ex R2 st => ⟨vs, .inl (.inr ⟨o, ex.frz a o _ q⟩), Rvs.ext ex _ _ t⟩, vs, .inl (.inr ⟨o, q⟩)⟩⟩
  · cases e
    simp only [Rv] at r
    obtain ⟨a, vs, rfl, n, q, t⟩ := r
    exact ⟨a, rfl, .inl ⟨rfl, fun κ H2 h2 ex R2 st => ⟨vs, SqL.of (ex.lst a vs n q), Rvs.ext ex _ _ t⟩, vs, SqL.of q⟩⟩
  · rename_i n
    split at e
    · rename_i xs hx
      cases e
      obtain ⟨a, vs, rfl, hn, q, t⟩ := ref_lst R r hx
      refine ⟨a, rfl, .inl ⟨rfl, fun κ H2 h2 ex R2 st => ?_, vs, SqL.of q⟩⟩
      have h2n : h2[n]? = some (.lst xs) := by
        unfold stays at st
        simp only [List.all_cons, List.all_nil, Bool.and_true, decide_eq_true_eq] at st
        exact st
      obtain ⟨o, ho, ro⟩ := R2.lt (ex.get hn)
      rw [h2n] at ho
      cases ho
      obtain ⟨ws, q2, t2⟩ := ro
      exact ⟨ws, SqL.of q2, t2⟩
    · cases e
  · cases e
theorem walk_list {K : PySem.W.Frag} {ν : List Addr} {H1 : Hp} {w : Wk} {a : Addr} (s : SeqW K ν H1 w (fun H vs => SqL K H a vs)) : Walk K ν H1 w (Itl K a) := fun κ H2 h2 ex R2 st => by
  obtain ⟨vs, hq, t⟩ := s κ H2 h2 ex R2 st
  refine ⟨fun i d hd => ?_, vs, hq, by rw [t.length] <;> exact Nat.le_refl _⟩
  obtain ⟨v, hv, rv⟩ := t.get hd
  refine ⟨⟨vs, v, hq, hv⟩, fun x H3 ⟨e, y⟩ => ?_⟩
  subst e
  have := y vs hq
  rw [hv] at this
  cases this
  exact ⟨Ext.refl _ _, R2, rv⟩
theorem walk_tup {K : PySem.W.Frag} {ν : List Addr} {H1 : Hp} {w : Wk} {a : Addr} (s : SeqW K ν H1 w (fun H vs => SqT K H a vs)) : Walk K ν H1 w (Itt K a) := fun κ H2 h2 ex R2 st => by
  obtain ⟨vs, hq, t⟩ := s κ H2 h2 ex R2 st
  refine ⟨fun i d hd => ?_, vs, hq, by rw [t.length] <;> exact Nat.le_refl _⟩
  obtain ⟨v, hv, rv⟩ := t.get hd
  refine ⟨⟨vs, v, hq, hv⟩, fun x H3 ⟨e, y⟩ => ?_⟩
  subst e
  have := y vs hq
  rw [hv] at this
  cases this
  exact ⟨Ext.refl _ _, R2, rv⟩
theorem walk_rng {K : PySem.W.Frag} {ν : List Addr} {H1 : Hp} {i0 : Int} {n : Nat} : Walk K ν H1 ⟨rangeD i0 n, []⟩ (Itr i0 n) := fun κ H2 h2 ex R2 st => by
  have len : (rangeD i0 n).length = n := by simp [rangeD]
  refine ⟨fun i d hd => ?_, by rw [len]; exact Nat.le_refl _⟩
  have hi : i < n := by
    rw [← len]
    exact (List.getElem?_eq_some_iff.mp hd).1
  have : d = .int (i0 + i) := by
    unfold rangeD at hd
    rw [List.getElem?_map, List.getElem?_range hi] at hd
    exact (Option.some.inj hd).symm
  subst this
  refine ⟨hi, fun x H3 ⟨e, ex'⟩ => ?_⟩
  subst e
  subst ex'
  exact ⟨Ext.refl _ _, R2, by simp only [Rv]⟩
/-- a new pair -/
theorem pair_new {K : PySem.W.Frag} {κ : List Addr} {H2 : Hp} {h2 : Hc} {d e : D} {x y : V} {T : Addr} (R2 : Rh K κ H2 h2) (hT : H2 T = none) (r1 : Rv K κ H2 d x) (r2 : Rv K κ H2 e y) :
    Ext κ H2 κ (upd H2 T (.tup [x, y])) ∧ Rh K κ (upd H2 T (.tup [x, y])) h2 ∧ Rv K κ (upd H2 T (.tup [x, y])) (.tup [d, e]) (.ref T) := by
  have X := Ext.side (u := .tup [x, y]) κ hT
  refine ⟨X, R2.side hT, ?_⟩
  simp only [Rv]
  exact ⟨T, [x, y], rfl, upd_same, Rvs.cons (Rv.ext X _ _ r1) (Rvs.one (Rv.ext X _ _ r2))⟩
theorem enumD_get : ∀ {xs : List D} {j i : Nat} {d : D}, (enumD j xs)[i]? = some d → ∃ x, xs[i]? = some x ∧ d = .tup [.int ((j + i : Nat) : Int), x]
  | [], j, i, d, h => by simp [enumD] at h
  | x :: xs, j, 0, d, h => by
    simp only [enumD, List.getElem?_cons_zero, Option.some.injEq] at h
    exact ⟨x, rfl, h.symm⟩
  | x :: xs, j, i + 1, d, h => by
    simp only [enumD, List.getElem?_cons_succ] at h
    obtain ⟨y, h1, h2⟩ := enumD_get h
    exact ⟨y, by simpa using h1, by rw [h2, show j + 1 + i = j + (i + 1) by omega]⟩
theorem enumD_len : ∀ (xs : List D) (j : Nat), (enumD j xs).length = xs.length
  | [], _ => rfl
  | x :: xs, j => by rw [enumD, List.length_cons, List.length_cons, enumD_len xs]
theorem zipD_get : ∀ {xs ys : List D} {i : Nat} {d : D}, (zipD xs ys)[i]? = some d → ∃ x y, xs[i]? = some x ∧ ys[i]? = some y ∧ d = .tup [x, y]
  | [], _, _, _, h => by simp [zipD] at h
  | _ :: _, [], _, _, h => by simp [zipD] at h
  | x :: xs, y :: ys, 0, d, h => by
    simp only [zipD, List.getElem?_cons_zero, Option.some.injEq] at h
    exact ⟨x, y, rfl, rfl, h.symm⟩
  | x :: xs, y :: ys, i + 1, d, h => by
    simp only [zipD, List.getElem?_cons_succ] at h
    obtain ⟨a, b, h1, h2, h3⟩ := zipD_get h
    exact ⟨a, b, by simpa using h1, by simpa using h2, h3⟩
theorem zipD_len : ∀ (xs ys : List D), xs.length ≤ (zipD xs ys).length ∨ ys.length ≤ (zipD xs ys).length
  | [], _ => .inl (Nat.le_refl _)
  | _ :: _, [] => .inr (Nat.le_refl _)
  | x :: xs, y :: ys => by
    rw [zipD, List.length_cons, List.length_cons, List.length_cons]
    rcases zipD_len xs ys with h | h
    · exact .inl (by omega)
    · exact .inr (by omega)
theorem walk_enumL {K : PySem.W.Frag} {ν : List Addr} {H1 : Hp} {w : Wk} {a : Addr} (s : SeqW K ν H1 w (fun H vs => SqL K H a vs)) : Walk K ν H1 ⟨enumD 0 w.items, w.stay⟩ (Ite K a) := fun κ H2 h2 ex R2 st => by
  obtain ⟨vs, hq, t⟩ := s κ H2 h2 ex R2 st
  refine ⟨fun i d hd => ?_, vs, hq, by rw [enumD_len, t.length] <;> exact Nat.le_refl _⟩
  obtain ⟨z, hz, rfl⟩ := enumD_get hd
  obtain ⟨v, hv, rv⟩ := t.get hz
  refine ⟨⟨vs, v, hq, hv⟩, fun x H3 ⟨T, y, ex1, hT, eH, hy⟩ => ?_⟩
  subst ex1 eH
  have := hy vs hq
  rw [hv] at this
  cases this
  rw [Nat.zero_add]
  exact pair_new R2 hT (by simp only [Rv]) rv
/-! enumerate of a tuple -/
def IteT (K : PySem.W.Frag) (a : Addr) : It :=
  ⟨fun i H => ∃ (xs : List V) (x : V), SqT K H a xs ∧ xs[i]? = some x, fun i H v H' => ∃ T x, v = .ref T ∧ H T = none ∧ H' = upd H T (.tup [.int (i : Nat), x]) ∧ ∀ xs, SqT K H a xs → xs[i]? = some x, fun i H => ∃ xs : List V, SqT K H a xs ∧ xs.length = i⟩
theorem walk_enumT {K : PySem.W.Frag} {ν : List Addr} {H1 : Hp} {w : Wk} {a : Addr} (s : SeqW K ν H1 w (fun H vs => SqT K H a vs)) : Walk K ν H1 ⟨enumD 0 w.items, w.stay⟩ (IteT K a) := fun κ H2 h2 ex R2 st => by
  obtain ⟨vs, hq, t⟩ := s κ H2 h2 ex R2 st
  refine ⟨fun i d hd => ?_, vs, hq, by rw [enumD_len, t.length]⟩
  obtain ⟨z, hz, rfl⟩ := enumD_get hd
  obtain ⟨v, hv, rv⟩ := t.get hz
  refine ⟨⟨vs, v, hq, hv⟩, fun x H3 ⟨T, y, ex1, hT, eH, hy⟩ => ?_⟩
  subst ex1 eH
  have := hy vs hq
  rw [hv] at this
  cases this
  rw [Nat.zero_add]
  exact pair_new R2 hT (by simp only [Rv]) rv
theorem stays_app {h : Hc} {l m : List (Nat × O)} (e : stays h (l ++ m) = true) : stays h l = true ∧ stays h m = true := by
  unfold stays at e ⊢
  rw [List.all_append, Bool.and_eq_true] at e
  exact e
theorem walk_zipL {K : PySem.W.Frag} {ν : List Addr} {H1 : Hp} {w u : Wk} {a b : Addr} (s : SeqW K ν H1 w (fun H vs => SqL K H a vs)) (s2 : SeqW K ν H1 u (fun H vs => SqL K H b vs)) : Walk K ν H1 ⟨zipD w.items u.items, w.stay ++ u.stay⟩ (Itz K a b) := fun κ H2 h2 ex R2 st => by
  obtain ⟨st1, st2⟩ := stays_app st
  obtain ⟨vs, hq, t⟩ := s κ H2 h2 ex R2 st1
  obtain ⟨ws, hq2, t2⟩ := s2 κ H2 h2 ex R2 st2
  refine ⟨fun i d hd => ?_, vs, ws, hq, hq2, ?_⟩
  · obtain ⟨p, q, hp, hq', rfl⟩ := zipD_get hd
    obtain ⟨v, hv, rv⟩ := t.get hp
    obtain ⟨v2, hv2, rv2⟩ := t2.get hq'
    refine ⟨⟨vs, ws, v, v2, hq, hq2, hv, hv2⟩, fun x H3 ⟨T, y, y2, ex1, hT, eH, hy, hy2⟩ => ?_⟩
    subst ex1 eH
    have h1 := hy vs hq
    have h2 := hy2 ws hq2
    rw [hv] at h1
    rw [hv2] at h2
    cases h1
    cases h2
    exact pair_new R2 hT rv rv2
  · rw [← t.length, ← t2.length]
    exact zipD_len _ _
theorem walk_zipT {K : PySem.W.Frag} {ν : List Addr} {H1 : Hp} {w u : Wk} {a b : Addr} (s : SeqW K ν H1 w (fun H vs => SqT K H a vs)) (s2 : SeqW K ν H1 u (fun H vs => SqT K H b vs)) : Walk K ν H1 ⟨zipD w.items u.items, w.stay ++ u.stay⟩ (RZ.ItzT K a b) := fun κ H2 h2 ex R2 st => by
  obtain ⟨st1, st2⟩ := stays_app st
  obtain ⟨vs, hq, t⟩ := s κ H2 h2 ex R2 st1
  obtain ⟨ws, hq2, t2⟩ := s2 κ H2 h2 ex R2 st2
  refine ⟨fun i d hd => ?_, vs, ws, hq, hq2, ?_⟩
  · obtain ⟨p, q, hp, hq', rfl⟩ := zipD_get hd
    obtain ⟨v, hv, rv⟩ := t.get hp
    obtain ⟨v2, hv2, rv2⟩ := t2.get hq'
    refine ⟨⟨vs, ws, v, v2, hq, hq2, hv, hv2⟩, fun x H3 ⟨T, y, y2, ex1, hT, eH, hy, hy2⟩ => ?_⟩
    subst ex1 eH
    have h1 := hy vs hq
    have h2 := hy2 ws hq2
    rw [hv] at h1
    rw [hv2] at h2
    cases h1
    cases h2
    exact pair_new R2 hT rv rv2
  · rw [← t.length, ← t2.length]
    exact zipD_len _ _
end Q

/-! QL: iterators, comprehensions. -/
namespace Q
open PySem PySem.Spec PyProof.Rows L2
set_option maxHeartbeats 1000000 in
theorem enum_new_tup (l : Addr) (items : Array Value) (n : Nat) (dct : Option Addr) (sl : Array (Option Value)) :
    Meets (Builtin.«enumerate.__new__» ⟨[.type "enumerate", .ref l], []⟩) (fun _ R s => s.heap.get? l = some { cls := .type "tuple", dict := dct, data := .seq items n, slots := sl } ∧
      R (.ok (.ret (.ref (s.heap.push { cls := .type "tuple_iterator", data := .fields #[.ref l, .int 0 0] }).objs.size)))
        { s with heap := (s.heap.push { cls := .type "tuple_iterator", data := .fields #[.ref l, .int 0 0] }).push { cls := .type "enumerate", data := .fields #[.none, .bool false, .ref s.heap.objs.size, rawInt 0, .none, .none] } }) :=
  .of_wp fun prog w A R s q => by
    obtain ⟨hp, g, d, tk, os⟩ := s
    obtain ⟨hl, q⟩ := q
    have fsub := sub_enumerate
    have hT : Heap.IsTuple (Shared.heap ⟨hp, g, d, tk, os⟩) l items := ⟨_, hl, rfl, n, rfl⟩
    wp_walk using wpAny_loadPart' hl
    refine wpAny_stack_any fun st => wpAny_pure ?_
    split
    · rename_i c _ _ _ _ _
      cases (c == Value.type "enumerate")
      all_goals
        wp_walk using wpAny_loadPart' hl, wpAny_pyIter_tuple hT
        exact ⟨_, rfl, q⟩
    · wp_walk using wpAny_loadPart' hl, wpAny_pyIter_tuple hT
      exact ⟨_, rfl, q⟩
section
variable {prog : Program} {w : World} {A : Around} {E : Value → Shared → Prop} {s : Shared}
theorem call_enum_tup {l : Addr} {items : Array Value} {Q : Value → Shared → Prop} (hL : IsTup s.heap l items)
    (q : ∀ h', IsEnum h' (s.heap.objs.size + 1) s.heap.objs.size 0 .none → h'.IsTupleIter s.heap.objs.size l 0 → (∀ b o, s.heap.get? b = some o → h'.get? b = some o) → Q (.ref (s.heap.objs.size + 1)) { s with heap := h' }) :
    wpAny (model prog w) A (call (.type "enumerate") [.ref l]) Q E s := by
  obtain ⟨⟨cls, dd, dt, sls⟩, hl, hcl, n, hdt⟩ := hL
  simp only at hcl hdt
  subst hcl hdt
  refine callType_new F.called_enumerate (by decide) (F.typeCall_enumerate_1 _) (F.newCall_enumerate_1 _) (fun obj => F.args_object_init_2 obj _) F.entry_enumerate_new (enum_new_tup l items n dd sls) ⟨hl, ?_⟩
  have hz : (s.heap.push { cls := .type "tuple_iterator", data := .fields #[.ref l, .int 0 0] }).objs.size = s.heap.objs.size + 1 := Heap.size_push ..
  show _ ∧ _
  rw [hz]
  have he : IsEnum ((s.heap.push { cls := .type "tuple_iterator", data := .fields #[.ref l, .int 0 0] }).push { cls := .type "enumerate", data := .fields #[.none, .bool false, .ref s.heap.objs.size, rawInt 0, .none, .none] }) (s.heap.objs.size + 1) s.heap.objs.size 0 .none := by
    have := Heap.get?_push_size (s.heap.push { cls := .type "tuple_iterator", data := .fields #[.ref l, .int 0 0] }) (o := { cls := .type "enumerate", data := .fields #[.none, .bool false, .ref s.heap.objs.size, rawInt 0, .none, .none] }) rfl
    rw [hz] at this
    exact this
  exact ⟨⟨_, he, rfl⟩, q _ he ⟨_, Heap.get?_push_of_some _ (Heap.get?_push_size _ rfl), rfl, rfl⟩ fun b o x => Heap.get?_push_of_some _ (Heap.get?_push_of_some _ x)⟩
end
theorem turn_enumT {P : Program} {w : World} {K : PySem.W.Frag} {elts : List Expr} {kk : Nat} {tpos : Pos} (a e it : Addr) :
    Turn P w K (.Tuple elts kk tpos) (IteT K a) [e, it] e (fun i h => (∃ old, IsEnum h e it ((i : Nat) : Int) old) ∧ h.IsTupleIter it a i ∧ e ≠ it) where
  mem := by simp
  obj := fun i h ⟨⟨old, he⟩, ⟨o, ho, hc, hd⟩, _⟩ b hb => by
    rcases (by simpa using hb : b = e ∨ b = it) with rfl | rfl
    · exact ⟨_, he, fun v q => nomatch q⟩
    · exact ⟨o, ho, fun v q => by rw [hd] at q; cases q⟩
  keep := fun i h h' ⟨⟨old, he⟩, hi, hne⟩ k => ⟨⟨old, k e (by simp) _ he⟩, hi.at fun o q => k it (by simp) o q, hne⟩
  item := by
    intro X eP eW eK hc i pins s σ H E I hf ⟨⟨old, he⟩, hit, hne⟩ ⟨xs, x, hq, hx⟩
    subst eP eW eK
    obtain ⟨its, rv, p, hz⟩ := I.tuple hq
    obtain ⟨u, hu, ru⟩ := rv.get hx
    have hel : e < s.heap.objs.size := Heap.lt_size he
    have hil : it < s.heap.objs.size := let ⟨_, q, _⟩ := hit; Heap.lt_size q
    have hti : a ≠ it := fun z => by
      subst z
      obtain ⟨o, ho, hcl, _⟩ := p
      obtain ⟨o2, ho2, hcl2, _⟩ := hit
      rw [ho] at ho2
      cases ho2
      rw [hcl] at hcl2
      exact absurd hcl2 (by decide)
    have hte : a ≠ e := fun z => by
      subst z
      obtain ⟨o, ho, hcl, _⟩ := p
      rw [show s.heap.get? a = _ from he] at ho
      cases ho
      exact absurd (show Value.type "enumerate" = Value.type "tuple" from hcl) (by decide)
    have hli : i < its.toArray.size := by
      rw [List.size_toArray]
      exact (List.getElem?_eq_some_iff.mp hu).1
    have hz1 : X.A.in1.in1.handled = none := I.ok.hd hc
    refine wpAny_pyNext_enum_itemD (Draws.tuple (prog := X.prog) (w := X.w) (A := X.A.in1) (I.ok.hd hc) it a hti its.toArray) he ⟨hit, show s.heap.IsTuple a its.toArray from p⟩ hli hne (by simp [hne, Ne.symm hte]) fun v h' tk hv ho hst hT hsz hk => ?_
    have ev : v = u := by
      have h2 : its.toArray[i]? = some u := by simpa using hu
      rw [h2] at hv
      exact (Option.some.inj hv).symm
    subst ev
    refine ⟨_, rfl, wpAny_letOwnedTupleGo_enum (s := { s with heap := h', toks := tk + 1 }) ho fun h'' he' sb => ?_⟩
    have hT2 : h''.get? s.heap.objs.size = some { cls := .type "tuple", data := .seq #[.int i tk, v] } := (sb.2 _ (Nat.ne_of_gt hel)).trans hT
    have new : ObjOk X.prog X.w (upd H s.heap.objs.size (.tup [.int (i : Nat), x])) h'' s.heap.objs.size (.tup [.int (i : Nat), x]) :=
      ⟨by show 2 ≤ sizeLine; decide, [.int i tk, v], .cons ⟨_, rfl⟩ (.cons ru .nil), ⟨_, hT2, rfl, _, rfl⟩⟩
    have I1 : Inv X pins σ (upd H s.heap.objs.size (.tup [.int (i : Nat), x])) { s with heap := h'', toks := tk + 1 } :=
      I.turnedNew (ch := [e, it]) (fun b ob hb q => (sb.2 b fun z => hb (by simp [z])).trans (hk b ob (fun z => hb (by simp [z])) (fun z => hb (by simp [z])) q)) hf (Nat.le_refl _) new
    refine ⟨.ref s.heap.objs.size, _, I1, rfl, ⟨_, x, rfl, I.hok.fresh (Nat.le_refl _), rfl, fun ys hy => by rw [I.tuple_inj hy hq]; exact hx⟩, ⟨⟨v, ?_⟩, hst.1.at fun o q => (sb.2 it (Ne.symm hne)).trans q, hne⟩, fun b hb => ?_⟩
    · rw [show ((i + 1 : Nat) : Int) = (i : Int) + 1 by omega]
      exact he'
    · have hb' : b < s.heap.objs.size := by
        rcases (by simpa using hb : b = e ∨ b = it) with rfl | rfl
        · exact hel
        · exact hil
      rw [upd_ne (Nat.ne_of_lt hb')]
      exact (hf b hb).1
  done := by
    intro X eP eW eK hc i pins s σ H E I hf ⟨⟨old, he⟩, hit, hne⟩ ⟨xs, hq, hx⟩
    subst eP eW eK
    obtain ⟨its, rv, p, hz⟩ := I.tuple hq
    have hti : a ≠ it := fun z => by
      subst z
      obtain ⟨o, ho, hcl, _⟩ := p
      obtain ⟨o2, ho2, hcl2, _⟩ := hit
      rw [ho] at ho2
      cases ho2
      rw [hcl] at hcl2
      exact absurd hcl2 (by decide)
    obtain ⟨f0, f1, f2, f3, f4, f5⟩ := hf it (by simp)
    have hlen := rv.length
    have ei : i = its.toArray.size := by
      rw [List.size_toArray, ← hlen, hx]
    subst ei
    exact wpAny_pyNext_enum_endD (Draws.tuple (prog := X.prog) (w := X.w) (A := X.A.in1) (I.ok.hd hc) it a hti its.toArray) he ⟨hit, show s.heap.IsTuple a its.toArray from p⟩ fun h' eb => ⟨rfl, I.turned (t' := s.toks) (fun b o hb q => eb b o hb q) f0 f1 f3 f4 f5⟩
  self := fun A i s Q E ⟨⟨_, he⟩, _⟩ h => wpAny_pyIter_enum he h

/-! ### what a for, a comprehension asks of its source -/
def iQ (K : PySem.W.Frag) (cv : Nat → Value) (W : WX) (F : Nat → List D → Hc → R D) (k : IK) (es : List CE) : TI := fun σ H C => RA K cv W (evs F es) σ H fun vs H1 => ∃ ν h1 ds w, Rh K ν H1 h1 ∧ Rvs K ν H1 ds vs ∧ walkOf k ds h1 = some w ∧ ∀ J H1', Ext ν H1 ν H1' → Rh K ν H1' (lockH k ds h1) → Walk K ν H1' w J → C J H1'
section
variable {X : Cx} {C : Ck} {F : Nat → List D → Hc → R D} {cv : Nat → Value} {k : Nat} {W : WX} {e x y tg : Expr} {a b d : CE} {pos p0 p1 p2 : Pos} {r es : List Expr} {cs : List CE} {nm : PySem.Str}
theorem it_list {pins : List (Addr × Obj)} {σ : L2.St} {H : Hp} {s : Shared} {l : Addr} {xs : List V} {B : It → Hp → Prop} (I : Inv X pins σ H s) (hq : SqL X.K H l xs) (q : B (Itl X.K l) H) : wpAny (model X.prog X.w) X.A (pyIter (.ref l)) (PIE X pins σ tg B) X.xe s := by
  obtain ⟨its, _, p, _⟩ := I.list hq
  have keep : ∀ b o, s.heap.get? b = some o → (s.heap.push { cls := .type "list_iterator", data := .fields #[.ref l, .int 0 0] }).get? b = some o := fun b o e => Heap.get?_push_of_some _ e
  refine wpAny_pyIter_list p.isList ⟨s.heap.objs.size, [s.heap.objs.size], fun i h => h.IsListIter s.heap.objs.size l i, _, H, rfl, I.kept (t' := s.toks) keep, turn_list l _, ⟨_, Heap.get?_push_size _ rfl, rfl, rfl⟩, fun b hb => ?_, q⟩
  rw [List.mem_singleton.mp hb]
  exact I.fpOk (Nat.le_refl _) (I.hok.fresh (Nat.le_refl _))
theorem it_tup {pins : List (Addr × Obj)} {σ : L2.St} {H : Hp} {s : Shared} {l : Addr} {xs : List V} {B : It → Hp → Prop} (I : Inv X pins σ H s) (hq : SqT X.K H l xs) (q : B (Itt X.K l) H) : wpAny (model X.prog X.w) X.A (pyIter (.ref l)) (PIE X pins σ tg B) X.xe s := by
  obtain ⟨its, _, p, _⟩ := I.tuple hq
  have keep : ∀ b o, s.heap.get? b = some o → (s.heap.push { cls := .type "tuple_iterator", data := .fields #[.ref l, .int 0 0] }).get? b = some o := fun b o e => Heap.get?_push_of_some _ e
  refine wpAny_pyIter_tuple (show s.heap.IsTuple l its.toArray from p) ⟨s.heap.objs.size, [s.heap.objs.size], fun i h => h.IsTupleIter s.heap.objs.size l i, _, H, rfl, I.kept (t' := s.toks) keep, turn_tuple l _, ⟨_, Heap.get?_push_size _ rfl, rfl, rfl⟩, fun b hb => ?_, q⟩
  rw [List.mem_singleton.mp hb]
  exact I.fpOk (Nat.le_refl _) (I.hok.fresh (Nat.le_refl _))
theorem one_reads {K : PySem.W.Frag} {σ : L2.St} {H : Hp} {B : List V → Hp → Prop} (h : RA K cv W (evs F [a]) σ H B) : RE K cv W (ev F a) σ H fun x H1 => B [x] H1 := by
  obtain ⟨μ, ρ, hh, re, rh, p⟩ := h
  simp only [evs, bind_assoc, R.bind_ok] at p
  refine ⟨μ, ρ, hh, re, rh, (PostG.bind (Rel' := (Rv K · ·)) p).imp (fun x H1 ⟨ν, h1, d1, ex, R1, r1, q1⟩ => ?_) fun _ _ z => z⟩
  exact q1 [x] ν H1 (Ext.refl _ _) R1 (Rvs.one r1)
theorem pi_seq (ha : PE X e (RE X.K cv W (ev F a))) : PI X tg e (iQ X.K cv W F .seq [a]) := by
  refine ⟨fun pins s σ H B I h => ?_⟩
  refine thn (ha.run pins s σ H _ I (one_reads h)) fun u s1 ⟨x, H1, I1, r1, ν, h1, ds, w, R1, rd, hw, q⟩ => ?_
  cases ds with
  | nil => simp [walkOf] at hw
  | cons d ds =>
    cases ds with
    | cons _ _ => simp [walkOf] at hw
    | nil =>
      obtain ⟨v, e1, rv⟩ := rd.un1
      cases e1
      obtain ⟨l, rfl, ⟨_, sw, vs, hq⟩ | ⟨_, sw, vs, hq⟩⟩ := seqW_of R1 rv hw
      · cases r1
        exact it_list I1 hq (q _ H1 (Ext.refl _ _) R1 (walk_list sw))
      · cases r1
        exact it_tup I1 hq (q _ H1 (Ext.refl _ _) R1 (walk_tup sw))
theorem pi_rng1 (hg : Gl X "range") (hm : X.mg "range" = none) (hk : cks C X.env.scope cs [e] = true) (ha : PA X [e] (RA X.K cv W (evs F cs))) : PI X tg (.Call (.Name "range" p0) [e] [] pos) (iQ X.K cv W F .rng1 cs) := by
  have hs : starEach [e] X.env = [(false, eval e X.env)] := by
    cases cs with
    | nil => simp [cks] at hk
    | cons c cs =>
      simp only [cks, Bool.and_eq_true] at hk
      exact star_plain hk.1
  refine ⟨fun pins s σ H B I h => (pi_range1 hg hm ha hs).run pins s σ H B I ?_⟩
  obtain ⟨μ, ρ, hh, re, rh, p⟩ := h
  refine ⟨μ, ρ, hh, re, rh, p.imp (fun vs H1 ⟨ν, h1, ds, w, R1, rd, hw, q⟩ => ?_) fun _ _ z => z⟩
  unfold walkOf at hw
  split at hw <;> try (first | (cases hw; done) | (rename_i e; cases e; done))
  rename_i j _
  obtain ⟨v, rfl, rv⟩ := rd.un1
  simp only [Rv] at rv
  subst rv
  split at hw
  · rename_i hj
    cases hw
    exact ⟨j, rfl, hj.1, hj.2, q _ H1 (Ext.refl _ _) R1 walk_rng⟩
  · cases hw
theorem pi_rng2 (hg : Gl X "range") (hm : X.mg "range" = none) (hk : cks C X.env.scope cs [x, y] = true) (ha : PA X [x, y] (RA X.K cv W (evs F cs))) : PI X tg (.Call (.Name "range" p0) [x, y] [] pos) (iQ X.K cv W F .rng2 cs) := by
  have hs : starEach [x, y] X.env = [(false, eval x X.env), (false, eval y X.env)] ∧ starEach [y] X.env = [(false, eval y X.env)] := by
    cases cs with
    | nil => simp [cks] at hk
    | cons c cs =>
      cases cs with
      | nil => simp [cks] at hk
      | cons c2 cs =>
        simp only [cks, Bool.and_eq_true] at hk
        rw [star_plain hk.1, star_plain hk.2.1]
        exact ⟨rfl, rfl⟩
  refine ⟨fun pins s σ H B I h => (pi_range2 hg hm ha hs.1 hs.2).run pins s σ H B I ?_⟩
  obtain ⟨μ, ρ, hh, re, rh, p⟩ := h
  refine ⟨μ, ρ, hh, re, rh, p.imp (fun vs H1 ⟨ν, h1, ds, w, R1, rd, hw, q⟩ => ?_) fun _ _ z => z⟩
  unfold walkOf at hw
  split at hw <;> try (first | (cases hw; done) | (rename_i e; cases e; done))
  rename_i i j _
  obtain ⟨v, u, rfl, rv, ru⟩ := rd.un2
  simp only [Rv] at rv ru
  subst rv ru
  split at hw
  · rename_i hj
    cases hw
    exact ⟨i, j, rfl, ⟨hj.1.1, hj.1.2, hj.2.1, hj.2.2⟩, q _ H1 (Ext.refl _ _) R1 walk_rng⟩
  · cases hw
theorem pi_enumQ {elts : List Expr} {kk : Nat} {tpos : Pos} (hg : Gl X "enumerate") (hm : X.mg "enumerate" = none) (hk : cks C X.env.scope cs [e] = true) (ha : PA X [e] (RA X.K cv W (evs F cs))) : PI X (.Tuple elts kk tpos) (.Call (.Name "enumerate" p0) [e] [] pos) (iQ X.K cv W F .enum cs) := by
  have hs : starEach [e] X.env = [(false, eval e X.env)] := by
    cases cs with
    | nil => simp [cks] at hk
    | cons c cs =>
      simp only [cks, Bool.and_eq_true] at hk
      exact star_plain hk.1
  refine ⟨fun pins s σ H B I h => ?_⟩
  refine Call_ (ld_blt I hg hm boot_enumerate (PyProof.Rows.callWith_type1 (thn (ha.run pos pins s σ H _ I h) fun us s1 ⟨vs, H1, I1, r1, ν, h1, ds, w, R1, rd, hw, q⟩ => ?_) hs rfl))
  unfold walkOf at hw
  split at hw <;> try (first | (cases hw; done) | (rename_i e; cases e; done))
  rename_i d
  obtain ⟨u, hu, rfl⟩ := Option.map_eq_some_iff.mp hw
  obtain ⟨v, rfl, rv⟩ := rd.un1
  obtain ⟨uu, rfl, ru⟩ := r1.one
  obtain ⟨l, rfl, ⟨_, sw, vs, hq⟩ | ⟨_, sw, vs, hq⟩⟩ := seqW_of R1 rv hu
  · cases ru
    obtain ⟨its, _, p', _⟩ := I1.list hq
    refine call_enumerate_list p'.isList fun h' he hit hsz hk' => wpAny_pyIter_enum he ?_
    refine ⟨s1.heap.objs.size + 1, [s1.heap.objs.size + 1, s1.heap.objs.size], _, _, H1, rfl, I1.kept (t' := s1.toks) hk', turn_enum l (s1.heap.objs.size + 1) s1.heap.objs.size, ⟨⟨.none, he⟩, hit, Nat.succ_ne_self _⟩, fun b hb => ?_, q _ H1 (Ext.refl _ _) R1 (walk_enumL sw)⟩
    have hle : s1.heap.objs.size ≤ b := by
      rcases (by simpa using hb : b = s1.heap.objs.size + 1 ∨ b = s1.heap.objs.size) with z | z
      · rw [z]
        exact Nat.le_add_right _ _
      · rw [z]
        exact Nat.le_refl _
    exact I1.fpOk hle (I1.hok.fresh hle)
  · cases ru
    obtain ⟨its, _, p', _⟩ := I1.tuple hq
    refine call_enum_tup p' fun h' he hit hk' => wpAny_pyIter_enum he ?_
    refine ⟨s1.heap.objs.size + 1, [s1.heap.objs.size + 1, s1.heap.objs.size], _, _, H1, rfl, I1.kept (t' := s1.toks) hk', turn_enumT l (s1.heap.objs.size + 1) s1.heap.objs.size, ⟨⟨.none, he⟩, hit, Nat.succ_ne_self _⟩, fun b hb => ?_, q _ H1 (Ext.refl _ _) R1 (walk_enumT sw)⟩
    have hle : s1.heap.objs.size ≤ b := by
      rcases (by simpa using hb : b = s1.heap.objs.size + 1 ∨ b = s1.heap.objs.size) with z | z
      · rw [z]
        exact Nat.le_add_right _ _
      · rw [z]
        exact Nat.le_refl _
    exact I1.fpOk hle (I1.hok.fresh hle)
theorem pi_zipQ {elts : List Expr} {kk : Nat} {tpos : Pos} (hg : Gl X "zip") (hm : X.mg "zip" = none) (hk : cks C X.env.scope cs [x, y] = true) (ha : PA X [x, y] (RA X.K cv W (evs F cs))) : PI X (.Tuple elts kk tpos) (.Call (.Name "zip" p0) [x, y] [] pos) (iQ X.K cv W F .zip cs) := by
  have hs : starEach [x, y] X.env = (false, eval x X.env) :: starEach [y] X.env ∧ starEach [y] X.env = [(false, eval y X.env)] := by
    cases cs with
    | nil => simp [cks] at hk
    | cons c cs =>
      cases cs with
      | nil => simp [cks] at hk
      | cons c2 cs =>
        simp only [cks, Bool.and_eq_true] at hk
        rw [star_plain hk.1, star_plain hk.2.1]
        exact ⟨rfl, rfl⟩
  refine ⟨fun pins s σ H B I h => (RZ.pi_zipA hg hm ha hs.1 (back_plain (by rw [hs.2] <;> rfl))).run pins s σ H B I ?_⟩
  obtain ⟨μ, ρ, hh, re, rh, p⟩ := h
  refine ⟨μ, ρ, hh, re, rh, p.imp (fun vs H1 ⟨ν, h1, ds, w, R1, rd, hw, q⟩ => ?_) fun _ _ z => z⟩
  unfold walkOf at hw
  split at hw <;> try (first | (cases hw; done) | (rename_i e; cases e; done))
  rename_i d e _
  split at hw
  · cases hw
  · rename_i hne
    obtain ⟨w1, e1, e2⟩ := Option.bind_eq_some_iff.mp hw
    obtain ⟨w2, e3, rfl⟩ := Option.map_eq_some_iff.mp e2
    obtain ⟨v, u, rfl, rv, ru⟩ := rd.un2
    obtain ⟨l, rfl, c1⟩ := seqW_of R1 rv e1
    obtain ⟨m, rfl, c2⟩ := seqW_of R1 ru e3
    have hne : isListD h1 d = isListD h1 e := by simpa using hne
    rcases c1 with ⟨k1, sw, xs, hq⟩ | ⟨k1, sw, xs, hq⟩ <;> rcases c2 with ⟨k2, sw2, ys, hq2⟩ | ⟨k2, sw2, ys, hq2⟩
    · exact ⟨l, m, xs, ys, rfl, .inl ⟨hq, hq2, q _ H1 (Ext.refl _ _) R1 (walk_zipL sw sw2)⟩⟩
    · rw [k1, k2] at hne; cases hne
    · rw [k1, k2] at hne; cases hne
    · exact ⟨l, m, xs, ys, rfl, .inr ⟨hq, hq2, q _ H1 (Ext.refl _ _) R1 (walk_zipT sw sw2)⟩⟩
end
end Q

/-! QKd: walks over dicts. -/
namespace Q
open PySem PySem.Spec PyProof.Rows L2
/-- a dict's kind of description -/
def IsD : HO → Prop
  | .dK _ => True
  | .dT _ => True
  | _ => False
/-- what stands in a known dict object, row by row -/
def DRow (o : Obj) (ps : List (V × V)) : Prop := ∃ es ep, o.data = .dict es ep ∧ es.size = ps.length ∧ ∀ (i : Nat) k v, ps[i]? = some (k, v) → ∃ en : DictEntry, es[i]? = some en ∧ RelV k en.key ∧ RelV v en.val
section
variable {X : Cx} {pins : List (Addr × Obj)} {σ : L2.St} {H : Hp} {s : Shared} {d : Addr} {o : Obj} {u : HO}
theorem frzD (I : Inv X pins σ H s) (h : H d = some (.frz o u)) (hu : IsD u) : (d == sysModules) = false ∧ s.heap.get? d = some o ∧ o.ExactDict := by
  cases u with
  | dK kvs =>
    obtain ⟨a, b, c, _⟩ := I.frzK h
    exact ⟨a, b, c⟩
  | dT kvs =>
    obtain ⟨a, b, c, _⟩ := I.frzT h
    exact ⟨a, b, c⟩
  | _ => exact hu.elim
theorem rowsK {kvs : List (Key × V)} (I : Inv X pins σ H s) (h : H d = some (.frz o (.dK kvs))) : DRow o (kvs.map fun p => (kV p.1, p.2)) := by
  obtain ⟨hd, z, hs, vs, kv, o', es, ep, ho, hx, hdt, r⟩ := I.hok d _ h
  rw [hd] at ho
  cases ho
  have l1 := r.2.1.length
  have l2 : kvs.length = vs.length := Paired.length kv
  rw [Array.length_toList] at l1
  refine ⟨es, ep, hdt, by rw [List.length_map]; omega, fun i k v e => ?_⟩
  rw [List.getElem?_map] at e
  obtain ⟨⟨k0, v0⟩, e0, e1⟩ := Option.map_eq_some_iff.mp e
  simp only [Prod.mk.injEq] at e1
  obtain ⟨rfl, rfl⟩ := e1
  obtain ⟨w, hw, rw_⟩ := kv_get kv e0
  have hi : i < es.size := by have := (List.getElem?_eq_some_iff.mp hw).1; omega
  have g := r.2.1.get? (i := i) (e := es[i]) (by simp [hi]) hw
  exact ⟨es[i], Array.getElem?_eq_getElem hi, keyIs_rel g.1, by rw [g.2]; exact rw_⟩
theorem rowsT {kvs : List (List Key × V)} (I : Inv X pins σ H s) (h : H d = some (.frz o (.dT kvs))) :
    ∃ qs : List Addr, qs.length = kvs.length ∧ (∀ (i : Nat) (k : List Key) (v : V) (q : Addr), kvs[i]? = some (k, v) → qs[i]? = some q → H q = some (.tup (k.map kV))) ∧ DRow o ((qs.zip kvs).map fun p => (V.ref p.1, p.2.2)) := by
  obtain ⟨hd, z, hs, xs, pr, o', es, ep, ho, hx, hdt, he, _⟩ := I.hok d _ h
  rw [hd] at ho
  cases ho
  have l1 : es.size = xs.length := size_of_entries he
  have l2 : kvs.length = xs.length := Paired.length pr
  refine ⟨xs.map fun x => x.2.1, by rw [List.length_map, l2], fun i k v q e eq => ?_, es, ep, hdt, by simp; omega, fun i k v e => ?_⟩
  · obtain ⟨b, hb, e1, e2, _⟩ := paired_get pr e
    rw [List.getElem?_map, hb] at eq
    cases eq
    exact e2
  · rw [List.getElem?_map] at e
    obtain ⟨⟨q0, k0, v0⟩, e0, e1⟩ := Option.map_eq_some_iff.mp e
    simp only [Prod.mk.injEq] at e1
    obtain ⟨rfl, rfl⟩ := e1
    rw [List.getElem?_zip_eq_some] at e0
    obtain ⟨e2, e3⟩ := e0
    obtain ⟨b, hb, e4, e5, e6⟩ := paired_get pr e3
    simp only [List.getElem?_map, hb, Option.map_some, Option.some.injEq] at e2
    subst e2
    have q := entry_at he i
    rw [hb] at q
    exact ⟨_, q, rfl, e6⟩
end
def ItDi (d : Addr) (o : Obj) (u : HO) (ps : List (V × V)) : It :=
  ⟨fun i H => H d = some (.frz o u) ∧ i < ps.length, fun i H x H' => ∃ T k v, ps[i]? = some (k, v) ∧ x = .ref T ∧ H T = none ∧ H' = upd H T (.tup [k, v]), fun i H => H d = some (.frz o u) ∧ ps.length ≤ i⟩
def ItDk (d : Addr) (o : Obj) (u : HO) (ps : List (V × V)) : It :=
  ⟨fun i H => H d = some (.frz o u) ∧ i < ps.length, fun i H x H' => H' = H ∧ ∃ v, ps[i]? = some (x, v), fun i H => H d = some (.frz o u) ∧ ps.length ≤ i⟩
def ItDv (d : Addr) (o : Obj) (u : HO) (ps : List (V × V)) : It :=
  ⟨fun i H => H d = some (.frz o u) ∧ i < ps.length, fun i H x H' => H' = H ∧ ∃ k, ps[i]? = some (k, x), fun i H => H d = some (.frz o u) ∧ ps.length ≤ i⟩
section
variable {P : Program} {w : World} {K : PySem.W.Frag} {tg : Expr} {d : Addr} {o : Obj} {u : HO} {ps : List (V × V)} {es : Array DictEntry} {ep : Nat}
theorem turn_dk (it : Addr) (hu : IsD u) (hod : o.data = .dict es ep) (hsz : es.size = ps.length) (hr : ∀ (i : Nat) k v, ps[i]? = some (k, v) → ∃ en : DictEntry, es[i]? = some en ∧ RelV k en.key ∧ RelV v en.val) :
    Turn P w K tg (ItDk d o u ps) [it] it (fun i h => h.IsKeyIter it d i es.size ep) where
  mem := by simp
  obj := fun i h st b hb => by
    have e : b = it := by simpa using hb
    subst e
    obtain ⟨oi, e, c, dd⟩ := st
    exact ⟨oi, e, fun v z => by rw [dd] at z; cases z⟩
  keep := fun i h h' st k => st.at fun oi e => k it (by simp) oi e
  item := by
    intro X hP hw hK hc i pins s σ H E I hf st hg
    subst hP hw hK
    obtain ⟨hd, hi⟩ := hg
    obtain ⟨f0, f1, f2, f3, f4, f5⟩ := hf it (by simp)
    obtain ⟨hs, hgd, hx⟩ := frzD I hd hu
    obtain ⟨⟨k, v⟩, hkv⟩ : ∃ p, ps[i]? = some p := ⟨ps[i], List.getElem?_eq_getElem hi⟩
    obtain ⟨en, hen, r1, r2⟩ := hr i k v hkv
    have hlt : i < es.size := (Array.getElem?_eq_some_iff.mp hen).1
    have een : es[i] = en := (Array.getElem?_eq_some_iff.mp hen).2
    refine wpAny_pyNext_keys_item_raw st ⟨o, hgd, hx, hod⟩ hlt fun h' st' sb => ?_
    have I1 : Inv X pins σ H { s with heap := h' } := I.turned (t' := s.toks) (fun b ob hb e => (sb.2 b hb).trans e) f0 f1 f3 f4 f5
    obtain ⟨oi, e, c, dd⟩ := id st'
    exact ⟨es[i].key, rfl, go_of (s := { s with heap := h' }) e c dd (by decide) ⟨k, H, I1, by rw [een]; exact r1, ⟨rfl, v, hkv⟩, st', fun b hb => (hf b hb).1⟩⟩
  done := by
    intro X hP hw hK hc i pins s σ H E I hf st hg
    subst hP hw hK
    obtain ⟨hd, hi⟩ := hg
    obtain ⟨f0, f1, f2, f3, f4, f5⟩ := hf it (by simp)
    obtain ⟨hs, hgd, hx⟩ := frzD I hd hu
    exact wpAny_pyNext_keys_end_raw (I.ok.hd hc) st ⟨o, hgd, hx, hod⟩ (by omega) fun h' eb => ⟨rfl, I.turned (t' := s.toks) (fun b ob hb e => eb b ob hb e) f0 f1 f3 f4 f5⟩
  self := fun A i s Q E st h => wpAny_pyIter_keyiter st h
theorem turn_dv (it : Addr) (hu : IsD u) (hod : o.data = .dict es ep) (hsz : es.size = ps.length) (hr : ∀ (i : Nat) k v, ps[i]? = some (k, v) → ∃ en : DictEntry, es[i]? = some en ∧ RelV k en.key ∧ RelV v en.val) :
    Turn P w K tg (ItDv d o u ps) [it] it (fun i h => h.IsValIter it d i es.size ep) where
  mem := by simp
  obj := fun i h st b hb => by
    have e : b = it := by simpa using hb
    subst e
    obtain ⟨oi, e, c, dd⟩ := st
    exact ⟨oi, e, fun v z => by rw [dd] at z; cases z⟩
  keep := fun i h h' st k => st.at fun oi e => k it (by simp) oi e
  item := by
    intro X hP hw hK hc i pins s σ H E I hf st hg
    subst hP hw hK
    obtain ⟨hd, hi⟩ := hg
    obtain ⟨f0, f1, f2, f3, f4, f5⟩ := hf it (by simp)
    obtain ⟨hs, hgd, hx⟩ := frzD I hd hu
    obtain ⟨⟨k, v⟩, hkv⟩ : ∃ p, ps[i]? = some p := ⟨ps[i], List.getElem?_eq_getElem hi⟩
    obtain ⟨en, hen, r1, r2⟩ := hr i k v hkv
    have hlt : i < es.size := (Array.getElem?_eq_some_iff.mp hen).1
    have een : es[i] = en := (Array.getElem?_eq_some_iff.mp hen).2
    refine wpAny_pyNext_values_item_raw st ⟨o, hgd, hx, hod⟩ hlt fun h' st' sb => ?_
    have I1 : Inv X pins σ H { s with heap := h' } := I.turned (t' := s.toks) (fun b ob hb e => (sb.2 b hb).trans e) f0 f1 f3 f4 f5
    obtain ⟨oi, e, c, dd⟩ := id st'
    exact ⟨es[i].val, rfl, go_of (s := { s with heap := h' }) e c dd (by decide) ⟨v, H, I1, by rw [een]; exact r2, ⟨rfl, k, hkv⟩, st', fun b hb => (hf b hb).1⟩⟩
  done := by
    intro X hP hw hK hc i pins s σ H E I hf st hg
    subst hP hw hK
    obtain ⟨hd, hi⟩ := hg
    obtain ⟨f0, f1, f2, f3, f4, f5⟩ := hf it (by simp)
    obtain ⟨hs, hgd, hx⟩ := frzD I hd hu
    exact wpAny_pyNext_values_end_raw (I.ok.hd hc) st ⟨o, hgd, hx, hod⟩ (by omega) fun h' eb => ⟨rfl, I.turned (t' := s.toks) (fun b ob hb e => eb b ob hb e) f0 f1 f3 f4 f5⟩
  self := fun A i s Q E st h => wpAny_pyIter_valiter st h
theorem turn_di {elts : List Expr} {kk : Nat} {tpos : Pos} (it : Addr) (hu : IsD u) (hod : o.data = .dict es ep) (hsz : es.size = ps.length) (hr : ∀ (i : Nat) k v, ps[i]? = some (k, v) → ∃ en : DictEntry, es[i]? = some en ∧ RelV k en.key ∧ RelV v en.val) :
    Turn P w K (.Tuple elts kk tpos) (ItDi d o u ps) [it] it (fun i h => ∃ ok ov, IsItemIter h it d i es.size ep ok ov) where
  mem := by simp
  obj := fun i h st b hb => by
    have e : b = it := by simpa using hb
    subst e
    obtain ⟨ok, ov, e⟩ := st
    exact ⟨_, e, fun v z => nomatch z⟩
  keep := fun i h h' st k => let ⟨ok, ov, e⟩ := st; ⟨ok, ov, k it (by simp) _ e⟩
  item := by
    intro X hP hw hK hc i pins s σ H E I hf st hg
    subst hP hw hK
    obtain ⟨hd, hi⟩ := hg
    obtain ⟨hs, hgd, hx⟩ := frzD I hd hu
    obtain ⟨⟨k, v⟩, hkv⟩ : ∃ p, ps[i]? = some p := ⟨ps[i], List.getElem?_eq_getElem hi⟩
    obtain ⟨en, hen, r1, r2⟩ := hr i k v hkv
    have hlt2 : i < es.size := (Array.getElem?_eq_some_iff.mp hen).1
    have een : es[i] = en := (Array.getElem?_eq_some_iff.mp hen).2
    obtain ⟨ok, ov, he⟩ := st
    have hlt : it < s.heap.objs.size := Heap.lt_size he
    refine wpAny_pyNext_items_item_raw he ⟨o, hgd, hx, hod⟩ hlt2 fun h' ho hT hz hk => ?_
    refine ⟨_, rfl, wpAny_letOwnedTupleGo_items (s := { s with heap := h' }) ho fun h'' he' sb => ?_⟩
    have hT2 : h''.get? s.heap.objs.size = some { cls := .type "tuple", data := .seq #[es[i].key, es[i].val] } := (sb.2 _ (Nat.ne_of_gt hlt)).trans hT
    have new : ObjOk X.prog X.w (upd H s.heap.objs.size (.tup [k, v])) h'' s.heap.objs.size (.tup [k, v]) :=
      ⟨by show 2 ≤ sizeLine; decide, [es[i].key, es[i].val], .cons (by rw [een]; exact r1) (.cons (by rw [een]; exact r2) .nil), ⟨_, hT2, rfl, _, rfl⟩⟩
    have I1 : Inv X pins σ (upd H s.heap.objs.size (.tup [k, v])) { s with heap := h'' } :=
      I.turnedNew (t' := s.toks) (ch := [it]) (fun b ob hb e => (sb.2 b (by simpa using hb)).trans (hk b ob (by simpa using hb) e)) hf (Nat.le_refl _) new
    refine ⟨.ref s.heap.objs.size, _, I1, rfl, ⟨_, k, v, hkv, rfl, I.hok.fresh (Nat.le_refl _), rfl⟩, ⟨es[i].key, es[i].val, he'⟩, fun b hb => ?_⟩
    have e : b = it := by simpa using hb
    rw [e, upd_ne (Nat.ne_of_lt hlt)]
    exact (hf it (by simp)).1
  done := by
    intro X hP hw hK hc i pins s σ H E I hf st hg
    subst hP hw hK
    obtain ⟨hd, hi⟩ := hg
    obtain ⟨f0, f1, f2, f3, f4, f5⟩ := hf it (by simp)
    obtain ⟨hs, hgd, hx⟩ := frzD I hd hu
    obtain ⟨ok, ov, he⟩ := st
    exact wpAny_pyNext_items_end_raw (I.ok.hd hc) he ⟨o, hgd, hx, hod⟩ (by omega) fun h' eb => ⟨rfl, I.turned (t' := s.toks) (fun b ob hb e => eb b ob hb e) f0 f1 f3 f4 f5⟩
  self := fun A i s Q E st h => let ⟨_, _, e⟩ := st; PySem.W.kcp_self e h
end
section
variable {K : PySem.W.Frag} {ν : List Addr} {H1 : Hp} {d : Addr} {o : Obj} {u : HO} {ps : List (V × V)} {rs : List (D × D)} {st : List (Nat × O)}
/-- rows of clean values at rows of values -/
def RowsAt (K : PySem.W.Frag) (ν : List Addr) (H : Hp) (rs : List (D × D)) (ps : List (V × V)) : Prop := rs.length = ps.length ∧ ∀ (i : Nat) r, rs[i]? = some r → ∃ k v, ps[i]? = some (k, v) ∧ Rv K ν H r.1 k ∧ Rv K ν H r.2 v
theorem RowsAt.ext {ν κ : List Addr} {G H : Hp} (x : Ext ν G κ H) (h : RowsAt K ν G rs ps) : RowsAt K κ H rs ps := ⟨h.1, fun i r e => let ⟨k, v, a, b, c⟩ := h.2 i r e; ⟨k, v, a, Rv.ext x _ _ b, Rv.ext x _ _ c⟩⟩
theorem walk_di (hd : H1 d = some (.frz o u)) (hr : RowsAt K ν H1 rs ps) : Walk K ν H1 ⟨rs.map (fun p => .tup [p.1, p.2]), st⟩ (ItDi d o u ps) := fun κ H2 h2 ex R2 st => by
  have hd2 := ex.frz d o u hd
  have hr2 := hr.ext ex
  refine ⟨fun i x hx => ?_, hd2, ?_⟩
  · rw [List.getElem?_map] at hx
    obtain ⟨r, e, rfl⟩ := Option.map_eq_some_iff.mp hx
    obtain ⟨k, v, e2, r1, r2⟩ := hr2.2 i r e
    refine ⟨⟨hd2, (List.getElem?_eq_some_iff.mp e2).1⟩, ?_⟩
    rintro x H3 ⟨T, k', v', e3, rfl, hT, rfl⟩
    rw [e2] at e3
    cases e3
    exact pair_new R2 hT r1 r2
  · rw [List.length_map]
    exact Nat.le_of_eq hr2.1.symm
theorem walk_dk (hd : H1 d = some (.frz o u)) (hr : RowsAt K ν H1 rs ps) : Walk K ν H1 ⟨rs.map (·.1), st⟩ (ItDk d o u ps) := fun κ H2 h2 ex R2 st => by
  have hd2 := ex.frz d o u hd
  have hr2 := hr.ext ex
  refine ⟨fun i x hx => ?_, hd2, ?_⟩
  · rw [List.getElem?_map] at hx
    obtain ⟨r, e, rfl⟩ := Option.map_eq_some_iff.mp hx
    obtain ⟨k, v, e2, r1, r2⟩ := hr2.2 i r e
    refine ⟨⟨hd2, (List.getElem?_eq_some_iff.mp e2).1⟩, ?_⟩
    rintro x H3 ⟨rfl, v', e3⟩
    rw [e2] at e3
    cases e3
    exact ⟨Ext.refl _ _, R2, r1⟩
  · rw [List.length_map]
    exact Nat.le_of_eq hr2.1.symm
theorem walk_dv (hd : H1 d = some (.frz o u)) (hr : RowsAt K ν H1 rs ps) : Walk K ν H1 ⟨rs.map (·.2), st⟩ (ItDv d o u ps) := fun κ H2 h2 ex R2 st => by
  have hd2 := ex.frz d o u hd
  have hr2 := hr.ext ex
  refine ⟨fun i x hx => ?_, hd2, ?_⟩
  · rw [List.getElem?_map] at hx
    obtain ⟨r, e, rfl⟩ := Option.map_eq_some_iff.mp hx
    obtain ⟨k, v, e2, r1, r2⟩ := hr2.2 i r e
    refine ⟨⟨hd2, (List.getElem?_eq_some_iff.mp e2).1⟩, ?_⟩
    rintro x H3 ⟨rfl, k', e3⟩
    rw [e2] at e3
    cases e3
    exact ⟨Ext.refl _ _, R2, r2⟩
  · rw [List.length_map]
    exact Nat.le_of_eq hr2.1.symm
end
theorem Ext.lock {ν : List Addr} {H : Hp} {a : Addr} {o : Obj} {u : HO} (h : H a = some u) (hu : IsD u) : Ext ν H ν (upd H a (.frz o u)) := by
  have ne : ∀ b v, H b = some v → ¬ IsD v → b ≠ a := fun b v e hv z => by rw [z, h] at e; cases e; exact hv hu
  refine ⟨⟨[], by simp, fun _ z => nomatch z⟩, fun b v hb hv hr => ?_, fun b xs hb e => ?_, fun b xs e => ?_, fun b o' u' e => ?_, fun b e => ?_⟩
  · by_cases hab : b = a
    · subst hab
      rcases hr with z | ⟨o', z⟩
      · rw [h] at z
        cases z
        exact .inr ⟨o, upd_same⟩
      · rw [h] at z
        cases z
        exact hu.elim
    · unfold Rd
      rw [upd_ne hab]
      exact hr
  · rw [upd_ne (ne b _ e fun z => z.elim)]; exact e
  · rw [upd_ne (ne b _ e fun z => z.elim)]; exact e
  · rw [upd_ne (ne b _ e fun z => z.elim)]; exact e
  · by_cases hab : b = a
    · subst hab
      rw [upd_same] at e
      cases e
    · rw [upd_ne hab] at e
      exact e
theorem rv_dK {K : PySem.W.Frag} {ν : List Addr} {H : Hp} (k : Key) : Rv K ν H (dK k) (kV k) := by
  cases k <;> simp only [dK, kV, Rv]
theorem rvs_dK' {K : PySem.W.Frag} {ν : List Addr} {H : Hp} : ∀ ks : List Key, Rvs K ν H (ks.map dK) (ks.map kV)
  | [] => Rvs.nil
  | k :: ks => Rvs.cons (rv_dK k) (rvs_dK' ks)
section
variable {X : Cx} {pins : List (Addr × Obj)} {σ : L2.St} {s : Shared} {ν : List Addr} {H : Hp} {a : Addr} {o : Obj}
theorem core_K {ws : List (Key × V)} {ks : List Key} {vs : List D} (I : Inv X pins σ H s) (h : H a = some (.frz o (.dK ws))) (hk : ws.map (·.1) = ks) (r : Rvs X.K ν H vs (ws.map (·.2))) : ∃ ps, DRow o ps ∧ RowsAt X.K ν H ((ks.map dK).zip vs) ps := by
  refine ⟨_, rowsK I h, ?_, fun i x e => ?_⟩
  · have := r.length
    rw [List.length_map] at this
    rw [List.length_zip, List.length_map, ← hk, List.length_map, List.length_map]
    omega
  · rw [List.getElem?_zip_eq_some] at e
    obtain ⟨e1, e2⟩ := e
    obtain ⟨v, e3, rv⟩ := r.get e2
    rw [List.getElem?_map] at e1 e3
    obtain ⟨⟨k, w⟩, e4, rfl⟩ := Option.map_eq_some_iff.mp e3
    rw [← hk, List.getElem?_map, e4] at e1
    simp only [Option.map_some, Option.some.injEq] at e1
    refine ⟨kV k, w, by rw [List.getElem?_map, e4] <;> rfl, ?_, rv⟩
    rw [← e1]
    exact rv_dK k
theorem core_T {ws : List (List Key × V)} {ks : List (List Key)} {vs : List D} (I : Inv X pins σ H s) (h : H a = some (.frz o (.dT ws))) (hk : ws.map (·.1) = ks) (r : Rvs X.K ν H vs (ws.map (·.2))) : ∃ ps, DRow o ps ∧ RowsAt X.K ν H ((ks.map dT).zip vs) ps := by
  obtain ⟨qs, l1, hq, dr⟩ := rowsT I h
  refine ⟨_, dr, ?_, fun i x e => ?_⟩
  · have := r.length
    rw [List.length_map] at this
    rw [List.length_zip, List.length_map, ← hk, List.length_map, List.length_map, List.length_zip]
    omega
  · rw [List.getElem?_zip_eq_some] at e
    obtain ⟨e1, e2⟩ := e
    obtain ⟨v, e3, rv⟩ := r.get e2
    rw [List.getElem?_map] at e1 e3
    obtain ⟨⟨k, w⟩, e4, rfl⟩ := Option.map_eq_some_iff.mp e3
    rw [← hk, List.getElem?_map, e4] at e1
    simp only [Option.map_some, Option.some.injEq] at e1
    have hi : i < qs.length := by rw [l1]; exact (List.getElem?_eq_some_iff.mp e4).1
    have e5 : qs[i]? = some qs[i] := List.getElem?_eq_getElem hi
    refine ⟨.ref qs[i], w, ?_, ?_, rv⟩
    · rw [List.getElem?_map]
      have : (qs.zip ws)[i]? = some (qs[i], (k, w)) := List.getElem?_zip_eq_some.mpr ⟨e5, e4⟩
      rw [this]
      rfl
    · rw [← e1]
      show Rv X.K ν H (.tup (k.map dK)) (.ref qs[i])
      simp only [Rv]
      exact ⟨_, _, rfl, hq i k w _ e4 e5, rvs_dK' k⟩
theorem Rh.out {K : PySem.W.Frag} {h : Hc} {u : HO} (R : Rh K ν H h) (hu : IsD u) (ha : H a = some u) (hn : a ∉ ν) : Rh K ν (upd H a (.frz o u)) h := by
  have x := Ext.lock (o := o) ha hu (ν := ν)
  refine ⟨R.len, R.nd, fun n ob b e1 e2 => ?_⟩
  have hb : b ≠ a := fun z => hn (z ▸ List.mem_of_getElem? e2)
  have ro := R.ob n ob b e1 e2
  cases ob with
  | lst xs => obtain ⟨vs, e, t⟩ := ro; exact ⟨vs, by rw [upd_ne hb]; exact e, Rvs.ext x _ _ t⟩
  | hl xs => obtain ⟨vs, e, t⟩ := ro; exact ⟨vs, by rw [upd_ne hb]; exact e, Rvs.ext x _ _ t⟩
  | dk xs => obtain ⟨vs, e, k, t⟩ := ro; exact ⟨vs, by rw [upd_ne hb]; exact e, k, Rvs.ext x _ _ t⟩
  | dt xs => obtain ⟨vs, e, k, t⟩ := ro; exact ⟨vs, by rw [upd_ne hb]; exact e, k, Rvs.ext x _ _ t⟩
  | wk xs => obtain ⟨o, vs, e, k, t⟩ := ro; exact ⟨o, vs, by rw [upd_ne hb]; exact e, k, Rvs.ext x _ _ t⟩
  | wt xs => obtain ⟨o, vs, e, k, t⟩ := ro; exact ⟨o, vs, by rw [upd_ne hb]; exact e, k, Rvs.ext x _ _ t⟩
  | ins c fs => exact ro.elim
end
theorem zip_pairs {κ : Type} (f : κ → D) : ∀ kvs : List (κ × D), kvs.map (fun p => (f p.1, p.2)) = ((kvs.map (·.1)).map f).zip (kvs.map (·.2))
  | [] => rfl
  | p :: kvs => by
    rw [List.map_cons, zip_pairs f kvs]
    rfl
/-- a dict is locked, and read -/
theorem lock_rows {X : Cx} {pins : List (Addr × Obj)} {σ : L2.St} {s : Shared} {ν : List Addr} {H1 : Hp} {h1 : Hc} {d : D} {x : V} {rs : List (D × D)} {st : List (Nat × O)} (I : Inv X pins σ H1 s) (R : Rh X.K ν H1 h1) (r : Rv X.K ν H1 d x) (e : dRows h1 d = some (rs, st)) :
    ∃ a o u ps H1', x = .ref a ∧ IsD u ∧ Inv X pins σ H1' s ∧ Ext ν H1 ν H1' ∧ Rh X.K ν H1' (lockD h1 d) ∧ H1' a = some (.frz o u) ∧ DRow o ps ∧ RowsAt X.K ν H1' rs ps := by
  unfold dRows at e
  split at e
  · rename_i ks vs
    cases e
    simp only [Rv] at r
    obtain ⟨a, ws, rfl, hn, q, hk, t⟩ := r
    rcases q with q | ⟨o, q⟩
    · obtain ⟨od, I1⟩ := I.lock q trivial
      have x := Ext.lock (o := od) q trivial (ν := ν)
      obtain ⟨ps, p1, p2⟩ := core_K I1 upd_same hk (Rvs.ext x _ _ t)
      exact ⟨a, od, .dK ws, ps, _, rfl, trivial, I1, x, Rh.out R trivial q hn, upd_same, p1, p2⟩
    · obtain ⟨ps, p1, p2⟩ := core_K I q hk t
      exact ⟨a, o, .dK ws, ps, _, rfl, trivial, I, Ext.refl _ _, R, q, p1, p2⟩
  · rename_i ks vs
    cases e
    simp only [Rv] at r
    obtain ⟨a, ws, rfl, hn, q, hk, t⟩ := r
    rcases q with q | ⟨o, q⟩
    · obtain ⟨od, I1⟩ := I.lock q trivial
      have x := Ext.lock (o := od) q trivial (ν := ν)
      obtain ⟨ps, p1, p2⟩ := core_T I1 upd_same hk (Rvs.ext x _ _ t)
      exact ⟨a, od, .dT ws, ps, _, rfl, trivial, I1, x, Rh.out R trivial q hn, upd_same, p1, p2⟩
    · obtain ⟨ps, p1, p2⟩ := core_T I q hk t
      exact ⟨a, o, .dT ws, ps, _, rfl, trivial, I, Ext.refl _ _, R, q, p1, p2⟩
  · rename_i n
    simp only [Rv] at r
    obtain ⟨a, rfl, hn⟩ := r
    obtain ⟨ob, ho, ro⟩ := R.lt hn
    split at e
    · rename_i kvs hx
      cases e
      rw [hx] at ho
      cases ho
      obtain ⟨ws, q, hk, t⟩ := ro
      obtain ⟨od, I1⟩ := I.lock q trivial
      have hp : ∀ o w, H1 a ≠ some (.frz o w) := fun o w z => by rw [q] at z; cases z
      have x0 := Ext.lock (o := od) q trivial (ν := ν)
      obtain ⟨x, R1⟩ := R.put (o := .wk kvs) (u := .frz od (.dK ws)) hn hp ⟨od, ws, upd_same, hk, Rvs.ext x0 _ _ t⟩
      obtain ⟨ps, p1, p2⟩ := core_K I1 upd_same hk (Rvs.ext x _ _ t)
      refine ⟨a, od, .dK ws, ps, _, rfl, trivial, I1, x, ?_, upd_same, p1, by rw [zip_pairs]; exact p2⟩
      show Rh X.K ν _ (lockN h1 n)
      unfold lockN
      rw [hx]
      exact R1
    · rename_i kvs hx
      cases e
      rw [hx] at ho
      cases ho
      obtain ⟨o, ws, q, hk, t⟩ := ro
      obtain ⟨ps, p1, p2⟩ := core_K I q hk t
      refine ⟨a, o, .dK ws, ps, _, rfl, trivial, I, Ext.refl _ _, ?_, q, p1, by rw [zip_pairs]; exact p2⟩
      show Rh X.K ν _ (lockN h1 n)
      unfold lockN
      rw [hx]
      exact R
    · rename_i kvs hx
      cases e
      rw [hx] at ho
      cases ho
      obtain ⟨ws, q, hk, t⟩ := ro
      obtain ⟨od, I1⟩ := I.lock q trivial
      have hp : ∀ o w, H1 a ≠ some (.frz o w) := fun o w z => by rw [q] at z; cases z
      have x0 := Ext.lock (o := od) q trivial (ν := ν)
      obtain ⟨x, R1⟩ := R.put (o := .wt kvs) (u := .frz od (.dT ws)) hn hp ⟨od, ws, upd_same, hk, Rvs.ext x0 _ _ t⟩
      obtain ⟨ps, p1, p2⟩ := core_T I1 upd_same hk (Rvs.ext x _ _ t)
      refine ⟨a, od, .dT ws, ps, _, rfl, trivial, I1, x, ?_, upd_same, p1, by rw [zip_pairs]; exact p2⟩
      show Rh X.K ν _ (lockN h1 n)
      unfold lockN
      rw [hx]
      exact R1
    · rename_i kvs hx
      cases e
      rw [hx] at ho
      cases ho
      obtain ⟨o, ws, q, hk, t⟩ := ro
      obtain ⟨ps, p1, p2⟩ := core_T I q hk t
      refine ⟨a, o, .dT ws, ps, _, rfl, trivial, I, Ext.refl _ _, ?_, q, p1, by rw [zip_pairs]; exact p2⟩
      show Rh X.K ν _ (lockN h1 n)
      unfold lockN
      rw [hx]
      exact R
    · cases e
  · cases e
section
variable {X : Cx} {C : Ck} {F : Nat → List D → Hc → R D} {cv : Nat → Value} {k : Nat} {W : WX} {e x y tg : Expr} {a b d : CE} {apos cpos : Pos}
/-- a walk over a dict: what it asks -/
theorem dict_reads {σ : L2.St} {H : Hp} {B : It → Hp → Prop} {ik : IK} {f : D × D → D} (hw : ∀ d h, walkOf ik [d] h = walkD h f d) (hb : ∀ ds h, (∀ d, ds ≠ [d]) → walkOf ik ds h = none) (hl : ∀ d h, lockH ik [d] h = lockD h d) (h : iQ X.K cv W F ik [a] σ H B) :
    RE X.K cv W (ev F a) σ H fun x H1 => ∃ ν h1 d rs st, Rh X.K ν H1 h1 ∧ Rv X.K ν H1 d x ∧ dRows h1 d = some (rs, st) ∧ ∀ J H1', Ext ν H1 ν H1' → Rh X.K ν H1' (lockD h1 d) → Walk X.K ν H1' ⟨rs.map f, st⟩ J → B J H1' := by
  obtain ⟨μ, ρ, hh, re, rh, p⟩ := one_reads h
  refine ⟨μ, ρ, hh, re, rh, p.imp (fun x H1 ⟨ν, h1, ds, w, R1, rd, hw1, q⟩ => ?_) fun _ _ z => z⟩
  have : ∃ d, ds = [d] := by
    cases ds with
    | nil => rw [hb _ _ (fun _ z => by cases z)] at hw1; cases hw1
    | cons d ds =>
      cases ds with
      | nil => exact ⟨d, rfl⟩
      | cons _ _ => rw [hb _ _ (fun _ z => by cases z)] at hw1; cases hw1
  obtain ⟨d, rfl⟩ := this
  obtain ⟨v, e1, rv⟩ := rd.un1
  cases e1
  rw [hw] at hw1
  unfold walkD at hw1
  obtain ⟨⟨rs, st⟩, e2, rfl⟩ := Option.map_eq_some_iff.mp hw1
  exact ⟨ν, h1, d, rs, st, R1, rv, e2, fun J H1' x1 x2 x3 => q J H1' x1 (by rw [hl]; exact x2) x3⟩
theorem pi_keysQ (ha : PE X e (RE X.K cv W (ev F a))) : PI X tg e (iQ X.K cv W F .keys [a]) := by
  refine ⟨fun pins s σ H B I h => ?_⟩
  refine thn (ha.run pins s σ H _ I (dict_reads (f := (·.1)) (fun _ _ => rfl) (fun ds h hd => by
    match ds, hd with
    | [], _ => rfl
    | [d], hd => exact absurd rfl (hd d)
    | _ :: _ :: _, _ => rfl) (fun _ _ => rfl) h)) fun u s1 ⟨x, H1, I1, rx, ν, h1, d, rs, st, R1, rv, hd, q⟩ => ?_
  obtain ⟨A, o, uu, ps, H1', rfl, hu, I2, xl, R2, hA, ⟨es, ep, hod, hsz, hr⟩, rr⟩ := lock_rows I1 R1 rv hd
  obtain rfl : u = Value.ref A := rx
  obtain ⟨hs, hgd, hx⟩ := frzD I2 hA hu
  exact wpAny_pyIter_dict_raw hs ⟨o, hgd, hx, hod⟩ (pi_one (tk := s1.toks) I2 _ (turn_dk _ hu hod hsz hr) ⟨_, Heap.get?_push_size _ rfl, rfl, rfl⟩ (q _ H1' xl R2 (walk_dk hA rr)))
theorem pi_valuesQ (ha : PE X e (RE X.K cv W (ev F a))) (hbase : attributeBase e "values" X.env (eval e X.env) = eval e X.env) (hline : (apos.endLine == cpos.line) = true) : PI X tg (.Call (.Attribute e "values" apos) [] [] cpos) (iQ X.K cv W F .values [a]) := by
  refine ⟨fun pins s σ H B I h => ?_⟩
  refine wpAny_Call_method (T := "dict") (id := "dict.values") hbase rfl hline PySem.F.plainAttrs_dict PySem.F.slot_dict_values PySem.F.type_dict_values (thn (ha.run pins s σ H _ I (dict_reads (f := (·.2)) (fun _ _ => rfl) (fun ds h hd => by
    match ds, hd with
    | [], _ => rfl
    | [d], hd => exact absurd rfl (hd d)
    | _ :: _ :: _, _ => rfl) (fun _ _ => rfl) h)) fun u s1 ⟨x, H1, I1, rx, ν, h1, d, rs, st, R1, rv, hd, q⟩ => ?_)
  obtain ⟨A, o, uu, ps, H1', rfl, hu, I2, xl, R2, hA, ⟨es, ep, hod, hsz, hr⟩, rr⟩ := lock_rows I1 R1 rv hd
  obtain rfl : u = Value.ref A := rx
  obtain ⟨hs, hgd, hx⟩ := frzD I2 hA hu
  have raw : s1.heap.DictRaw A es ep := ⟨o, hgd, hx, hod⟩
  refine ⟨raw.typeIs, (fun b z => by cases z; exact ⟨o, hgd, hx.2.1⟩), ?_⟩
  have I3 : Inv X pins σ H1' { s1 with heap := s1.heap.push { cls := .type "dict_values", data := .fields #[.ref A] } } := I2.kept (t' := s1.toks) fun b ob q => Heap.get?_push_of_some _ q
  have fin : wpAny (model X.prog X.w) X.A (pyIter (.ref s1.heap.objs.size)) (PIE X pins σ tg B) X.xe { s1 with heap := s1.heap.push { cls := .type "dict_values", data := .fields #[.ref A] } } :=
    wpAny_pyIter_values_raw (d := A) ⟨_, Heap.get?_push_size _ rfl, rfl, rfl⟩ (raw.at fun _ e => Heap.get?_push_of_some _ e) (pi_one (tk := s1.toks) I3 _ (turn_dv _ hu hod hsz hr) ⟨_, Heap.get?_push_size _ rfl, rfl, rfl⟩ (q _ H1' xl R2 (walk_dv hA rr)))
  show wpAny _ _ (callWith cpos (.builtin "dict.values") [.ref A] [] []) _ X.xe s1
  exact method_meetsIn PySem.F.slot_dict_values PySem.F.entry_dict_values rfl (PySem.evalArgs_none ⟨rfl, raw.typeIs, PySem.F.args_dict_values_1 _, _, meets_dict_values_raw A hs, ⟨es, ep, raw⟩, fin⟩)
theorem pi_itemsQ {elts : List Expr} {kk : Nat} {tpos : Pos} (ha : PE X e (RE X.K cv W (ev F a))) (hbase : attributeBase e "items" X.env (eval e X.env) = eval e X.env) (hline : (apos.endLine == cpos.line) = true) : PI X (.Tuple elts kk tpos) (.Call (.Attribute e "items" apos) [] [] cpos) (iQ X.K cv W F .items [a]) := by
  refine ⟨fun pins s σ H B I h => ?_⟩
  refine wpAny_Call_method (T := "dict") (id := "dict.items") hbase rfl hline PySem.F.plainAttrs_dict PySem.F.slot_dict_items PySem.F.type_dict_items (thn (ha.run pins s σ H _ I (dict_reads (f := fun p => .tup [p.1, p.2]) (fun _ _ => rfl) (fun ds h hd => by
    match ds, hd with
    | [], _ => rfl
    | [d], hd => exact absurd rfl (hd d)
    | _ :: _ :: _, _ => rfl) (fun _ _ => rfl) h)) fun u s1 ⟨x, H1, I1, rx, ν, h1, d, rs, st, R1, rv, hd, q⟩ => ?_)
  obtain ⟨A, o, uu, ps, H1', rfl, hu, I2, xl, R2, hA, ⟨es, ep, hod, hsz, hr⟩, rr⟩ := lock_rows I1 R1 rv hd
  obtain rfl : u = Value.ref A := rx
  obtain ⟨hs, hgd, hx⟩ := frzD I2 hA hu
  have raw : s1.heap.DictRaw A es ep := ⟨o, hgd, hx, hod⟩
  refine ⟨raw.typeIs, (fun b z => by cases z; exact ⟨o, hgd, hx.2.1⟩), ?_⟩
  have I3 : Inv X pins σ H1' { s1 with heap := s1.heap.push { cls := .type "dict_items", data := .fields #[.ref A] } } := I2.kept (t' := s1.toks) fun b ob q => Heap.get?_push_of_some _ q
  have fin : wpAny (model X.prog X.w) X.A (pyIter (.ref s1.heap.objs.size)) (PIE X pins σ (.Tuple elts kk tpos) B) X.xe { s1 with heap := s1.heap.push { cls := .type "dict_items", data := .fields #[.ref A] } } :=
    wpAny_pyIter_items_raw (d := A) ⟨_, Heap.get?_push_size _ rfl, rfl, rfl⟩ (raw.at fun _ e => Heap.get?_push_of_some _ e) (pi_one (tk := s1.toks) I3 _ (turn_di _ hu hod hsz hr) ⟨.none, .none, Heap.get?_push_size _ rfl⟩ (q _ H1' xl R2 (walk_di hA rr)))
  show wpAny _ _ (callWith cpos (.builtin "dict.items") [.ref A] [] []) _ X.xe s1
  exact method_meetsIn PySem.F.slot_dict_items PySem.F.entry_dict_items rfl (PySem.evalArgs_none ⟨rfl, raw.typeIs, PySem.F.args_dict_items_1 _, _, meets_dict_items_raw A hs, ⟨es, ep, raw⟩, fin⟩)
end
end Q

/-! QM: comprehensions. -/
namespace Q
open PySem PySem.Spec PyProof.Rows L2
theorem Rh.reset {K : PySem.W.Frag} {μ : List Addr} {H : Hp} {h : Hc} {n : Nat} {a : Addr} {o : O} (R : Rh K μ H h) (hn : μ[n]? = some a) (ro : Ro K μ H o a) : Rh K μ H (h.set n o) := by
  refine ⟨by rw [List.length_set]; exact R.len, R.nd, fun m x b e1 e2 => ?_⟩
  rw [List.getElem?_set] at e1
  split at e1
  · rename_i hm
    subst hm
    rw [hn] at e2
    cases e2
    split at e1
    · cases e1
      exact ro
    · cases e1
  · exact R.ob m x b e1 e2
theorem wipe_notmem {σ : L2.St} {i : Nat} : ∀ {vs : List Nat}, (L2.wipe σ vs).set i none = L2.wipe (σ.set i none) vs
  | [] => rfl
  | j :: vs => by
    show ((L2.wipe σ vs).set j none).set i none = (L2.wipe (σ.set i none) vs).set j none
    rw [← wipe_notmem (vs := vs)]
    by_cases h : j = i
    · subst h
      rfl
    · rw [List.set_comm _ _ h]
theorem wipe_idem (σ : L2.St) : ∀ (vs : List Nat), L2.wipe (L2.wipe σ vs) vs = L2.wipe σ vs := by
  have mem : ∀ (vs : List Nat) (i : Nat) (τ : L2.St), i ∈ vs → L2.wipe (τ.set i none) vs = L2.wipe τ vs := fun vs i τ h => wipe_set h
  have all : ∀ (ws vs : List Nat), (∀ i ∈ ws, i ∈ vs) → L2.wipe (L2.wipe σ ws) vs = L2.wipe σ vs := by
    intro ws
    induction ws with
    | nil => exact fun _ _ => rfl
    | cons i ws ih =>
      intro vs h
      show L2.wipe ((L2.wipe σ ws).set i none) vs = _
      rw [mem vs i _ (h i List.mem_cons_self), ih vs fun j hj => h j (List.mem_cons_of_mem _ hj)]
  exact fun vs => all vs vs fun _ h => h
abbrev W0 : WX := fun _ _ _ _ => False
section
variable {X : Cx} {C : Ck} {F : Nat → List D → Hc → R D} {cv : Nat → Value} {k : Nat} {W : WX}
/-- a comprehension's reading, from the clean run -/
theorem comp_reads {fr : Bool} {ik : IK} {es : List CE} {tg : CT} {cs : List CE} {e : CE} {own : List Nat} (hown : ∀ i ∈ slotsT tg, i ∈ own) {σ : L2.St} {H : Hp} {Q : VK} (h : RE X.K cv W (ev F (.comp fr ik es tg cs e own)) σ H Q) :
    tLc (iQ X.K cv W F ik es) (gQ X.K tg) (RT X.K cv W0 (evC F cs)) (RE X.K cv W0 (ev F e)) own σ H Q := by
  obtain ⟨μ, ρ, hh, re, rh, p⟩ := h
  simp only [ev] at p
  refine ⟨μ, ρ, hh, re, rh, (PostG.bind (Rel' := (Rvs X.K · ·)) p).imp (fun vs H1 ⟨ν, h1, ds, ex, R1, rd, q⟩ => ?_) fun _ _ z => z⟩
  have re1 := re.ext ex
  split at q
  · exact q.elim
  rename_i w hw
  refine ⟨ν, h1, ds, w, R1, rd, hw, fun J H9 xl R9 wk => fun L hL => ?_⟩
  have re1 := re1.ext xl
  have q := PostG.ext q xl
  generalize lockH ik ds h1 = h9 at R9 q
  have X0 : Ext ν H9 (ν ++ [L]) (upd H9 L (.lst [])) := Ext.push ν hL
  have R0 : Rh X.K (ν ++ [L]) (upd H9 L (.lst [])) (h9 ++ [.hl []]) := R9.push hL ⟨[], upd_same, Rvs.nil⟩
  have at0 : (ν ++ [L])[h9.length]? = some L := by
    rw [R9.len, List.getElem?_append_right (Nat.le_refl _)]
    simp
  let Inv' : Nat → Hp → Prop := fun i H2 => ∃ κ h2, Ext (ν ++ [L]) (upd H9 L (.lst [])) κ H2 ∧ Rh X.K κ H2 h2 ∧
    PostG X.K cv (Rv X.K · ·) ν H9 ((compL tg w.stay h9.length (_root_.Q.wipe ρ own) (evC F cs) (ev F e) (w.items.drop i) h2).bind fun xs h2 => compEnd fr h9 h2 xs) Q (WAt W σ)
  refine ⟨fun i m H2 => m = w.items.length - i ∧ i ≤ w.items.length ∧ Inv' i H2, ⟨w.items.length, rfl, Nat.zero_le _, _, _, Ext.refl _ _, R0, q⟩, ?_⟩
  rintro i m H2 ⟨rfl, hi, κ, h2, x2, R2, p2⟩
  have xb : Ext ν H9 κ H2 := X0.trans x2
  have atL : κ[h9.length]? = some L := x2.get at0
  by_cases hlt : i < w.items.length
  · have hd : w.items[i]? = some w.items[i] := List.getElem?_eq_getElem hlt
    rw [List.drop_eq_getElem_cons hlt, compL] at p2
    split at p2
    · rename_i st
      split at p2
      · exact p2.elim
      rename_i ρ' eb
      obtain ⟨go, yl⟩ := (wk κ H2 h2 xb R2 st).1 i _ hd
      refine .inr ⟨go, fun H' => Inv' (i + 1) H', fun H' hI => ⟨w.items.length - (i + 1), by omega, rfl, hlt, hI⟩, fun x H3 y => ?_⟩
      obtain ⟨x3, R3, rx⟩ := yl x H3 y
      refine ⟨κ, h2, w.items[i], _root_.Q.wipe ρ own, ρ', R3, rx, ((re1.ext xb).ext x3).wipe own, eb, fun σ2 re2 wp => ⟨(wp own hown).trans (wipe_idem σ own), ?_⟩⟩
      have x23 := x2.trans x3
      refine ⟨κ, ρ', h2, re2, R3, ?_⟩
      cases hc : evC F cs ρ' h2 with
      | bad => rw [hc] at p2; exact p2.elim
      | ex c h' => rw [hc] at p2; exact p2.elim
      | ok b h3 =>
        rw [hc] at p2
        intro b' κ4 H4 x4 R4 eb'
        have eb' : b = b' := eb'
        subst eb'
        cases b with
        | false =>
          rw [if_neg Bool.false_ne_true]
          exact ⟨κ4, h3, x23.trans x4, R4, p2⟩
        | true =>
          rw [if_pos rfl]
          refine ⟨κ4, ρ', h3, re2.ext x4, R4, ?_⟩
          simp only at p2
          cases he : ev F e ρ' h3 with
          | bad => rw [he] at p2; exact p2.elim
          | ex c h' => rw [he] at p2; exact p2.elim
          | ok y h4 =>
            rw [he] at p2
            intro v κ5 H5 x5 R5 rv
            simp only at p2
            split at p2
            · rename_i acc hacc
              split at p2
              · rename_i hz
                have at5 := x5.get (x4.get (x3.get atL))
                obtain ⟨o, ho, ro⟩ := R5.lt at5
                rw [hacc] at ho
                cases ho
                obtain ⟨av, qa, ta⟩ := ro
                have hfz : ∀ o w, H5 L ≠ some (.frz o w) := fun o w z => by rw [qa] at z; cases z
                have X6 : Ext κ5 H5 κ5 (upd H5 L (.lst (av ++ [v]))) := Ext.put (List.mem_of_getElem? at5) hfz fun xs => R5.notup (List.mem_of_getElem? at5)
                obtain ⟨y1, y2⟩ := R5.put (o := .hl (acc ++ [y])) (u := .lst (av ++ [v])) at5 hfz ⟨_, upd_same, Rvs.ext X6 _ _ (ta.append (Rvs.one rv))⟩
                exact ⟨av, qa, by rw [← ta.length]; exact hz, κ5, _, ((x23.trans x4).trans x5).trans y1, y2, p2⟩
              · exact p2.elim
            · exact p2.elim
    · exact p2.elim
  · have e : i = w.items.length := by omega
    subst e
    rw [List.drop_length, compL] at p2
    split at p2
    · rename_i st
      refine .inl ⟨(wk κ H2 h2 xb R2 st).2, ?_⟩
      split at p2
      · rename_i acc hacc
        obtain ⟨o, ho, ro⟩ := R2.lt atL
        rw [hacc] at ho
        cases ho
        obtain ⟨av, qa, ta⟩ := ro
        simp only [R.bind_ok] at p2
        unfold compEnd at p2
        split at p2
        · rename_i hc
          refine p2 (.ref L) ν H2 xb.back (Rh.drop xb R9 R2 hc.2.1) ?_
          have tk : κ.take h9.length = ν := by rw [R9.len]; exact xb.take
          have := Rvs.drop' _ _ hc.2.2 ta
          rw [tk] at this
          show Rv X.K ν H2 (.lst acc) (.ref L)
          simp only [Rv]
          exact ⟨L, av, rfl, R9.fresh hL, qa, this⟩
        · refine p2 (.ref L) κ H2 xb (R2.reset atL ⟨av, qa, ta⟩) ?_
          show Rv X.K κ H2 (.ref h9.length) (.ref L)
          simp only [Rv]
          exact ⟨L, rfl, atL⟩
      · exact p2.elim
    · exact p2.elim
end
end Q

/-! QN: expressions that pass the check run as the clean evaluator says. -/
namespace Q
open PySem PySem.Spec PyProof.Rows L2
/-- what is to be known of one expression -/
structure Snd (X : Cx) (cv : Nat → Value) (W : WX) (F : Nat → List D → Hc → R D) (c : CE) (e : Expr) : Prop where
  pe : PE X e (RE X.K cv W (ev F c))
  pt : PT X e (RT X.K cv W fun ρ h => truthR (ev F c ρ h))
  pw : ∀ op vs p, e = .BoolOp op vs p → PW X e (RT X.K cv W fun ρ h => truthR (ev F c ρ h))
section
variable {X : Cx} {C : Ck} {F : Nat → List D → Hc → R D} {cv : Nat → Value} {k : Nat} {W : WX}
theorem Snd.plain {c : CE} {e : Expr} (h : PE X e (RE X.K cv W (ev F c))) (he : ∀ whole, isTrue e X.env whole = (do let v ← whole; standAt e.pos; holding [v] (truthy v))) (hb : ∀ op vs p, e ≠ .BoolOp op vs p) : Snd X cv W F c e :=
  ⟨h, qt_truth he h, fun op vs p z => absurd z (hb op vs p)⟩
theorem c_bad {q : P} {f : Value} (h : ∀ ds hh, primN q ds hh = .bad) : CallR X f (rN X.K q) := fun pins s σ H xs us Q I r ⟨μ, hh, ds, R, rd, p⟩ => by
  rw [h] at p
  exact p.elim
theorem blt_of (c : Cxt X C F cv k) {x y : PySem.Str} (h : C.blt X.env.scope x y = true) : x = y ∧ glB X.env.scope x = true ∧ X.mg x = none := by
  unfold Ck.blt at h
  simp only [Bool.and_eq_true, decide_eq_true_eq] at h
  refine ⟨h.1.1, h.2, ?_⟩
  rw [h.1.1]
  exact c.free y (by simpa using h.1.2)
theorem any1 {x : PySem.Str} {as : List Expr} {sc : Scope} {n : PySem.Str} {m : Nat} (h : ([(n, m)].any fun p => C.blt sc x p.1 && decide (as.length = p.2)) = true) : C.blt sc x n = true ∧ as.length = m := by
  simpa using h
theorem cks_len : ∀ {cs : List CE} {es : List Expr} {sc : Scope}, cks C sc cs es = true → cs.length = es.length
  | [], [], _, _ => rfl
  | c :: cs, e :: es, sc, h => by
    simp only [cks, Bool.and_eq_true] at h
    rw [List.length_cons, List.length_cons, cks_len h.2]
  | [], _ :: _, _, h => by simp [cks] at h
  | _ :: _, [], _, h => by simp [cks] at h
/-- a built-in's call -/
theorem q_bi (c : Cxt X C F cv k) {q : P} {x : PySem.Str} {as as' : List Expr} {cs : List CE} {p0 pos : Pos} (hb : biA C X.env.scope q x as = some as') (hk : cks C X.env.scope cs as' = true) (ha : PA X as' (RA X.K cv W (evs F cs))) (hpe : ∀ a e, cs = [a] → as' = [e] → PE X e (RE X.K cv W (ev F a))) :
    PE X (.Call (.Name x p0) as [] pos) (RE X.K cv W (ev F (.bi q cs))) := by
  have hu : X.A.units + 66 < cLine := by have := c.room.un; omega
  unfold biA at hb
  split at hb
  · rename_i t e y _
    split at hb
    · rename_i h
      cases hb
      simp only [Bool.and_eq_true] at h
      obtain ⟨rfl, g, m⟩ := blt_of c h.1
      obtain ⟨rfl, g2, m2⟩ := blt_of c h.2
      have hl := cks_len hk
      cases cs with
      | nil => simp at hl
      | cons a r =>
        cases r with
        | cons _ _ => simp at hl
        | nil =>
          simp only [cks, Bool.and_eq_true, and_true] at hk
          exact q_isi g m g2 m2 hk (hpe a e rfl rfl)
    · cases hb
  · cases hb
  · rename_i y p1 e p2
    split at hb
    · rename_i h
      cases hb
      simp only [Bool.and_eq_true] at h
      obtain ⟨rfl, g, m⟩ := blt_of c h.1
      obtain ⟨rfl, g2, m2⟩ := blt_of c h.2
      have hl := cks_len hk
      cases cs with
      | nil => simp at hl
      | cons a r =>
        cases r with
        | cons _ _ => simp at hl
        | nil =>
          simp only [cks, Bool.and_eq_true, and_true] at hk
          exact q_lenSet c.calm g m g2 m2 hk (hpe a e rfl rfl)
    · cases hb
  · cases hb
  · rename_i fr y p1 e p2
    split at hb
    · rename_i h
      cases hb
      simp only [Bool.and_eq_true] at h
      obtain ⟨rfl, g, m⟩ := blt_of c h.1
      obtain ⟨rfl, g2, m2⟩ := blt_of c h.2
      have hl := cks_len hk
      cases cs with
      | nil => simp at hl
      | cons a r =>
        cases r with
        | cons _ _ => simp at hl
        | nil =>
          simp only [cks, Bool.and_eq_true, and_true] at hk
          exact q_rngL c.calm g m g2 m2 hk (hpe a e rfl rfl)
    · cases hb
  · cases hb
  · split at hb
    · rename_i h
      cases hb
      have hne : as.length ≠ 0 → cs ≠ [] := fun hz e => by
        rw [e] at hk
        cases as with
        | nil => exact hz rfl
        | cons _ _ => simp [cks] at hk
      cases q <;> simp only [biB, List.any_nil, Bool.false_eq_true] at h
      all_goals
        obtain ⟨hb, hl⟩ := any1 h
        obtain ⟨rfl, g, m⟩ := blt_of c hb
        have hne := hne (by omega)
      · exact q_biF c_len PySem.boot_len g m hk hne ha
      · exact q_biT c_tup PyProof.Rows.boot_tuple g m hk hne ha
      · exact q_biT c_lst PyProof.Rows.boot_list g m hk hne ha
      · exact q_biT c_int PyProof.Rows.boot_int g m hk hne ha
      · exact q_biT (c_bad fun ds hh => by unfold primN; rfl) PyProof.Rows.boot_str g m hk hne ha
      · exact q_biF (c_repr c.gd hu) (by decide +kernel) g m hk hne ha
      · exact q_biF c_abs PyProof.Rows.boot_abs g m hk hne ha
      · exact q_biF (c_max2 c.calm) PyProof.Rows.boot_max g m hk hne ha
      · exact q_biF (c_min2 c.calm) PyProof.Rows.boot_min g m hk hne ha
      · exact q_biF (c_maxL c.calm hu) PyProof.Rows.boot_max g m hk hne ha
      · exact q_biF (c_minL c.calm hu) PyProof.Rows.boot_min g m hk hne ha
      · exact q_biF (c_sum c.calm) (by decide +kernel) g m hk hne ha
      · exact q_biF (c_sorted c.calm) PyProof.Rows.boot_sorted g m hk hne ha
      · exact q_biF (c_all c.calm) (by decide +kernel) g m hk hne ha
      · exact q_biF (c_any c.calm) (by decide +kernel) g m hk hne ha
    · cases hb
/-- the operators -/
theorem ops_ok (hu : X.A.units + 66 < cLine) {q : P} {op : Operator} (h : binB q op = true) : OpR X (binaryOp op) (r2 X.K q) := by
  unfold binB at h
  split at h
  · exact o_add
  · exact o_sub
  · exact o_mul
  · exact o_fdiv
  · exact o_mod
  · exact o_pow
  · cases h
theorem cmps_ok (hu : X.A.units + 66 < cLine) {q : P} {op : CmpOp} (h : cmpB q op = true) : OpR X (compareOp op) (r2 X.K q) := by
  unfold cmpB at h
  split at h
  · exact o_eq (by omega)
  · exact o_ne (by omega)
  · exact o_lt (by omega)
  · exact o_le
  · exact o_gt
  · exact o_ge
  · exact o_in (by omega)
  · exact o_notin (by omega)
  · cases h
theorem mark_plain {op : CmpOp} {y : Expr} (h : notSet y = true) : behindInMarks op y = false := by
  cases y <;> first | rfl | (simp [notSet] at h)
theorem fold_plain {y : Expr} {env : PySem.Env} (h : notSet y = true) : ∀ x, foldedSetIterable y env x = pure x := by
  intro x
  cases y <;> first | rfl | (simp [notSet] at h)
end
end Q

/-! QO: expressions that pass the check, all at once. -/
namespace Q
open PySem PySem.Spec PyProof.Rows L2
section
variable {X : Cx} {C : Ck} {F : Nat → List D → Hc → R D} {cv : Nat → Value} {k : Nat} {W : WX} {x y z : Expr} {a b c : CE} {pos : Pos}
theorem bind_ok_inv {α β : Type} {r : R α} {f : α → Hc → R β} {b : β} {h : Hc} (e : r.bind f = .ok b h) : ∃ a h', r = .ok a h' ∧ f a h' = .ok b h := by
  cases r with
  | ok a h' => exact ⟨a, h', rfl, e⟩
  | ex c h' => cases e
  | bad => cases e
theorem cmp2_bl {q r : P} {op' : CmpOp} (hr : cmpB r op' = true) {ρ : Env} {h h' : Hc} {d : D} (e : ev F (.cmp2 q r a b c) ρ h = .ok d h') : ∃ t, d = .bl t := by
  simp only [ev] at e
  obtain ⟨d1, h1, _, e⟩ := bind_ok_inv e
  obtain ⟨d2, h2, _, e⟩ := bind_ok_inv e
  obtain ⟨d3, h3, _, e⟩ := bind_ok_inv e
  split at e
  · obtain ⟨d4, h4, _, e⟩ := bind_ok_inv e
    exact cmp_bl hr e
  · cases e
    exact ⟨false, rfl⟩
  · cases e
theorem chain_reads {q r : P} {σ : L2.St} {H : Hp} {Q : VK} (h : RE X.K cv W (ev F (.cmp2 q r a b c)) σ H Q) : tChain (r2 X.K q) (r2 X.K r) (RE X.K cv W (ev F a)) (RE X.K cv W (ev F b)) (RE X.K cv W (ev F c)) σ H Q := by
  obtain ⟨μ, ρ, hh, re, rh, p⟩ := h
  simp only [ev] at p
  refine ⟨μ, ρ, hh, re, rh, (PostG.bind (Rel' := (Rv X.K · ·)) p).imp (fun v H1 ⟨ν, h1, d1, ex, R1, rd1, q1⟩ => ?_) fun _ _ z => z⟩
  refine ⟨ν, ρ, h1, re.ext ex, R1, (PostG.bind (Rel' := (Rv X.K · ·)) q1).imp (fun u H2 ⟨κ, h2, d2, ex2, R2, rd2, q2⟩ => ?_) fun _ _ z => z⟩
  refine ⟨κ, h2, d1, d2, R2, Rv.ext ex2 _ _ rd1, rd2, PostG.post (cv := cv) (W := WAt W σ) ((PostG.bind (Rel' := (Rv X.K · ·)) q2).imp (fun z H3 ⟨κ3, h3, d3, ex3, R3, rd3, q3⟩ => ?_) fun _ _ z => z) (prim2_nex _ _ _ _)⟩
  split at q3
  · simp only [Rv] at rd3
    subst rd3
    refine ⟨true, rfl, ?_⟩
    rw [if_pos rfl]
    refine ⟨κ3, ρ, h3, ((re.ext ex).ext ex2).ext ex3, R3, (PostG.bind (Rel' := (Rv X.K · ·)) q3).imp (fun w H4 ⟨κ4, h4, d4, ex4, R4, rd4, q4⟩ => ?_) fun _ _ z => z⟩
    exact ⟨κ4, h4, d2, d4, R4, Rv.ext (ex3.trans ex4) _ _ rd2, rd4, PostG.post q4 (prim2_nex _ _ _ _)⟩
  · simp only [Rv] at rd3
    subst rd3
    refine ⟨false, rfl, ?_⟩
    rw [if_neg Bool.false_ne_true]
    exact q3 _ κ3 H3 (Ext.refl _ _) R3 (by simp only [Rv])
  · exact q3.elim
theorem test_reads {f : Env → Hc → R D} (hf : ∀ ρ h d h', f ρ h = .ok d h' → ∃ t, d = .bl t) {σ : L2.St} {H : Hp} {Q : Bool → Hp → Prop} (h : RT X.K cv W (fun ρ h => truthR (f ρ h)) σ H Q) : RE X.K cv W f σ H fun x H1 => ∃ t, x = .bl t ∧ Q t H1 := by
  obtain ⟨μ, ρ, hh, re, rh, p⟩ := h
  refine ⟨μ, ρ, hh, re, rh, ?_⟩
  have p : PostG X.K cv (fun _ _ a b => a = b) μ H (truthR (f ρ hh)) Q (WAt W σ) := p
  cases hr : f ρ hh with
  | bad => rw [hr] at p; exact p
  | ex c h' => rw [hr] at p; exact p
  | ok d h' =>
    obtain ⟨t, rfl⟩ := hf _ _ _ _ hr
    rw [hr] at p
    intro v ν H' ex R rv
    simp only [Rv] at rv
    subst rv
    exact ⟨t, rfl, p t ν H' ex R rfl⟩
theorem snd_cmp2 {q r : P} {op op' : CmpOp} (h1 : cmpB q op = true) (h2 : cmpB r op' = true) (ho : OpR X (compareOp op) (r2 X.K q)) (ho' : OpR X (compareOp op') (r2 X.K r)) (ha : PE X x (RE X.K cv W (ev F a))) (hb : PE X y (RE X.K cv W (ev F b))) (hc : PE X z (RE X.K cv W (ev F c)))
    (hm : lastMarks [op, op'] [y, z] = false) : Snd X cv W F (.cmp2 q r a b c) (.Compare x [op, op'] [y, z] pos) :=
  ⟨(pe_chain ho ho' ha hb hc hm).impQ fun σ H Q h => chain_reads h, (pt_chain ho ho' ha hb hc hm).impQ fun σ H Q h => chain_reads (test_reads (fun ρ h d h' e => cmp2_bl h2 e) h), fun _ _ _ e => nomatch e⟩
end
/-- the source of a loop -/
theorem snd_it {X : Cx} {C : Ck} {F : Nat → List D → Hc → R D} {cv : Nat → Value} {k : Nat} {W : WX} (c : Cxt X C F cv k) {ik : IK} {it : Expr} {l : List Expr} {es : List CE} {tg : Expr} (hi : itA C X.env.scope ik it = some l) (hk : cks C X.env.scope es l = true) (ha : PA X l (RA X.K cv W (evs F es))) (hpe : ∀ a e, es = [a] → l = [e] → PE X e (RE X.K cv W (ev F a)))
    (ht : ik = .enum ∨ ik = .zip ∨ ik = .items → ∃ elts kk p, tg = .Tuple elts kk p) : PI X tg it (iQ X.K cv W F ik es) ∧ (∀ env x, foldedSetIterable it env x = pure x) := by
  unfold itA at hi
  split at hi
  · rename_i e
    split at hi
    · rename_i hn
      cases hi
      have hl := cks_len hk
      cases es with
      | nil => simp at hl
      | cons a r =>
        cases r with
        | cons _ _ => simp at hl
        | nil => exact ⟨pi_seq (hpe a _ rfl rfl), fun env => fold_plain hn⟩
    · cases hi
  · split at hi
    · rename_i h
      cases hi
      obtain ⟨rfl, g, m⟩ := blt_of c h
      exact ⟨pi_rng1 (gl_of g).1 m hk ha, fun _ _ => rfl⟩
    · cases hi
  · split at hi
    · rename_i h
      cases hi
      obtain ⟨rfl, g, m⟩ := blt_of c h
      exact ⟨pi_rng2 (gl_of g).1 m hk ha, fun _ _ => rfl⟩
    · cases hi
  · split at hi
    · rename_i h
      cases hi
      obtain ⟨rfl, g, m⟩ := blt_of c h
      obtain ⟨elts, kk, p, rfl⟩ := ht (.inl rfl)
      exact ⟨pi_enumQ (gl_of g).1 m hk ha, fun _ _ => rfl⟩
    · cases hi
  · split at hi
    · rename_i h
      cases hi
      obtain ⟨rfl, g, m⟩ := blt_of c h
      obtain ⟨elts, kk, p, rfl⟩ := ht (.inr (.inl rfl))
      exact ⟨pi_zipQ (gl_of g).1 m hk ha, fun _ _ => rfl⟩
    · cases hi
  · split at hi
    · rename_i h
      cases hi
      simp only [Bool.and_eq_true, decide_eq_true_eq] at h
      obtain ⟨⟨rfl, h2⟩, h3⟩ := h
      obtain ⟨elts, kk, p, rfl⟩ := ht (.inr (.inr rfl))
      have hl := cks_len hk
      cases es with
      | nil => simp at hl
      | cons a r =>
        cases r with
        | cons _ _ => simp at hl
        | nil => exact ⟨pi_itemsQ (hpe a _ rfl rfl) (base_plain h3) h2, fun _ _ => rfl⟩
    · cases hi
  · split at hi
    · rename_i h
      cases hi
      simp only [Bool.and_eq_true, decide_eq_true_eq] at h
      obtain ⟨⟨rfl, h2⟩, h3⟩ := h
      have hl := cks_len hk
      cases es with
      | nil => simp at hl
      | cons a r =>
        cases r with
        | cons _ _ => simp at hl
        | nil => exact ⟨pi_valuesQ (hpe a _ rfl rfl) (base_plain h3) h2, fun _ _ => rfl⟩
    · cases hi
  · rename_i e
    split at hi
    · rename_i hn
      cases hi
      have hl := cks_len hk
      cases es with
      | nil => simp at hl
      | cons a r =>
        cases r with
        | cons _ _ => simp at hl
        | nil => exact ⟨pi_keysQ (hpe a _ rfl rfl), fun env => fold_plain hn⟩
    · cases hi
  · cases hi
theorem tgt_tup {C : Ck} {sc : Scope} {t : CT} {e : Expr} (h : ckT C sc t e = true) (ht : ∃ ts, t = .t ts) : ∃ elts kk p, e = .Tuple elts kk p := by
  obtain ⟨ts, rfl⟩ := ht
  cases e <;> first | exact ⟨_, _, _, rfl⟩ | (simp [ckT] at h)
end Q

/-! QS: expressions that pass the check, all at once. -/
namespace Q
open PySem PySem.Spec PyProof.Rows L2
theorem tgOk_t {ik : IK} {tg : CT} (h : tgOk ik tg = true) (hk : ik = .enum ∨ ik = .zip ∨ ik = .items) : ∃ ts, tg = .t ts := by
  cases tg with
  | t ts => exact ⟨ts, rfl⟩
  | n i => rcases hk with rfl | rfl | rfl <;> cases h
section
variable {C : Ck} {F : Nat → List D → Hc → R D} {cv : Nat → Value} {k : Nat}
theorem mt_of {q : P} {nm : PySem.Str} {n : Nat} (h : ((mtB q).any fun p => decide (nm = p.1) && decide (n = p.2)) = true) : mtN q = nm ∧ n < 30 := by
  cases q <;> simp only [mtB, List.any_nil, Bool.false_eq_true, List.any_cons, Bool.or_false, Bool.and_eq_true, decide_eq_true_eq] at h <;> (obtain ⟨rfl, rfl⟩ := h; exact ⟨rfl, by omega⟩)
theorem own_map (N : List PySem.Str) : ∀ l : List Nat, (ownN N l).map (·.2) = l
  | [] => rfl
  | i :: r => by rw [ownN, List.map_cons, own_map N r]
theorem Snd.bool {X : Cx} {W : WX} {c : CE} {op : BoolOp} {vs : List Expr} {p : Pos} (h : PE X (.BoolOp op vs p) (RE X.K cv W (ev F c))) (hw : PW X (.BoolOp op vs p) (RT X.K cv W fun ρ h => truthR (ev F c ρ h))) : Snd X cv W F c (.BoolOp op vs p) :=
  ⟨h, hw.pt, fun _ _ _ _ => hw⟩
theorem partB_of {o : Option Expr} {c : CE} {e : Expr} (h : partB o c = some e) : (o = none ∧ c = .c .non) ∨ o = some e := by
  unfold partB at h
  split at h
  · cases h; exact .inr rfl
  · exact .inl ⟨rfl, rfl⟩
  · cases h
theorem last_no {op op' : CmpOp} {y z : Expr} (h1 : (!(op' == .In)) = true) (h2 : (!(op' == .NotIn)) = true) : lastMarks [op, op'] [y, z] = false := by
  show behindInMarks op' z = false
  cases op' <;> first | (cases h1; done) | (cases h2; done) | (cases z <;> first | rfl | (show (_ && _ && _) = false; simp <;> done))
theorem minus1_of {s : Expr} (h : minus1 s = true) : ∃ j p1 p2, s = .UnaryOp .USub (.Constant (.int 1) j p1) p2 := by
  unfold minus1 at h
  split at h
  · simp only [decide_eq_true_eq] at h
    subst h
    exact ⟨_, _, _, rfl⟩
  · cases h
set_option maxHeartbeats 4000000 in
mutual
theorem snd : ∀ (c : CE) (X : Cx) (W : WX) (e : Expr), Cxt X C F cv k → Takes X W → ck C X.env.scope c e = true → Snd X cv W F c e
  | .v i, X, W, e, x, tk, h => by
    cases e with
    | Name y p => exact Snd.plain (q_var x h) (fun _ => rfl) (fun _ _ _ z => nomatch z)
    | _ => simp [ck] at h
  | .c d, X, W, e, x, tk, h => by
    cases e with
    | Name y p => exact Snd.plain (q_con x h) (fun _ => rfl) (fun _ _ _ z => nomatch z)
    | Constant a j p => exact Snd.plain (q_const h) (fun _ => rfl) (fun _ _ _ z => nomatch z)
    | _ => simp [ck] at h
  | .tup es, X, W, e, x, tk, h => by
    cases e with
    | Tuple as n p =>
      simp only [ck] at h
      exact Snd.plain (q_tup (snds es X W as x tk h)) (fun _ => rfl) (fun _ _ _ z => nomatch z)
    | _ => simp [ck] at h
  | .lst fr es, X, W, e, x, tk, h => by
    cases e with
    | List as p =>
      simp only [ck] at h
      exact Snd.plain (q_lst (snds es X W as x tk h)) (fun _ => rfl) (fun _ _ _ z => nomatch z)
    | _ => simp [ck] at h
  | .dnew t, X, W, e, x, tk, h => by
    cases e with
    | Dict ks vs p =>
      simp only [ck, Bool.and_eq_true, List.isEmpty_iff] at h
      obtain ⟨rfl, rfl⟩ := h
      exact Snd.plain q_dnew (fun _ => rfl) (fun _ _ _ z => nomatch z)
    | _ => simp [ck] at h
  | .dic t kvs, X, W, e, x, tk, h => by
    cases e with
    | Dict ks vs p =>
      simp only [ck, Bool.and_eq_true, decide_eq_true_eq, Bool.not_eq_true'] at h
      obtain ⟨⟨⟨h1, h2⟩, h3⟩, h4⟩ := h
      obtain ⟨g1, g2, g3, g4⟩ := sndD kvs X W ks vs p x tk h2
      exact Snd.plain (q_dic (n := ks.length) g1 g2 g3 (fun z => by rw [z] at h4; cases h4) h3 g4 rfl) (fun _ => rfl) (fun _ _ _ z => nomatch z)
    | _ => simp [ck] at h
  | .un q a, X, W, e, x, tk, h => by
    cases e with
    | UnaryOp op e' p =>
      simp only [ck, Bool.and_eq_true, Bool.or_eq_true, decide_eq_true_eq] at h
      obtain ⟨h1, h2⟩ := h
      have ih := snd a X W e' x tk h2
      rcases h1 with ⟨rfl, rfl⟩ | ⟨rfl, rfl⟩
      · exact Snd.plain (q_un u_neg ih.pe) (fun _ => rfl) (fun _ _ _ z => nomatch z)
      · exact ⟨q_un u_not ih.pe, qt_not ih.pt, fun _ _ _ z => nomatch z⟩
    | Compare e' ops cs p =>
      have h' : ∃ op K j p2, ops = [op] ∧ cs = [.Constant K j p2] ∧ isB1 q op K = true ∧ ck C X.env.scope a e' = true := by
        unfold ck at h
        split at h <;> first | (cases h; done) | (rename_i z z2; cases z2; done) | (rename_i z z2; cases z; done) | (rename_i z z2; cases z; cases z2; simp only [Bool.and_eq_true] at h; exact ⟨_, _, _, _, rfl, rfl, h⟩)
      obtain ⟨op, K, j, p2, rfl, rfl, h1, h2⟩ := h'
      have ih := snd a X W e' x tk h2
      exact ⟨q_isOp h1 ih.pe, qt_isOp h1 ih.pe, fun _ _ _ z => nomatch z⟩
    | _ => simp [ck] at h
  | .bin q a b, X, W, e, x, tk, h => by
    cases e with
    | BinOp y op z p =>
      simp only [ck, Bool.and_eq_true] at h
      have hu : X.A.units + 66 < cLine := by have := x.room.un; omega
      exact Snd.plain (q_bin (ops_ok hu h.1.1) (snd a X W y x tk h.1.2).pe (snd b X W z x tk h.2).pe) (fun _ => rfl) (fun _ _ _ z => nomatch z)
    | _ => simp [ck] at h
  | .cmp q a b, X, W, e, x, tk, h => by
    have h' : ∃ y op z p, e = .Compare y [op] [z] p ∧ cmpB q op = true ∧ ck C X.env.scope a y = true ∧ ck C X.env.scope b z = true ∧ notSet z = true := by
      unfold ck at h
      split at h <;> first | (cases h; done) | (rename_i z1; cases z1; done) | (rename_i z1; cases z1; simp only [Bool.and_eq_true] at h; exact ⟨_, _, _, _, rfl, h.1.1.1, h.1.1.2, h.1.2, h.2⟩)
    obtain ⟨y, op, z, p, rfl, h1, h2, h3, h4⟩ := h'
    have hu : X.A.units + 66 < cLine := by have := x.room.un; omega
    have ia := snd a X W y x tk h2
    have ib := snd b X W z x tk h3
    exact ⟨q_cmp (cmps_ok hu h1) ia.pe ib.pe (mark_plain h4), qt_cmp h1 (cmps_ok hu h1) ia.pe ib.pe (mark_plain h4), fun _ _ _ z => nomatch z⟩
  | .cmp2 q r a b c, X, W, e, x, tk, h => by
    have h' : ∃ y op op' z w p, e = .Compare y [op, op'] [z, w] p ∧ cmpB q op = true ∧ cmpB r op' = true ∧ ck C X.env.scope a y = true ∧ ck C X.env.scope b z = true ∧ ck C X.env.scope c w = true ∧ lastMarks [op, op'] [z, w] = false := by
      unfold ck at h
      split at h <;> first | (cases h; done) | (rename_i z1; cases z1; done) | (rename_i z1; cases z1; simp only [Bool.and_eq_true] at h; refine ⟨_, _, _, _, _, _, rfl, h.1.1.1.1.1.1.1.1, h.1.1.1.1.1.1.1.2, h.1.1.1.1.1.1.2, h.1.1.1.1.1.2, h.1.1.1.1.2, last_no h.1.2 h.2⟩)
    obtain ⟨y, op, op', z, w, p, rfl, h1, h2, h3, h4, h5, h6⟩ := h'
    have hu : X.A.units + 66 < cLine := by have := x.room.un; omega
    exact snd_cmp2 h1 h2 (cmps_ok hu h1) (cmps_ok hu h2) (snd a X W y x tk h3).pe (snd b X W z x tk h4).pe (snd c X W w x tk h5).pe h6
  | .and a b, X, W, e, x, tk, h => by
    have h' : ∃ y z r p, e = .BoolOp .And (y :: z :: r) p ∧ ck C X.env.scope a y = true ∧ ck C X.env.scope b (more r z .And p) = true := by
      unfold ck at h
      split at h <;> first | (cases h; done) | (rename_i z1; cases z1; done) | (rename_i z1; cases z1; simp only [Bool.and_eq_true] at h; exact ⟨_, _, _, _, rfl, h.1, h.2⟩)
    obtain ⟨y, z, r, p, rfl, h1, h2⟩ := h'
    have ia := snd a X W y x tk h1
    have ib := snd b X W _ x tk h2
    cases r with
    | nil => exact Snd.bool (q_and ia.pe (pe_one ib.pe)) (qw_and ia.pt (pw_and1 ib.pt))
    | cons w r => exact Snd.bool (q_and ia.pe ib.pe) (qw_and ia.pt (ib.pw _ _ _ rfl))
  | .or a b, X, W, e, x, tk, h => by
    have h' : ∃ y z r p, e = .BoolOp .Or (y :: z :: r) p ∧ ck C X.env.scope a y = true ∧ ck C X.env.scope b (more r z .Or p) = true := by
      unfold ck at h
      split at h <;> first | (cases h; done) | (rename_i z1; cases z1; done) | (rename_i z1; cases z1; simp only [Bool.and_eq_true] at h; exact ⟨_, _, _, _, rfl, h.1, h.2⟩)
    obtain ⟨y, z, r, p, rfl, h1, h2⟩ := h'
    have ia := snd a X W y x tk h1
    have ib := snd b X W _ x tk h2
    cases r with
    | nil => exact Snd.bool (q_or ia.pe (pe_one ib.pe)) (qw_or ia.pt (pw_or1 ib.pt))
    | cons w r => exact Snd.bool (q_or ia.pe ib.pe) (qw_or ia.pt (ib.pw _ _ _ rfl))
  | .ite c a b, X, W, e, x, tk, h => by
    cases e with
    | IfExp t y z p =>
      simp only [ck, Bool.and_eq_true] at h
      have ic := snd c X W t x tk h.1.1
      have ia := snd a X W y x tk h.1.2
      have ib := snd b X W z x tk h.2
      exact ⟨q_ite ic.pt ia.pe ib.pe, qt_ite ic.pt ia.pt ib.pt, fun _ _ _ z => nomatch z⟩
    | _ => simp [ck] at h
  | .call f es, X, W, e, x, tk, h => by
    have h' : ∃ nm p0 as p, e = .Call (.Name nm p0) as [] p ∧ glB X.env.scope nm = true ∧ C.names.lookup nm = some (f, es.length) ∧ cks C X.env.scope es as = true := by
      unfold ck at h
      split at h <;> first | (cases h; done) | (rename_i z1; cases z1; done) | (rename_i z1; cases z1; simp only [Bool.and_eq_true, decide_eq_true_eq] at h; exact ⟨_, _, _, _, rfl, h.1.1, h.1.2, h.2⟩)
    obtain ⟨nm, p0, as, p, rfl, h1, h2, h3⟩ := h'
    exact Snd.plain (q_call x tk h1 h2 rfl h3 (snds es X W as x tk h3)) (fun _ => rfl) (fun _ _ _ z => nomatch z)
  | .bi q es, X, W, e, x, tk, h => by
    have h' : ∃ nm p0 as p as', e = .Call (.Name nm p0) as [] p ∧ biA C X.env.scope q nm as = some as' ∧ cks C X.env.scope es as' = true := by
      unfold ck at h
      split at h <;> first | (cases h; done) | (rename_i z1; cases z1; done) | (rename_i z1; cases z1; split at h <;> first | (cases h; done) | exact ⟨_, _, _, _, _, rfl, by assumption, h⟩)
    obtain ⟨nm, p0, as, p, as', rfl, h1, h2⟩ := h'
    exact Snd.plain (q_bi x h1 h2 (snds es X W as' x tk h2) fun a e ha he => by
      subst ha he
      simp only [cks, Bool.and_eq_true, and_true] at h2
      exact (snd a X W e x tk h2).pe) (fun _ => rfl) (fun _ _ _ z => nomatch z)
  | .mt q o es, X, W, e, x, tk, h => by
    have h' : ∃ y m apos as pos, e = .Call (.Attribute y m apos) as [] pos ∧ ((mtB q).any fun p => decide (m = p.1) && decide (es.length = p.2)) = true ∧ recvB y = true ∧ (apos.endLine == pos.line) = true ∧ ck C X.env.scope o y = true ∧ cks C X.env.scope es as = true := by
      unfold ck at h
      split at h <;> first | (cases h; done) | (rename_i z1; cases z1; done) | (rename_i z1; cases z1; simp only [Bool.and_eq_true] at h; exact ⟨_, _, _, _, _, rfl, h.1.1.1.1, h.1.1.1.2, h.1.1.2, h.1.2, h.2⟩)
    obtain ⟨y, m, apos, as, pos, rfl, h1, h2, h3, h4, h5⟩ := h'
    obtain ⟨m1, m2⟩ := mt_of h1
    exact Snd.plain (q_mt x m1 h2 h3 m2 h5 (cks_len h5).symm (snd o X W y x tk h4).pe (snds es X W as x tk h5)) (fun _ => rfl) (fun _ _ _ z => nomatch z)
  | .idx a b, X, W, e, x, tk, h => by
    cases e with
    | Subscript y z p =>
      simp only [ck, Bool.and_eq_true] at h
      have hu : X.A.units + 1 < cLine := by have := x.room.un; omega
      exact Snd.plain (q_idx hu h.2 (snd a X W y x tk h.1).pe (snd b X W z x tk h.2).pe) (fun _ => rfl) (fun _ _ _ z => nomatch z)
    | _ => simp [ck] at h
  | .sl fr a lo hi, X, W, e, x, tk, h => by
    have h' : ∃ y l u p1 p2 el eu, e = .Subscript y (.Slice l u none p1) p2 ∧ ck C X.env.scope a y = true ∧ partB l lo = some el ∧ ck C X.env.scope lo el = true ∧ partB u hi = some eu ∧ ck C X.env.scope hi eu = true := by
      unfold ck at h
      split at h <;> first | (cases h; done) | (rename_i z1; cases z1; done) | (
        rename_i z1; cases z1; simp only [Bool.and_eq_true] at h
        obtain ⟨⟨h1, h2⟩, h3⟩ := h
        split at h2
        · split at h3
          · exact ⟨_, _, _, _, _, _, _, rfl, h1, by assumption, h2, by assumption, h3⟩
          · cases h3
        · cases h2)
    obtain ⟨y, l, u, p1, p2, el, eu, rfl, h1, h2, h3, h4, h5⟩ := h'
    refine Snd.plain (q_sl (snd a X W y x tk h1).pe ?_ ?_) (fun _ => rfl) (fun _ _ _ z => nomatch z)
    · rcases partB_of h2 with z | z
      · exact .inl z
      · exact .inr ⟨el, z, (snd lo X W el x tk h3).pe⟩
    · rcases partB_of h4 with z | z
      · exact .inl z
      · exact .inr ⟨eu, z, (snd hi X W eu x tk h5).pe⟩
  | .rev fr a, X, W, e, x, tk, h => by
    have h' : ∃ y s p1 p2, e = .Subscript y (.Slice none none (some s) p1) p2 ∧ ck C X.env.scope a y = true ∧ minus1 s = true := by
      unfold ck at h
      split at h <;> first | (cases h; done) | (rename_i z1; cases z1; done) | (rename_i z1; cases z1; simp only [Bool.and_eq_true] at h; exact ⟨_, _, _, _, rfl, h.1, h.2⟩)
    obtain ⟨y, s, p1, p2, rfl, h1, h2⟩ := h'
    obtain ⟨j, p3, p4, rfl⟩ := minus1_of h2
    exact Snd.plain (q_rev (snd a X W y x tk h1).pe) (fun _ => rfl) (fun _ _ _ z => nomatch z)
  | .comp fr ik es tg cs e0 own, X, W, e, x, tk, h => by
    have h' : ∃ elt t it ifs scope p l, e = .ListComp elt [⟨t, it, ifs, 0⟩] scope p ∧ itA C X.env.scope ik it = some l ∧ cks C X.env.scope es l = true ∧ L2.blkC C.N X.env.scope scope (ownN C.N own) = true ∧ ckT C scope tg t = true ∧ tgOk ik tg = true ∧ (∀ i ∈ slotsT tg, i ∈ own) ∧ cks C (kSc scope X.env.scope) cs ifs = true ∧ cs.length ≤ 1 ∧ ck C (kSc scope X.env.scope) e0 elt = true := by
      unfold ck at h
      split at h <;> first | (cases h; done) | (rename_i z1; cases z1; done) | (
        rename_i z1; cases z1; simp only [Bool.and_eq_true, decide_eq_true_eq] at h
        obtain ⟨⟨⟨⟨⟨⟨⟨⟨h1, h2⟩, h3⟩, h4⟩, h5⟩, h6⟩, h7⟩, h8⟩, h9⟩ := h
        subst h1
        split at h2
        · exact ⟨_, _, _, _, _, _, _, rfl, by assumption, h2, h3, h4, h5, by simpa using h6, h7, h8, h9⟩
        · cases h2)
    obtain ⟨elt, t, it, ifs, scope, p, l, rfl, h1, h2, h3, h4, h5, h6, h7, h8, h9⟩ := h'
    obtain ⟨i1, i2⟩ := snd_it x (tg := t) h1 h2 (snds es X W l x tk h2) (fun a e ha he => by
      subst ha he
      simp only [cks, Bool.and_eq_true, and_true] at h2
      exact (snd a X W e x tk h2).pe) fun z => tgt_tup h4 (tgOk_t h5 z)
    rw [← x.hN] at h3
    refine Snd.plain ((pe_lc (own := ownN X.N own) x.calm x.nd i1 (blkOk_by h3) (g := gQ X.K tg) (fun s H A cl fp => pg_q (X := X.blk s H scope (compEnvC scope cl A X.env) fp) x.hN x.nd x.calm loc_blk tg t h4) (tt := RT X.K cv W0 (evC F cs)) (te := RE X.K cv W0 (ev F e0)) (fun s H A cl fp => ?_) (fun s H A cl fp => ?_) (fun y => i2 _ y)).impQ fun σ H Q hq => by rw [own_map]; exact comp_reads h6 hq) (fun _ => rfl) (fun _ _ _ z => nomatch z)
    · have xb := x.blk s H scope (compEnvC scope cl A X.env) fp
      cases cs with
      | nil =>
        cases ifs with
        | cons _ _ => simp [cks] at h7
        | nil => exact ⟨fun pins s1 σ H1 Q I hq => pts_nil.run pins s1 σ H1 Q I (by
          obtain ⟨μ, ρ, hh, re, rh, p⟩ := hq
          exact p true μ H1 (Ext.refl _ _) rh rfl)⟩
      | cons c r =>
        cases r with
        | cons _ _ => simp at h8
        | nil =>
          cases ifs with
          | nil => simp [cks] at h7
          | cons i ifs =>
            simp only [cks, Bool.and_eq_true] at h7
            cases ifs with
            | cons _ _ => simp [cks] at h7
            | nil => exact pts_one (snd c _ W0 i xb takes_no h7.1).pt
    · exact (snd e0 _ W0 elt (x.blk s H scope _ fp) takes_no h9).pe
theorem snds : ∀ (cs : List CE) (X : Cx) (W : WX) (es : List Expr), Cxt X C F cv k → Takes X W → cks C X.env.scope cs es = true → PA X es (RA X.K cv W (evs F cs))
  | [], X, W, es, x, tk, h => by
    cases es with
    | nil => exact q_nil
    | cons _ _ => simp [cks] at h
  | c :: cs, X, W, es, x, tk, h => by
    cases es with
    | nil => simp [cks] at h
    | cons e es =>
      simp only [cks, Bool.and_eq_true] at h
      exact q_cons h.1 (snd c X W e x tk h.1).pe (snds cs X W es x tk h.2)
theorem sndD : ∀ (cs : List CE) (X : Cx) (W : WX) (ks : List (Option Expr)) (vs : List Expr) (p : Pos), Cxt X C F cv k → Takes X W → ckD C X.env.scope cs ks vs = true → PPs X p ks vs (pairsTE X.K cv W F cs) ∧ ks.all (·.isSome) = true ∧ ks.length = vs.length ∧ cs.length = 2 * ks.length
  | [], X, W, ks, vs, p, x, tk, h => by
    cases ks with
    | nil =>
      cases vs with
      | nil => exact ⟨pps_nil, rfl, rfl, rfl⟩
      | cons _ _ => simp [ckD] at h
    | cons _ _ => simp [ckD] at h
  | [_], X, W, ks, vs, p, x, tk, h => by simp [ckD] at h
  | c :: d :: cs, X, W, ks, vs, p, x, tk, h => by
    cases ks with
    | nil => simp [ckD] at h
    | cons o ks =>
      cases o with
      | none => simp [ckD] at h
      | some e =>
        cases vs with
        | nil => simp [ckD] at h
        | cons v vs =>
          simp only [ckD, Bool.and_eq_true] at h
          obtain ⟨⟨h1, h2⟩, h3⟩ := h
          obtain ⟨g1, g2, g3, g4⟩ := sndD cs X W ks vs p x tk h3
          refine ⟨pps_cons (snd c X W e x tk h1).pe (snd d X W v x tk h2).pe g1, ?_, by rw [List.length_cons, List.length_cons, g3], by simp only [List.length_cons]; omega⟩
          simpa using g2
end
end
end Q

/-! QU: statements. -/
namespace Q
open PySem PySem.Spec PyProof.Rows L2
/-- what a clean end of a statement asks -/
def PostS (K : PySem.W.Frag) (cv : Nat → Value) (W : WX) (μ : List Addr) (H : Hp) (s : S) (D : Ends) : Prop := match s with
  | .nx ρ h => ∀ ν σ H', Ext μ H ν H' → Re K ν H' ρ σ → Rh K ν H' h → D.nx σ H'
  | .bk ρ h => ∀ ν σ H', Ext μ H ν H' → Re K ν H' ρ σ → Rh K ν H' h → D.bk σ H'
  | .ct ρ h => ∀ ν σ H', Ext μ H ν H' → Re K ν H' ρ σ → Rh K ν H' h → D.ct σ H'
  | .rt d h => ∀ v ν H', Ext μ H ν H' → Rh K ν H' h → Rv K ν H' d v → D.rt v H'
  | .ex c ρ h => ∀ ν σ H', Ext μ H ν H' → Re K ν H' ρ σ → Rh K ν H' h → ∀ d, W (cv c) d σ H'
  | .bad => False
def RS (K : PySem.W.Frag) (cv : Nat → Value) (W : WX) (f : Env → Hc → S) : TS := fun D σ H => ∃ μ ρ h, Re K μ H ρ σ ∧ Rh K μ H h ∧ PostS K cv W μ H (f ρ h) D
section
variable {K : PySem.W.Frag} {cv : Nat → Value} {W : WX} {μ ν : List Addr} {G H : Hp} {σ : L2.St} {ρ : Env} {D D' : Ends}
theorem PostS.ext {r : S} (p : PostS K cv W μ G r D) (x : Ext μ G ν H) : PostS K cv W ν H r D := by
  cases r with
  | nx ρ h => exact fun κ σ H' y => p κ σ H' (x.trans y)
  | bk ρ h => exact fun κ σ H' y => p κ σ H' (x.trans y)
  | ct ρ h => exact fun κ σ H' y => p κ σ H' (x.trans y)
  | rt d h => exact fun v κ H' y => p v κ H' (x.trans y)
  | ex c ρ h => exact fun κ σ H' y => p κ σ H' (x.trans y)
  | bad => exact p
theorem PostS.st {α β : Type} {Rel : List Addr → Hp → α → β → Prop} {r : R α} {f : α → Hc → S} (p : PostS K cv W μ H (r.st ρ f) D) (re : Re K μ H ρ σ) :
    PostG K cv Rel μ H r (fun b H' => ∃ ν h' a, Ext μ H ν H' ∧ Rh K ν H' h' ∧ Rel ν H' a b ∧ PostS K cv W ν H' (f a h') D) (WAt W σ) := by
  cases r with
  | ok a h => exact fun b ν H' x R rel => ⟨ν, h, a, x, R, rel, PostS.ext p x⟩
  | ex c h => exact fun ν H' x R => p ν σ H' x (re.ext x) R
  | bad => exact p
theorem st_bind {α β : Type} {r : R α} {g : α → Hc → R β} {f : β → Hc → S} : (r.bind g).st ρ f = r.st ρ fun a h => (g a h).st ρ f := by cases r <;> rfl
/-- one expression ahead of what follows -/
theorem RS.one {α β : Type} {Rel : List Addr → Hp → α → β → Prop} {a : Env → Hc → R α} {f : Env → α → Hc → S} (h : RS K cv W (fun ρ h => (a ρ h).st ρ (f ρ)) D σ H) :
    RG K cv W Rel a σ H fun b H1 => ∃ ν ρ h1 x, Re K ν H1 ρ σ ∧ Rh K ν H1 h1 ∧ Rel ν H1 x b ∧ PostS K cv W ν H1 (f ρ x h1) D := by
  obtain ⟨μ, ρ, hh, re, rh, p⟩ := h
  exact ⟨μ, ρ, hh, re, rh, (PostS.st (Rel := Rel) p re).imp (fun b H' ⟨ν, h', x, ex, R, rel, q⟩ => ⟨ν, ρ, h', x, re.ext ex, R, rel, q⟩) fun _ _ z => z⟩
/-- one statement ahead of another -/
theorem PostS.seq {r : S} {f : Env → Hc → S} (p : PostS K cv W μ H (r.andThen f) D) :
    PostS K cv W μ H r { D with nx := fun σ' H' => ∃ ν ρ h', Re K ν H' ρ σ' ∧ Rh K ν H' h' ∧ PostS K cv W ν H' (f ρ h') D } := by
  cases r with
  | nx ρ h => exact fun ν σ H' x re R => ⟨ν, ρ, h, re, R, PostS.ext p x⟩
  | bk ρ h => exact p
  | ct ρ h => exact p
  | rt d h => exact p
  | ex c ρ h => exact p
  | bad => exact p
theorem whilL_some {c : Env → Hc → R Bool} {b : Env → Hc → S} {h : Hc} (p : PostS K cv W μ H (whilL c b ρ h) D) : ∃ m s, turns c b m ρ h = some s ∧ PostS K cv W μ H s D := by
  unfold whilL at p
  split at p
  · rename_i q
    exact ⟨_, _, q.choose_spec.choose_spec, p⟩
  · exact p.elim
end
theorem _root_.L2.PS.impQ {X : Cx} {e : Stmt} {t t' : TS} (p : PS X e t) (h : ∀ D σ H, t' D σ H → t D σ H) : PS X e t' := ⟨fun pins s σ H D I w => p.run pins s σ H D I (h D σ H w)⟩
theorem _root_.L2.PSs.impQ {X : Cx} {e : List Stmt} {t t' : TS} (p : PSs X e t) (h : ∀ D σ H, t' D σ H → t D σ H) : PSs X e t' := ⟨fun pins s σ H D I w => p.run pins s σ H D I (h D σ H w)⟩
/-- a context of statements -/
structure Sx (X : Cx) (W : WX) (C : Ck) (F : Nat → List D → Hc → R D) (cv : Nat → Value) (k : Nat) : Prop extends Cxt X C F cv k where
  tk : Takes X W
  ps : PassesOwn (model X.prog X.w) X.A X.env X.xe
  kd : X.env.scope.kind = .function
  hl : ∀ x, locB X.env.scope x = true → Loc X.env.scope x ∧ (X.fn x = true ∨ X.env.scope.names.lookup x = some .local)
section
variable {X : Cx} {C : Ck} {F : Nat → List D → Hc → R D} {cv : Nat → Value} {k : Nat} {W : WX}
theorem parN_of {env : PySem.Env} {ts vs : List Expr} {kt k2 : Nat} {p p2 : Pos} {o : Option (List PySem.Str)} (hk : env.scope.kind = .function) (h : parN env.scope ts vs = some o) : swappedStores [.Tuple ts kt p] (.Tuple vs k2 p2) env = pure o := by
  have hb : env.blockKind = .function := by unfold Env.blockKind; rw [hk]; rfl
  have hc : ∀ id, env.kindOf id = env.scope.names.lookup id := fun _ => rfl
  unfold parN at h
  unfold swappedStores
  simp only [hb, hc]
  by_cases c1 : (!(ts.length == 2 || ts.length == 3) || vs.length != ts.length) = true
  · rw [if_pos c1] at h
    cases h
    rw [if_pos (by rw [c1]; rfl)]
  · rw [if_neg c1] at h
    split at h
    · cases h
    rename_i c2
    rw [if_neg (by rw [Bool.not_eq_true] at c1; rw [c1]; decide)]
    refine (if_neg c2).trans ?_
    simp only at h
    split at h
    · rename_i c3
      cases h
      exact if_pos c3
    rename_i c3
    refine (if_neg c3).trans ?_
    split at h
    · rename_i c4
      cases h
      exact if_pos c4
    rename_i c4
    refine (if_neg c4).trans ?_
    split at h
    · cases h
    rename_i c5
    cases h
    refine (if_neg c5).trans ?_
    rfl
end
end Q

/-! QV: statements, one by one. -/
namespace Q
open PySem PySem.Spec PyProof.Rows L2
section
variable {X : Cx} {C : Ck} {F : Nat → List D → Hc → R D} {cv : Nat → Value} {k : Nat} {W : WX}
theorem asg_reads {t : CT} {e : CE} {D : Ends} {σ : L2.St} {H : Hp} (h : RS X.K cv W (exe F (.asg t e)) D σ H) : tAsg (RE X.K cv W (ev F e)) (gQ X.K t) D σ H := by
  have h : RS X.K cv W (fun ρ h => (ev F e ρ h).st ρ fun d h => (match bindT t d ρ with
    | some ρ' => S.nx ρ' h
    | none => .bad)) D σ H := by
    obtain ⟨μ, ρ, hh, re, rh, p⟩ := h
    exact ⟨μ, ρ, hh, re, rh, by simp only [exe] at p; exact p⟩
  obtain ⟨μ, ρ, hh, re, rh, p⟩ := RS.one (Rel := (Rv X.K · ·)) h
  refine ⟨μ, ρ, hh, re, rh, p.imp (fun b H1 ⟨ν, ρ1, h1, d, re1, R1, rd, q⟩ => ?_) fun _ _ z => z⟩
  split at q
  · rename_i ρ' eb
    exact ⟨ν, h1, d, ρ1, ρ', R1, rd, re1, eb, fun σ' re' _ => q ν σ' H1 (Ext.refl _ _) re' R1⟩
  · exact q.elim
theorem s_asg (x : Sx X W C F cv k) {t : CT} {e : CE} {tg v : Expr} {p : Pos} (ht : ckT C X.env.scope t tg = true) (he : PE X v (RE X.K cv W (ev F e))) (hs : swapsWithSole [tg] v p.line X.env = pure false) (hw : swappedStores [tg] v X.env = pure none) :
    PS X (.Assign [tg] v p) (RS X.K cv W (exe F (.asg t e))) :=
  (ps_asg he (pg_q x.hN x.nd x.calm x.hl t tg ht) hs hw (by rw [each_plain ht] <;> rfl)).impQ fun D σ H h => asg_reads h
theorem par_reads {t : CT} {es : List CE} {D : Ends} {σ : L2.St} {H : Hp} (h : RS X.K cv W (exe F (.asg t (.tup es))) D σ H) :
    RA X.K cv W (evs F es) σ H fun vs H1 => ∃ ν ρ h1 ds ρ', Re X.K ν H1 ρ σ ∧ Rh X.K ν H1 h1 ∧ Rvs X.K ν H1 ds vs ∧ bindT t (.tup ds) ρ = some ρ' ∧ ∀ σ', Re X.K ν H1 ρ' σ' → D.nx σ' H1 := by
  have h : RS X.K cv W (fun ρ h => (evs F es ρ h).st ρ fun ds h => ((if ds.length ≤ sizeLine then (R.ok (.tup ds) h : R _root_.Q.D) else .bad).st ρ fun d h => (match bindT t d ρ with
    | some ρ' => S.nx ρ' h
    | none => .bad))) D σ H := by
    obtain ⟨μ, ρ, hh, re, rh, p⟩ := h
    exact ⟨μ, ρ, hh, re, rh, by simp only [exe, ev, st_bind] at p; exact p⟩
  obtain ⟨μ, ρ, hh, re, rh, p⟩ := RS.one (Rel := (Rvs X.K · ·)) h
  refine ⟨μ, ρ, hh, re, rh, p.imp (fun b H1 ⟨ν, ρ1, h1, ds, re1, R1, rd, q⟩ => ?_) fun _ _ z => z⟩
  split at q
  · rw [R.st_ok] at q
    split at q
    · rename_i ρ' eb
      exact ⟨ν, ρ1, h1, ds, ρ', re1, R1, rd, eb, fun σ' re' => q ν σ' H1 (Ext.refl _ _) re' R1⟩
    · exact q.elim
  · exact q.elim
theorem sw_sole {ts vs : List Expr} {kt k2 l : Nat} {p p2 : Pos} : swapsWithSole [.Tuple ts kt p] (.Tuple vs k2 p2) l X.env = pure false := rfl
theorem s_par2 (x : Sx X W C F cv k) {i j : Nat} {es : List CE} {y z : PySem.Str} {a b : Expr} {py pz pt pt2 p : Pos} {kt k2 : Nat} (hi : X.N[i]? = some y) (hj : X.N[j]? = some z) (hij : i ≠ j) (hy : X.env.scope.names.lookup y = some .local) (hz : X.env.scope.names.lookup z = some .local)
    (hw : parN X.env.scope [.Name y py, .Name z pz] [a, b] = some (some [y, z])) (ha : PA X [a, b] (RA X.K cv W (evs F es))) :
    PS X (.Assign [.Tuple [.Name y py, .Name z pz] kt pt] (.Tuple [a, b] k2 pt2) p) (RS X.K cv W (exe F (.asg (.t [.n i, .n j]) (.tup es)))) :=
  (ps_par x.calm x.nd hi hj hij hy hz ha (parN_of x.kd hw) sw_sole).impQ fun D σ H h => by
    obtain ⟨μ, ρ, hh, re, rh, p⟩ := par_reads h
    refine ⟨μ, ρ, hh, re, rh, p.imp (fun vs H1 ⟨ν, ρ1, h1, ds, ρ', re1, R1, rd, eb, q⟩ => ?_) fun _ _ z => z⟩
    rcases ds with _ | ⟨d1, _ | ⟨d2, _ | ⟨d3, ds⟩⟩⟩
    · simp [bindT, bindTs] at eb
    · simp [bindT, bindTs] at eb
    · simp only [bindT, bindTs, Option.bind_some, Option.some.injEq] at eb
      subst eb
      obtain ⟨v, vr, rfl, r1, rt⟩ := rd.uncons
      obtain ⟨w, vr2, rfl, r2, rt2⟩ := rt.uncons
      cases rt2.unnil
      exact ⟨v, w, rfl, q _ ((re1.set i r1).set j r2)⟩
    · simp [bindT, bindTs] at eb
theorem s_par3 (x : Sx X W C F cv k) {i j l : Nat} {es : List CE} {y z w : PySem.Str} {a b c : Expr} {py pz pw pt pt2 p : Pos} {kt k2 : Nat} (hi : X.N[i]? = some y) (hj : X.N[j]? = some z) (hl : X.N[l]? = some w) (hij : i ≠ j) (hil : i ≠ l) (hjl : j ≠ l)
    (hy : X.env.scope.names.lookup y = some .local) (hz : X.env.scope.names.lookup z = some .local) (hww : X.env.scope.names.lookup w = some .local)
    (hw : parN X.env.scope [.Name y py, .Name z pz, .Name w pw] [a, b, c] = some (some [y, z, w])) (ha : PA X [a, b, c] (RA X.K cv W (evs F es))) :
    PS X (.Assign [.Tuple [.Name y py, .Name z pz, .Name w pw] kt pt] (.Tuple [a, b, c] k2 pt2) p) (RS X.K cv W (exe F (.asg (.t [.n i, .n j, .n l]) (.tup es)))) :=
  (ps_par3 x.calm x.nd hi hj hl hij hil hjl hy hz hww ha (parN_of x.kd hw) sw_sole).impQ fun D σ H h => by
    obtain ⟨μ, ρ, hh, re, rh, p⟩ := par_reads h
    refine ⟨μ, ρ, hh, re, rh, p.imp (fun vs H1 ⟨ν, ρ1, h1, ds, ρ', re1, R1, rd, eb, q⟩ => ?_) fun _ _ z => z⟩
    rcases ds with _ | ⟨d1, _ | ⟨d2, _ | ⟨d3, _ | ⟨d4, ds⟩⟩⟩⟩
    · simp [bindT, bindTs] at eb
    · simp [bindT, bindTs] at eb
    · simp [bindT, bindTs] at eb
    · simp only [bindT, bindTs, Option.bind_some, Option.some.injEq] at eb
      subst eb
      obtain ⟨v, vr, rfl, r1, rt⟩ := rd.uncons
      obtain ⟨w, vr2, rfl, r2, rt2⟩ := rt.uncons
      obtain ⟨u, vr3, rfl, r3, rt3⟩ := rt2.uncons
      cases rt3.unnil
      exact ⟨v, w, u, rfl, q _ (((re1.set i r1).set j r2).set l r3)⟩
    · simp [bindT, bindTs] at eb
/-- o[i] = e -/
theorem s_seti (x : Sx X W C F cv k) {o i e : CE} {y z v : Expr} {p p' : Pos} (ho : PE X y (RE X.K cv W (ev F o))) (hi : PE X z (RE X.K cv W (ev F i))) (he : PE X v (RE X.K cv W (ev F e))) : PS X (.Assign [.Subscript y z p'] v p) (RS X.K cv W (exe F (.seti o i e))) := by
  have hu : X.A.units + 1 < cLine := by have := x.room.un; omega
  refine ⟨fun pins s σ H D I h => ?_⟩
  have h : RS X.K cv W (fun ρ h => (ev F e ρ h).st ρ fun v h => (ev F o ρ h).st ρ fun d h => (ev F i ρ h).st ρ fun k h => (match setItem d k v h with
    | some h' => S.nx ρ h'
    | none => .bad)) D σ H := by
    obtain ⟨μ, ρ, hh, re, rh, p⟩ := h
    exact ⟨μ, ρ, hh, re, rh, by simp only [exe] at p; exact p⟩
  have hs : swapsWith v (some (.Subscript y z p')) p.line X.env = pure false := by cases v <;> rfl
  refine wpAny_Assign_Subscript (thn (he.run pins s σ H _ I (RS.one (Rel := (Rv X.K · ·)) h)) fun u s1 ⟨b, H1, I1, rb, ν, ρ, h1, d, re, R, rd, q⟩ => ?_) hs
  have p2 : RE X.K cv W (ev F o) σ H1 _ := ⟨ν, ρ, h1, re, R, PostS.st (Rel := (Rv X.K · ·)) q re⟩
  refine thn (ho.run pins s1 σ H1 _ I1 p2) fun ov s2 ⟨b2, H2, I2, rb2, ν2, h2, d2, ex2, R2, rd2, q2⟩ => ?_
  have p3 : RE X.K cv W (ev F i) σ H2 _ := ⟨ν2, ρ, h2, re.ext ex2, R2, PostS.st (Rel := (Rv X.K · ·)) q2 (re.ext ex2)⟩
  refine thn (hi.run pins s2 σ H2 _ I2 p3) fun iv s3 ⟨b3, H3, I3, rb3, ν3, h3, d3, ex3, R3, rd3, q3⟩ => ?_
  split at q3
  · rename_i h' eh
    refine thn (s_item hu (C := fun H' => D.nx σ H') I3 rb2 rb3 rb R3 (Rv.ext ex3 _ _ rd2) rd3 (Rv.ext (ex2.trans ex3) _ _ rd) eh fun H' x1 x2 => q3 ν3 σ H' x1 (((re.ext ex2).ext ex3).ext x1) x2) fun _ s4 ⟨H4, I4, z⟩ => ⟨σ, H4, I4, z⟩
  · exact q3.elim
theorem s_ex {e : CE} {v : Expr} {p : Pos} (he : PE X v (RE X.K cv W (ev F e))) (hs : swapsWith v none p.line X.env = pure false) : PS X (.Expr v p) (RS X.K cv W (exe F (.ex e))) :=
  (ps_expr he hs).impQ fun D σ H ⟨μ, ρ, hh, re, rh, p⟩ => by
    simp only [exe] at p
    exact ⟨μ, ρ, hh, re, rh, (PostS.st (Rel := (Rv X.K · ·)) p re).imp (fun b H' ⟨ν, h', a, ex, R, _, q⟩ => q ν σ H' (Ext.refl _ _) (re.ext ex) R) fun _ _ z => z⟩
theorem s_ret {e : CE} {v : Expr} {p : Pos} (he : PE X v (RE X.K cv W (ev F e))) : PS X (.Return (some v) p) (RS X.K cv W (exe F (.ret e))) :=
  (ps_ret he).impQ fun D σ H ⟨μ, ρ, hh, re, rh, p⟩ => by
    simp only [exe] at p
    exact ⟨μ, ρ, hh, re, rh, (PostS.st (Rel := (Rv X.K · ·)) p re).imp (fun b H' ⟨ν, h', a, ex, R, rd, q⟩ => q b ν H' (Ext.refl _ _) R rd) fun _ _ z => z⟩
theorem s_retN {p : Pos} : PS X (.Return none p) (RS X.K cv W (exe F .retN)) :=
  ps_retN.impQ fun D σ H ⟨μ, ρ, hh, re, rh, p⟩ => by
    simp only [exe] at p
    exact p .non μ H (Ext.refl _ _) rh (by simp only [Rv])
theorem nx_reads {c : CS} {D : Ends} {σ : L2.St} {H : Hp} (hc : ∀ ρ h, exe F c ρ h = .nx ρ h) (h : RS X.K cv W (exe F c) D σ H) : D.nx σ H := by
  obtain ⟨μ, ρ, hh, re, rh, p⟩ := h
  rw [hc] at p
  exact p μ σ H (Ext.refl _ _) re rh
theorem s_pass {p : Pos} : PS X (.Pass p) (RS X.K cv W (exe F .pass)) := ps_pass.impQ fun D σ H h => nx_reads (fun _ _ => by simp only [exe]) h
theorem s_doc {y : PySem.Str} {j : Nat} {p p' : Pos} : PS X (.Expr (.Constant (.str y) j p) p') (RS X.K cv W (exe F .pass)) := ps_doc.impQ fun D σ H h => nx_reads (fun _ _ => by simp only [exe]) h
theorem s_brk {p : Pos} : PS X (.Break p) (RS X.K cv W (exe F .brk)) := ps_break.impQ fun D σ H ⟨μ, ρ, hh, re, rh, p⟩ => by
  simp only [exe] at p
  exact p μ σ H (Ext.refl _ _) re rh
theorem s_cont {p : Pos} : PS X (.Continue p) (RS X.K cv W (exe F .cont)) := ps_continue.impQ fun D σ H ⟨μ, ρ, hh, re, rh, p⟩ => by
  simp only [exe] at p
  exact p μ σ H (Ext.refl _ _) re rh
theorem s_if {c : CE} {a b : List CS} {t : Expr} {x y : List Stmt} {p : Pos} (hc : PT X t (RT X.K cv W fun ρ h => truthR (ev F c ρ h))) (ha : PSs X x (RS X.K cv W (exes F a))) (hb : PSs X y (RS X.K cv W (exes F b))) : PS X (.If t x y p) (RS X.K cv W (exe F (.ife c a b))) :=
  (ps_if hc ha hb).impQ fun D σ H ⟨μ, ρ, hh, re, rh, p⟩ => by
    simp only [exe] at p
    refine ⟨μ, ρ, hh, re, rh, (PostS.st (Rel := fun _ _ a b => a = b) p re).imp (fun b' H' ⟨ν, h', a', ex, R, ab, q⟩ => ?_) fun _ _ z => z⟩
    subst ab
    cases a' with
    | true => exact ⟨ν, ρ, h', re.ext ex, R, q⟩
    | false => exact ⟨ν, ρ, h', re.ext ex, R, q⟩
theorem ss_nil : PSs X [] (RS X.K cv W (exes F [])) := pss_nil.impQ fun D σ H ⟨μ, ρ, hh, re, rh, p⟩ => by
  simp only [exes] at p
  exact p μ σ H (Ext.refl _ _) re rh
theorem ss_cons {c : CS} {cs : List CS} {st : Stmt} {sts : List Stmt} (h : PS X st (RS X.K cv W (exe F c))) (hr : PSs X sts (RS X.K cv W (exes F cs))) : PSs X (st :: sts) (RS X.K cv W (exes F (c :: cs))) :=
  (pss_cons h hr).impQ fun D σ H ⟨μ, ρ, hh, re, rh, p⟩ => by
    simp only [exes] at p
    exact ⟨μ, ρ, hh, re, rh, PostS.seq p⟩
theorem s_while (x : Sx X W C F cv k) {c : CE} {b : List CS} {t : Expr} {y : List Stmt} {p : Pos} (hc : PT X t (RT X.K cv W fun ρ h => truthR (ev F c ρ h))) (hb : PSs X y (RS X.K cv W (exes F b))) : PS X (.While t y [] p) (RS X.K cv W (exe F (.whil c b))) :=
  (ps_while x.ps hc hb).impQ fun D σ H ⟨μ, ρ, hh, re, rh, p⟩ => by
    simp only [exe] at p
    obtain ⟨m, s, e, p⟩ := whilL_some p
    refine ⟨fun m σ H => ∃ κ ρ h s, Re X.K κ H ρ σ ∧ Rh X.K κ H h ∧ turns (fun ρ h => truthR (ev F c ρ h)) (exes F b) m ρ h = some s ∧ PostS X.K cv W κ H s D, ⟨m, μ, ρ, hh, s, re, rh, e, p⟩, ?_⟩
    rintro m σ1 H1 ⟨κ, ρ1, h1, s1, re1, R1, e1, p1⟩
    cases m with
    | zero => simp [turns] at e1
    | succ m =>
      rw [turns] at e1
      refine ⟨κ, ρ1, h1, re1, R1, ?_⟩
      show PostG X.K cv _ κ H1 (truthR (ev F c ρ1 h1)) _ _
      cases hr : truthR (ev F c ρ1 h1) with
      | bad =>
        rw [hr] at e1
        cases e1
        exact p1
      | ex c' h' =>
        rw [hr] at e1
        cases e1
        exact fun ν H' x R => p1 ν σ1 H' x (re1.ext x) R
      | ok t h' =>
        rw [hr] at e1
        intro t' ν H' x R et
        have et : t = t' := et
        subst et
        cases t with
        | false =>
          cases e1
          exact p1 ν σ1 H' x (re1.ext x) R
        | true =>
          rw [if_pos rfl]
          have p1 := PostS.ext p1 x
          refine ⟨fun σ' H'' => ∃ κ ρ h s, Re X.K κ H'' ρ σ' ∧ Rh X.K κ H'' h ∧ turns (fun ρ h => truthR (ev F c ρ h)) (exes F b) m ρ h = some s ∧ PostS X.K cv W κ H'' s D, fun σ' H'' z => ⟨m, Nat.lt_succ_self m, z⟩, ν, ρ1, h', re1.ext x, R, ?_⟩
          simp only at e1
          cases hx : exes F b ρ1 h' with
          | nx ρ2 h2 =>
            rw [hx] at e1
            exact fun ν2 σ2 H2 x2 re2 R2 => ⟨ν2, ρ2, h2, s1, re2, R2, e1, PostS.ext p1 x2⟩
          | ct ρ2 h2 =>
            rw [hx] at e1
            exact fun ν2 σ2 H2 x2 re2 R2 => ⟨ν2, ρ2, h2, s1, re2, R2, e1, PostS.ext p1 x2⟩
          | bk ρ2 h2 =>
            rw [hx] at e1
            cases e1
            exact p1
          | rt d h2 =>
            rw [hx] at e1
            cases e1
            exact p1
          | ex c2 ρ2 h2 =>
            rw [hx] at e1
            cases e1
            exact p1
          | bad =>
            rw [hx] at e1
            cases e1
            exact p1
theorem s_for (x : Sx X W C F cv k) {ik : IK} {es : List CE} {tg : CT} {b : List CS} {t it : Expr} {y : List Stmt} {p : Pos} (hi : PI X t it (iQ X.K cv W F ik es)) (hs : ∀ z, foldedSetIterable it X.env z = pure z) (hg : ckT C X.env.scope tg t = true) (hb : PSs X y (RS X.K cv W (exes F b))) :
    PS X (.For t it y [] p) (RS X.K cv W (exe F (.for ik es tg b))) :=
  (ps_for x.ps x.calm hi (pg_q x.hN x.nd x.calm x.hl tg t hg) hb hs).impQ fun D σ H ⟨μ, ρ, hh, re, rh, p⟩ => by
    simp only [exe] at p
    refine ⟨μ, ρ, hh, re, rh, (PostS.st (Rel := (Rvs X.K · ·)) p re).imp (fun vs H1 ⟨ν, h1, ds, ex, R1, rd, q⟩ => ?_) fun _ _ z => z⟩
    have re1 := re.ext ex
    split at q
    · exact q.elim
    rename_i w hw
    refine ⟨ν, h1, ds, w, R1, rd, hw, fun J H9 xl R9 wk => ?_⟩
    have re1 := re1.ext xl
    have q := PostS.ext q xl
    generalize lockH ik ds h1 = h9 at R9 q
    refine ⟨fun i m σ H2 => m = w.items.length - i ∧ i ≤ w.items.length ∧ ∃ κ ρ h2, Ext ν H9 κ H2 ∧ Re X.K κ H2 ρ σ ∧ Rh X.K κ H2 h2 ∧ PostS X.K cv W κ H2 (forL tg w.stay (exes F b) (w.items.drop i) ρ h2) D, ⟨w.items.length, rfl, Nat.zero_le _, ν, ρ, h9, Ext.refl _ _, re1, R9, q⟩, ?_⟩
    rintro i m σ2 H2 ⟨rfl, hi, κ, ρ2, h2, x2, re2, R2, p2⟩
    by_cases hlt : i < w.items.length
    · have hd : w.items[i]? = some w.items[i] := List.getElem?_eq_getElem hlt
      rw [List.drop_eq_getElem_cons hlt, forL] at p2
      split at p2
      · rename_i st
        split at p2
        · exact p2.elim
        rename_i ρ' eb
        obtain ⟨go, yl⟩ := (wk κ H2 h2 x2 R2 st).1 i _ hd
        refine .inr ⟨go, fun σ' H' => i + 1 ≤ w.items.length ∧ ∃ κ ρ h2, Ext ν H9 κ H' ∧ Re X.K κ H' ρ σ' ∧ Rh X.K κ H' h2 ∧ PostS X.K cv W κ H' (forL tg w.stay (exes F b) (w.items.drop (i + 1)) ρ h2) D, fun σ' H' hI => ⟨w.items.length - (i + 1), by omega, rfl, hI⟩, fun u H3 yy => ?_⟩
        obtain ⟨x3, R3, rx⟩ := yl u H3 yy
        refine ⟨κ, h2, w.items[i], ρ2, ρ', R3, rx, re2.ext x3, eb, fun σ3 re3 _ => ⟨κ, ρ', h2, re3, R3, ?_⟩⟩
        have p2 := PostS.ext p2 x3
        have x23 := x2.trans x3
        cases hx : exes F b ρ' h2 with
        | nx ρ4 h4 =>
          rw [hx] at p2
          exact fun ν4 σ4 H4 x4 re4 R4 => ⟨hlt, ν4, ρ4, h4, x23.trans x4, re4, R4, PostS.ext p2 x4⟩
        | ct ρ4 h4 =>
          rw [hx] at p2
          exact fun ν4 σ4 H4 x4 re4 R4 => ⟨hlt, ν4, ρ4, h4, x23.trans x4, re4, R4, PostS.ext p2 x4⟩
        | bk ρ4 h4 =>
          rw [hx] at p2
          exact p2
        | rt d h4 =>
          rw [hx] at p2
          exact p2
        | ex c ρ4 h4 =>
          rw [hx] at p2
          exact p2
        | bad =>
          rw [hx] at p2
          exact p2
      · exact p2.elim
    · have e : i = w.items.length := by omega
      subst e
      rw [List.drop_length, forL] at p2
      split at p2
      · rename_i st
        exact .inl ⟨(wk κ H2 h2 x2 R2 st).2, p2 κ σ2 H2 (Ext.refl _ _) re2 R2⟩
      · exact p2.elim
end
end Q

/-! QX: statements that pass the check. -/
namespace Q
open PySem PySem.Spec PyProof.Rows L2
section
variable {X : Cx} {C : Ck} {F : Nat → List D → Hc → R D} {cv : Nat → Value} {k : Nat} {W : WX}
/-- X(), X an own exception class without own __init__ -/
theorem pmk_own0 {c : Addr} {bmB : List Value} {B newId initId : String} {x : PySem.Str} {p pos : Pos} (F : ExcBaseFacts B newId initId bmB) (q : PySem.W.excIn X.K c bmB newId = true) (gC : X.mg x = some (.ref c))
    (kC : PySem.W.keepIn X.K (.ref c) = true) (r : Raises X (.ref c)) (hg : Gl X x) (hdb : (x == ("__debug__" : PySem.Str)) = false) : PMk X (.Call (.Name x p) [] [] pos) (fun _ H Q => Q (.ref c) none H) := by
  intro pins s σ H Q I h
  refine wpAny_Call_Name_kw (ld_glob I hg gC ?_ hdb)
  refine PySem.W.callWith_K0 I.kIn kC ?_
  show wpAny _ _ (call (.ref c) []) _ _ _
  obtain ⟨bm, N, nm, qn, bs, hdct, sn, sub, ab, col, dd, k0, k1, k2, k3, k5, mN, hC, hN, hni, T⟩ := exc_obj I.kIn q
  refine wpAny_call_exc_subT F T hC hN hni (fun h' e hm => ?_) (by show 0 ≤ sizeLine; rw [sizeLine_eq]; omega)
  exact mk_of I hm r h (I.hok.gone hm.new)
theorem s_raise (x : Sx X W C F cv k) {c : Nat} {e : Expr} {p : Pos} (h : raiseB C X.env.scope c e = true) : PS X (.Raise (some e) none p) (RS X.K cv W (exe F (.raise c))) := by
  unfold raiseB at h
  split at h
  · rename_i nm p0 p1
    simp only [Bool.and_eq_true, decide_eq_true_eq] at h
    obtain ⟨g, hd, hn⟩ := gl_of h.1
    obtain ⟨ca, ec, hm, kc, rc, B, nI, iI, bm, fc, ei⟩ := x.cls nm c h.2
    refine (ps_raise x.calm x.tk (pmk_own0 fc ei hm kc rc g hd)).impQ fun D σ H ⟨μ, ρ, hh, re, rh, p⟩ => ?_
    simp only [exe] at p
    have := p μ σ H (Ext.refl _ _) re rh none
    rw [ec] at this
    exact this
  · cases h
/-- x = [..] -/
theorem s_comp (x : Sx X W C F cv k) {i : Nat} {fr : Bool} {ik : IK} {es : List CE} {tg : CT} {cs : List CE} {e0 : CE} {own : List Nat} {y : PySem.Str} {py spos : Pos} {e : Expr} (hi : X.N[i]? = some y) (hy : X.env.scope.names.lookup y = some .local)
    (hs : swapsWith e (some (.Name y py)) spos.line X.env = pure true) (h : ck C X.env.scope (.comp fr ik es tg cs e0 own) e = true) : PS X (.Assign [.Name y py] e spos) (tAsg (RE X.K cv W (ev F (.comp fr ik es tg cs e0 own))) (gName i)) := by
  have h' : ∃ elt t it ifs scope p l, e = .ListComp elt [⟨t, it, ifs, 0⟩] scope p ∧ itA C X.env.scope ik it = some l ∧ cks C X.env.scope es l = true ∧ L2.blkC C.N X.env.scope scope (ownN C.N own) = true ∧ ckT C scope tg t = true ∧ tgOk ik tg = true ∧ (∀ i ∈ slotsT tg, i ∈ own) ∧ cks C (kSc scope X.env.scope) cs ifs = true ∧ cs.length ≤ 1 ∧ ck C (kSc scope X.env.scope) e0 elt = true := by
    unfold ck at h
    split at h <;> first | (cases h; done) | (rename_i z1; cases z1; done) | (
      rename_i z1; cases z1; simp only [Bool.and_eq_true, decide_eq_true_eq] at h
      obtain ⟨⟨⟨⟨⟨⟨⟨⟨h1, h2⟩, h3⟩, h4⟩, h5⟩, h6⟩, h7⟩, h8⟩, h9⟩ := h
      subst h1
      split at h2
      · exact ⟨_, _, _, _, _, _, _, rfl, by assumption, h2, h3, h4, h5, by simpa using h6, h7, h8, h9⟩
      · cases h2)
  obtain ⟨elt, t, it, ifs, scope, p, l, rfl, h1, h2, h3, h4, h5, h6, h7, h8, h9⟩ := h'
  have tk := x.tk
  have x' := x
  have x := x.toCxt
  obtain ⟨i1, i2⟩ := snd_it x (tg := t) h1 h2 (snds es X W l x tk h2) (fun a e ha he => by
    subst ha he
    simp only [cks, Bool.and_eq_true, and_true] at h2
    exact (snd a X W e x tk h2).pe) fun z => tgt_tup h4 (tgOk_t h5 z)
  rw [← x.hN] at h3
  refine (ps_setLc (own := ownN X.N own) x.calm x.nd hi hy hs i1 (blkOk_by h3) (g := gQ X.K tg) (fun s H A cl fp => pg_q (X := X.blk s H scope (compEnvC scope cl A X.env) fp) x.hN x.nd x.calm loc_blk tg t h4) (tt := RT X.K cv W0 (evC F cs)) (te := RE X.K cv W0 (ev F e0)) (fun s H A cl fp => ?_) (fun s H A cl fp => ?_) (fun y => i2 _ y)).impQ fun D σ H hq => by rw [own_map]; exact comp_reads h6 hq
  · have xb := x.blk s H scope (compEnvC scope cl A X.env) fp
    cases cs with
    | nil =>
      cases ifs with
      | cons _ _ => simp [cks] at h7
      | nil => exact ⟨fun pins s1 σ H1 Q I hq => pts_nil.run pins s1 σ H1 Q I (by
        obtain ⟨μ, ρ, hh, re, rh, p⟩ := hq
        exact p true μ H1 (Ext.refl _ _) rh rfl)⟩
    | cons c r =>
      cases r with
      | cons _ _ => simp at h8
      | nil =>
        cases ifs with
        | nil => simp [cks] at h7
        | cons i ifs =>
          simp only [cks, Bool.and_eq_true] at h7
          cases ifs with
          | cons _ _ => simp [cks] at h7
          | nil => exact pts_one (snd c _ W0 i xb takes_no h7.1).pt
  · exact (snd e0 _ W0 elt (x.blk s H scope _ fp) takes_no h9).pe
theorem comp_of {e : CE} {elt : Expr} {gs : List Comprehension} {s : Scope} {p : Pos} {sc : Scope} (h : ck C sc e (.ListComp elt gs s p) = true) : ∃ fr ik es tg cs e0 own, e = .comp fr ik es tg cs e0 own := by
  cases e <;> first | exact ⟨_, _, _, _, _, _, _, rfl⟩ | (simp [ck] at h; done)
theorem s_asgs (x : Sx X W C F cv k) {t : CT} {e : CE} {tg v : Expr} {p : Pos} (ht : ckT C X.env.scope t tg = true) (he : ck C X.env.scope e v = true) (ha : asgB X.env.scope t tg v = true) : PS X (.Assign [tg] v p) (RS X.K cv W (exe F (.asg t e))) := by
  have hb : X.env.blockKind = .function := by unfold Env.blockKind; rw [x.kd]; rfl
  have pe := (snd e X W v x.toCxt x.tk he).pe
  cases tg with
  | Name y py =>
    cases t with
    | t _ => simp [ckT] at ht
    | n i =>
      cases v with
      | ListComp elt gs s q =>
        obtain ⟨fr, ik, es, tg, cs, e0, own, rfl⟩ := comp_of he
        have sw : swapsWith (.ListComp elt gs s q) (some (.Name y py)) p.line X.env = pure (X.env.blockKind == .function && X.env.kindOf y == some .local && py.line == q.line && !(s.names.any fun (n, k) => n == y && (k == .local || k == .cell))) := rfl
        cases hc : (X.env.blockKind == .function && X.env.kindOf y == some .local && py.line == q.line && !(s.names.any fun (n, k) => n == y && (k == .local || k == .cell))) with
        | false => exact s_asg x ht pe (by rw [hc] at sw; exact sw) rfl
        | true =>
          rw [hc] at sw
          simp only [Bool.and_eq_true] at hc
          have hy : X.env.kindOf y = some .local := by simpa using hc.1.1.2
          simp only [ckT, Bool.and_eq_true, decide_eq_true_eq] at ht
          refine (s_comp x (i := i) (by rw [x.hN]; exact ht.1) hy sw he).impQ fun D σ H h => ?_
          obtain ⟨μ, ρ, hh, re, rh, p⟩ := asg_reads h
          refine ⟨μ, ρ, hh, re, rh, p.imp (fun b H' ⟨ν, h1, d, ρ1, ρ', R1, rd, re1, eb, q⟩ => ?_) fun _ _ z => z⟩
          simp only [bindT, Option.some.injEq] at eb
          subst eb
          exact q _ (re1.set i rd) fun vs hv => wipe_set (hv i (by simp [slotsT]))
      | SetComp _ _ _ _ => cases e <;> simp [ck] at he
      | DictComp _ _ _ _ _ => cases e <;> simp [ck] at he
      | _ => exact s_asg x ht pe rfl rfl
  | Tuple ts kt pt =>
    cases v with
    | Tuple vs k2 p2 =>
      have : ∃ es, e = .tup es := by cases e <;> first | exact ⟨_, rfl⟩ | simp [ck] at he
      obtain ⟨es, rfl⟩ := this
      simp only [ck] at he
      unfold asgB at ha
      simp only at ha
      split at ha
      · rename_i hp
        exact s_asg x ht pe rfl (parN_of x.kd hp)
      · rename_i ns hp
        split at ha
        · simp only [Bool.and_eq_true, decide_eq_true_eq, loc1] at ha
          obtain ⟨⟨⟨h1, h2⟩, h3⟩, h4⟩ := ha
          subst h1
          simp only [ckT, ckTs, Bool.and_eq_true, decide_eq_true_eq] at ht
          exact s_par2 x (by rw [x.hN]; exact ht.1.1.1) (by rw [x.hN]; exact ht.1.2.1.1) h2 h3 h4 hp (snds es X W _ x.toCxt x.tk he)
        · simp only [Bool.and_eq_true, decide_eq_true_eq, loc1] at ha
          obtain ⟨⟨⟨⟨⟨⟨h1, h2⟩, h3⟩, h4⟩, h5⟩, h6⟩, h7⟩ := ha
          subst h1
          simp only [ckT, ckTs, Bool.and_eq_true, decide_eq_true_eq] at ht
          exact s_par3 x (by rw [x.hN]; exact ht.1.1.1) (by rw [x.hN]; exact ht.1.2.1.1) (by rw [x.hN]; exact ht.1.2.2.1.1) h2 h3 h4 h5 h6 h7 hp (snds es X W _ x.toCxt x.tk he)
        · cases ha
      · cases ha
    | _ => exact s_asg x ht pe rfl rfl
  | _ => cases t <;> simp [ckT] at ht
theorem drop_plain {c : CE} {v : Expr} {l : Nat} {sc : Scope} (h : ck C sc c v = true) (hc : isComp v = false) : swapsWith v none l X.env = pure false := by
  cases v with
  | ListComp _ _ _ _ => cases hc
  | SetComp _ _ _ _ => cases c <;> simp [ck] at h
  | DictComp _ _ _ _ _ => cases c <;> simp [ck] at h
  | _ => rfl
theorem Re.drop {K : PySem.W.Frag} {ν : List Addr} {H : Hp} {m : Nat} : ∀ {ρ : Env} {σ : L2.St}, envOld m ρ = true → Re K ν H ρ σ → Re K (ν.take m) H ρ σ
  | [], σ, _, h => by simpa only [Re] using h
  | none :: ρ, σ, o, h => by
    simp only [Re] at h ⊢
    obtain ⟨v, r, e, _, t⟩ := h
    exact ⟨v, r, e, trivial, Re.drop o t⟩
  | some d :: ρ, σ, o, h => by
    simp only [envOld, Bool.and_eq_true] at o
    simp only [Re] at h ⊢
    obtain ⟨v, r, e, ⟨y, e1, q⟩, t⟩ := h
    exact ⟨v, r, e, ⟨y, e1, Rv.drop _ _ o.1 q⟩, Re.drop o.2 t⟩
theorem Re.unset1 {K : PySem.W.Frag} {μ : List Addr} {H : Hp} : ∀ {ρ : Env} {σ : L2.St} (i : Nat), Re K μ H ρ σ → Re K μ H (ρ.set i none) σ
  | [], σ, i, h => by simpa [Re] using h
  | x :: ρ, σ, i, h => by
    simp only [Re] at h
    obtain ⟨y, z, rfl, q, t⟩ := h
    cases i with
    | zero =>
      simp only [List.set_cons_zero, Re]
      exact ⟨_, _, rfl, trivial, t⟩
    | succ i =>
      simp only [List.set_cons_succ, Re]
      exact ⟨_, _, rfl, q, Re.unset1 i t⟩
theorem Re.wipe1 {K : PySem.W.Frag} {μ : List Addr} {H : Hp} {ρ : Env} {σ : L2.St} (h : Re K μ H ρ σ) : ∀ vs : List Nat, Re K μ H (Q.wipe ρ vs) σ
  | [] => h
  | v :: vs => by
    unfold Q.wipe
    exact Re.unset1 v (Re.wipe1 h vs)
theorem tidyE_reads {μ ν : List Addr} {own : List Nat} {h h' : Hc} {f : Env → Hc → S} {ρ : Env} {σ : L2.St} {H H' : Hp} {D : Ends} {Z : L2.St → Hp → Prop} (R0 : Rh X.K μ H h) (hf : ∀ ρ h, PostS X.K cv W μ H (f ρ h) D → ∀ ν σ H', Ext μ H ν H' → Re X.K ν H' ρ σ → Rh X.K ν H' h → Z σ H')
    (p : PostS X.K cv W μ H (tidyE own h f ρ h') D) (x : Ext μ H ν H') (re : Re X.K ν H' ρ σ) (R : Rh X.K ν H' h') : Z σ H' := by
  unfold tidyE at p
  split at p
  · rename_i hc
    have tk : ν.take h.length = μ := by rw [R0.len]; exact x.take
    refine hf _ _ p μ σ H' x.back ?_ (Rh.drop x R0 R hc.1)
    have := Re.drop hc.2 (Re.wipe1 re own)
    rw [tk] at this
    exact this
  · exact hf _ _ p ν σ H' x (Re.wipe1 re own) R
theorem ss_blk {own : List Nat} {b : List CS} {sts : List Stmt} (hb : PSs X sts (RS X.K cv W (exes F b))) : PSs X sts (RS X.K cv W (exes F [.blk own b])) := hb.impQ fun D σ H ⟨μ, ρ, h, re, rh, p⟩ => by
  refine ⟨μ, ρ, h, re, rh, ?_⟩
  have e : exes F [.blk own b] ρ h = tidyS own h (exes F b ρ h) := by
    rw [exes, exe]
    cases tidyS own h (exes F b ρ h) <;> first | rfl | rw [S.andThen_nx, exes]
  rw [e] at p
  cases hx : exes F b ρ h with
  | nx ρ1 h1 => rw [hx] at p; exact fun ν σ' H' x re' R' => tidyE_reads (f := S.nx) (Z := D.nx) rh (fun _ _ q ν σ H' x re R => q ν σ H' x re R) p x re' R'
  | bk ρ1 h1 => rw [hx] at p; exact fun ν σ' H' x re' R' => tidyE_reads (f := S.bk) (Z := D.bk) rh (fun _ _ q ν σ H' x re R => q ν σ H' x re R) p x re' R'
  | ct ρ1 h1 => rw [hx] at p; exact fun ν σ' H' x re' R' => tidyE_reads (f := S.ct) (Z := D.ct) rh (fun _ _ q ν σ H' x re R => q ν σ H' x re R) p x re' R'
  | rt d h1 => rw [hx] at p; exact p
  | ex c ρ1 h1 => rw [hx] at p; exact p
  | bad => rw [hx] at p; exact p
set_option maxHeartbeats 4000000 in
mutual
theorem sndS (x : Sx X W C F cv k) : ∀ (c : CS) (st : Stmt), ckS C X.env.scope c st = true → PS X st (RS X.K cv W (exe F c))
  | .asg t e, st, h => by
    have h' : ∃ tg v p, st = .Assign [tg] v p ∧ ckT C X.env.scope t tg = true ∧ ck C X.env.scope e v = true ∧ asgB X.env.scope t tg v = true := by
      unfold ckS at h
      split at h <;> first | (cases h; done) | (rename_i z1; cases z1; done) | (rename_i z1; cases z1; simp only [Bool.and_eq_true] at h; exact ⟨_, _, _, rfl, h.1.1, h.1.2, h.2⟩)
    obtain ⟨tg, v, p, rfl, h1, h2, h3⟩ := h'
    exact s_asgs x h1 h2 h3
  | .seti o i e, st, h => by
    have h' : ∃ y z p' v p, st = .Assign [.Subscript y z p'] v p ∧ ck C X.env.scope o y = true ∧ ck C X.env.scope i z = true ∧ ck C X.env.scope e v = true := by
      unfold ckS at h
      split at h <;> first | (cases h; done) | (rename_i z1; cases z1; done) | (rename_i z1; cases z1; simp only [Bool.and_eq_true] at h; exact ⟨_, _, _, _, _, rfl, h.1.1.1.1, h.1.1.1.2, h.1.1.2⟩)
    obtain ⟨y, z, p', v, p, rfl, h1, h2, h3⟩ := h'
    exact s_seti x (snd o X W y x.toCxt x.tk h1).pe (snd i X W z x.toCxt x.tk h2).pe (snd e X W v x.toCxt x.tk h3).pe
  | .ex e, st, h => by
    cases st with
    | Expr v p =>
      simp only [ckS, Bool.and_eq_true, Bool.not_eq_true'] at h
      exact s_ex (snd e X W v x.toCxt x.tk h.1).pe (drop_plain h.1 h.2)
    | _ => simp [ckS] at h
  | .ret e, st, h => by
    have h' : ∃ v p, st = .Return (some v) p ∧ ck C X.env.scope e v = true := by
      unfold ckS at h
      split at h <;> first | (cases h; done) | (rename_i z1; cases z1; done) | (rename_i z1; cases z1; exact ⟨_, _, rfl, h⟩)
    obtain ⟨v, p, rfl, h1⟩ := h'
    exact s_ret (snd e X W v x.toCxt x.tk h1).pe
  | .retN, st, h => by
    have h' : ∃ p, st = .Return none p := by
      unfold ckS at h
      split at h <;> first | (cases h; done) | (rename_i z1; cases z1; done) | exact ⟨_, rfl⟩
    obtain ⟨p, rfl⟩ := h'
    exact s_retN
  | .ife c a b, st, h => by
    cases st with
    | If t y z p =>
      simp only [ckS, Bool.and_eq_true] at h
      exact s_if (snd c X W t x.toCxt x.tk h.1.1).pt (sndSs x a y h.1.2) (sndSs x b z h.2)
    | _ => simp [ckS] at h
  | .for ik es tg b, st, h => by
    have h' : ∃ t it y p l, st = .For t it y [] p ∧ itA C X.env.scope ik it = some l ∧ cks C X.env.scope es l = true ∧ ckT C X.env.scope tg t = true ∧ tgOk ik tg = true ∧ ckSs C X.env.scope b y = true := by
      unfold ckS at h
      split at h <;> first | (cases h; done) | (rename_i z1; cases z1; done) | (
        rename_i z1; cases z1; simp only [Bool.and_eq_true] at h
        obtain ⟨⟨⟨h1, h2⟩, h3⟩, h4⟩ := h
        split at h1
        · exact ⟨_, _, _, _, _, rfl, by assumption, h1, h2, h3, h4⟩
        · cases h1)
    obtain ⟨t, it, y, p, l, rfl, h1, h2, h3, h4, h5⟩ := h'
    obtain ⟨i1, i2⟩ := snd_it x.toCxt (tg := t) h1 h2 (snds es X W l x.toCxt x.tk h2) (fun a e ha he => by
      subst ha he
      simp only [cks, Bool.and_eq_true, and_true] at h2
      exact (snd a X W e x.toCxt x.tk h2).pe) fun z => tgt_tup h3 (tgOk_t h4 z)
    exact s_for x i1 (fun z => i2 _ z) h3 (sndSs x b y h5)
  | .whil c b, st, h => by
    have h' : ∃ t y p, st = .While t y [] p ∧ ck C X.env.scope c t = true ∧ ckSs C X.env.scope b y = true := by
      unfold ckS at h
      split at h <;> first | (cases h; done) | (rename_i z1; cases z1; done) | (rename_i z1; cases z1; simp only [Bool.and_eq_true] at h; exact ⟨_, _, _, rfl, h.1, h.2⟩)
    obtain ⟨t, y, p, rfl, h1, h2⟩ := h'
    exact s_while x (snd c X W t x.toCxt x.tk h1).pt (sndSs x b y h2)
  | .raise c, st, h => by
    have h' : ∃ e p, st = .Raise (some e) none p ∧ raiseB C X.env.scope c e = true := by
      unfold ckS at h
      split at h <;> first | (cases h; done) | (rename_i z1; cases z1; done) | (rename_i z1; cases z1; exact ⟨_, _, rfl, h⟩)
    obtain ⟨e, p, rfl, h1⟩ := h'
    exact s_raise x h1
  | .pass, st, h => by
    have h' : (∃ p, st = .Pass p) ∨ ∃ y j p p', st = .Expr (.Constant (.str y) j p) p' := by
      unfold ckS at h
      split at h <;> first | (cases h; done) | (rename_i z1; cases z1; done) | exact .inl ⟨_, rfl⟩ | exact .inr ⟨_, _, _, _, rfl⟩
    rcases h' with ⟨p, rfl⟩ | ⟨y, j, p, p', rfl⟩
    · exact s_pass
    · exact s_doc
  | .brk, st, h => by
    cases st with
    | Break p => exact s_brk
    | _ => simp [ckS] at h
  | .cont, st, h => by
    cases st with
    | Continue p => exact s_cont
    | _ => simp [ckS] at h
  | .blk own b, st, h => by
    unfold ckS at h
    cases h
theorem sndSs (x : Sx X W C F cv k) : ∀ (cs : List CS) (sts : List Stmt), ckSs C X.env.scope cs sts = true → PSs X sts (RS X.K cv W (exes F cs))
  | [], [], _ => ss_nil
  | c :: cs, st :: sts, h => by
    by_cases hc : ∃ own b, c :: cs = [.blk own b]
    · obtain ⟨own, b, e⟩ := hc
      cases e
      rw [ckSs] at h
      exact ss_blk (sndSs x b (st :: sts) h)
    · rw [ckSs] at h
      · rw [Bool.and_eq_true] at h
        exact ss_cons (sndS x c st h.1) (sndSs x cs sts h.2)
      · exact fun own b e1 e2 => hc ⟨own, b, by rw [e1, e2]⟩
  | [], _ :: _, h => by simp [ckSs] at h
  | .blk own b :: [], [], h => by
    rw [ckSs] at h
    exact ss_blk (sndSs x b [] h)
  | .blk own b :: c2 :: cs, [], h => by simp [ckSs] at h
  | .asg _ _ :: cs, [], h | .seti _ _ _ :: cs, [], h | .ex _ :: cs, [], h | .ret _ :: cs, [], h | .retN :: cs, [], h | .ife _ _ _ :: cs, [], h | .for _ _ _ _ :: cs, [], h | .whil _ _ :: cs, [], h | .raise _ :: cs, [], h | .pass :: cs, [], h | .brk :: cs, [], h | .cont :: cs, [], h => by simp [ckSs] at h
end
end
end Q

/-! QY: calls of defs. -/
namespace Q
open PySem PySem.Spec PyProof.Rows L2
/-- a def of the text and its clean side -/
def DefA (K : PySem.W.Frag) (C : Ck) (f : Addr) (F : Fn) : Prop :=
  ∃ (name qual : PySem.Str) (params : Arguments) (body : List Stmt) (scope : Scope) (dV kV doc pm cdv ct oc : Value) (an od : Option Addr) (osl : Array (Option Value)) (ps : List PySem.Str),
    K.lookup f = some ⟨oc, od, .func (PySem.W.fnOf name qual params body scope dV kV doc pm an cdv ct), osl⟩ ∧ PySem.W.codeIn K cdv qual = true ∧ FnScope C.N ps scope ∧
    (∀ us : List Value, us.length = ps.length → bindArgs (PySem.W.fnOf name qual params body scope dV kV doc pm an cdv ct) ⟨us, []⟩ = pure (ps.zip us)) ∧ ckSs C scope F.body body = true ∧ ps.length = F.np ∧ C.N.length = F.ns
/-- the world of a law: its defs, classes, names -/
structure Wd (K : PySem.W.Frag) (mg : PySem.Str → Option Value) (cv : Nat → Value) (T : Tab) (fa : Nat → Addr) (Cs : Nat → Ck) : Prop where
  dfs : ∀ f F, T f = some F → DefA K (Cs f) (fa f) F
  fns : ∀ f, (∃ F, T f = some F) → ∀ x g n, (Cs f).names.lookup x = some (g, n) → mg x = some (.ref (fa g)) ∧ PySem.W.keepIn K (.ref (fa g)) = true ∧ ∀ G, T g = some G → G.np = n
  free : ∀ f, (∃ F, T f = some F) → ∀ y ∈ (Cs f).frees, mg y = none
  cls : ∀ f, (∃ F, T f = some F) → ∀ x c, (Cs f).clss.lookup x = some c → ∃ ca, cv c = .ref ca ∧ mg x = some (.ref ca) ∧ PySem.W.keepIn K (.ref ca) = true ∧ PySem.W.subIn K (.ref ca) (.type "BaseException") = some true ∧ PySem.W.typeIn K (.ref ca) = some (.type "type") ∧ ∃ B newId initId bmB, ExcBaseFacts B newId initId bmB ∧ PySem.W.excIn K ca bmB newId = true
  con : ∀ f, (∃ F, T f = some F) → ∀ x d, (Cs f).consts.lookup x = some d → ∃ u v, mg x = some u ∧ RelV v u ∧ ∀ μ H, Rv K μ H d v
theorem guards_deeper {A : Around} {env : PySem.Env} (h : A.guards = some []) : (A.deeper env).guards = some [] := h
theorem leave_ok {K : PySem.W.Frag} {cv : Nat → Value} {μ ν : List Addr} {H H' : Hp} {fz : Bool} {h h' : Hc} {d : D} {v : V} {C : VK} {W : Value → Hp → Prop} (R0 : Rh K μ H h) (p : PostG K cv (Rv K · ·) μ H (leave fz h h' d) C W) (x : Ext μ H ν H') (R : Rh K ν H' h') (rd : Rv K ν H' d v) : C v H' := by
  have tk : ν.take h.length = μ := by rw [R0.len]; exact x.take
  have hm : h.length ≤ ν.length := by
    have R0 := R0.len
    rw [← tk, List.length_take] at R0
    omega
  have key : ∀ e : D, (kept h h' = true ∧ e.old h.length = true → Rv K μ H' e v) → PostG K cv (Rv K · ·) μ H (if kept h h' = true ∧ e.old h.length = true then .ok e (h'.take h.length) else .ok d h') C W → C v H' := fun e he p => by
    split at p
    · rename_i hc
      exact p v μ H' x.back (Rh.drop x R0 R hc.1) (he hc)
    · exact p v ν H' x R rd
  unfold leave at p
  cases fz with
  | true =>
    refine key _ (fun hc => ?_) p
    have := Rv.frost R hm 3 d v rd hc.2
    rw [tk] at this
    exact this
  | false =>
    refine key _ (fun hc => ?_) p
    have := Rv.drop (m := h.length) d v hc.2 rd
    rw [tk] at this
    exact this
theorem leaveX_ok {K : PySem.W.Frag} {cv : Nat → Value} {μ ν : List Addr} {H H' : Hp} {h h' : Hc} {c : Nat} {C : VK} {W : Value → Hp → Prop} (R0 : Rh K μ H h) (p : PostG K cv (Rv K · ·) μ H (leaveX h h' c) C W) (x : Ext μ H ν H') (R : Rh K ν H' h') : W (cv c) H' := by
  unfold leaveX at p
  split at p
  · rename_i hc
    exact p μ H' x.back (Rh.drop x R0 R hc)
  · exact p ν H' x R
section
variable {P : Program} {w : World} {K : PySem.W.Frag} {mg : PySem.Str → Option Value} {base : Heap} {cv : Nat → Value} {T : Tab} {fa : Nat → Addr} {Cs : Nat → Ck}
/-- the defs run as the clean evaluator says -/
theorem fn_q (hw : Wd K mg cv T fa Cs) : ∀ (n : Nat) (f : Nat) (np : Nat), (∀ F, T f = some F → F.np = np) → FnQ P w K mg base cv n (fa f) np (runF T n f)
  | 0, f, np, _ => fun A outer s H us vs C W μ h ds hr hg e0 r hl R rd p => by
    rw [runF] at p
    exact p.elim
  | n + 1, f, np, hnp => fun A outer s H us vs C W μ h ds hr hg e0 r hl R rd p => by
    rw [runF] at p
    split at p
    · exact p.elim
    rename_i F hF
    by_cases hdl : ds.length = F.np
    case neg => rw [if_neg hdl] at p; exact p.elim
    rw [if_pos hdl] at p
    obtain ⟨name, qual, params, body, scope, dV, kV, doc, pm, cdv, ct, oc, an, od, osl, ps, lk, hcd, S, hbind, hck, hps, hns⟩ := hw.dfs f F hF
    have hl' : vs.length = ps.length := by rw [← rd.length, hdl, hps]
    have hul : us.length = ps.length := by rw [← r.length, hl']
    have KX : K.In s.heap := e0.mod.kin.keeps fun b o e => (e0.bs b o e).1
    have lim : s.heap.NoLimit := e0.mod.nolimit.keeps fun b o e => (e0.bs b o e).1
    have hkind : ∀ y ∈ ps.zip us, scope.names.lookup y.1 = some .local ∨ (scope.names.lookup y.1 = some .cell ∧ ((cellsFrom (s.heap.objs.size + 1) scope.names []).lookup y.1).isSome = true) := fun ⟨n, v⟩ hy => by
      rcases S.par n (List.of_mem_zip hy).1 with q | q
      · exact .inl q
      · exact .inr ⟨q, PySem.W.cellsFrom_some _ _ _ (.inl q)⟩
    have hb : BindsTo s (PySem.W.fnOf name qual params body scope dV kV doc pm an cdv ct) ⟨us, []⟩ (ps.zip us) := .of_eq (hbind us hul)
    refine codeAny_call_function hr.depth (KX _ _ lk) rfl S.co S.gen rfl (PySem.W.codeRec_of KX hcd) (hb _ _ _ _ ?_)
    refine wpAny_newFunctionEnv_cells S.kind hkind fun env he s1 x => ?_
    subst he
    refine ⟨lim.keeps x.toInCall.keep, codeAny_func ?_⟩
    let E : XK := fun c d H' => W c H'
    have I : Inv (cxOf (L2.CX P w) P w K mg base (Cs f).N qual scope (fa f) cdv A outer s H E) [] (start (Cs f).N vs) H s1 := inv_start S hr.hd e0 hl' r x
    have hT : ∃ F, T f = some F := ⟨F, hF⟩
    have X : Sx (cxOf (L2.CX P w) P w K mg base (Cs f).N qual scope (fa f) cdv A outer s H E) (fun c d _ H' => W c H') (Cs f) (runF T n) cv n := {
      hN := rfl
      nd := S.nd
      calm := rfl
      room := hr.deeper _
      gd := guards_deeper hg
      fns := fun x g m hx => by
        obtain ⟨h1, h2, h3⟩ := hw.fns f hT x g m hx
        exact ⟨fa g, h1, h2, fn_q hw n g m h3⟩
      free := hw.free f hT
      cls := fun x c hx => by
        obtain ⟨ca, h1, h2, h3, h4, h5, h6⟩ := hw.cls f hT x c hx
        exact ⟨ca, h1, h2, h3, raises_own h4 h5, h6⟩
      con := hw.con f hT
      tk := takes_of (E := E) rfl rfl rfl rfl
      ps := passes_of rfl
      kd := S.kind
      hl := fun x hx => ⟨loc_of hx, .inl rfl⟩ }
    have st := sndSs X F.body body hck
    have hq : RS K cv (fun c d _ H' => W c H') (exes (runF T n) F.body) { nx := fun _ H' => C .non H', rt := C } (start (Cs f).N vs) H := by
      refine ⟨μ, ds.map some ++ List.replicate (F.ns - F.np) none, h, ?_, R, ?_⟩
      · have := Re.start (F.ns - F.np) rd
        unfold L2.start
        rw [hns, hl', hps]
        exact this
      · cases hx : exes (runF T n) F.body (ds.map some ++ List.replicate (F.ns - F.np) none) h with
        | rt d h' =>
          rw [hx] at p
          exact fun v ν H' x R' rd' => leave_ok R p x R' rd'
        | nx ρ h' =>
          rw [hx] at p
          exact fun ν σ H' x _ R' => leave_ok R p x R' (by simp only [Rv])
        | ex c ρ h' =>
          rw [hx] at p
          exact fun ν σ H' x _ R' d => leaveX_ok R p x R'
        | bk ρ h' => rw [hx] at p; exact p.elim
        | ct ρ h' => rw [hx] at p; exact p.elim
        | bad => rw [hx] at p; exact p.elim
    refine wpAny_mono (st.run [] s1 (start (Cs f).N vs) H _ I hq) (fun fl s' hs => ?_) fun e s' hs => hs
    have fin : ∀ {σ' : L2.St} {H' : Hp} {v : V} {u : Value}, Inv (cxOf (L2.CX P w) P w K mg base (Cs f).N qual scope (fa f) cdv A outer s H E) [] σ' H' s' → RelV v u → C v H' → L2.CE outer P w H s C u s' :=
      fun {σ' H' v u} J rv q => ⟨v, H', J.os, J.bare, J.base, J.hok, rv, q⟩
    cases fl with
    | ret u =>
      obtain ⟨v, σ', H', J, rv, q⟩ := hs
      exact fin J rv q
    | next =>
      obtain ⟨σ', H', J, q⟩ := hs
      exact fin (v := V.non) (u := Value.none) J rfl q
    | brk =>
      obtain ⟨_, _, _, q⟩ := hs
      exact False.elim q
    | cont =>
      obtain ⟨_, _, _, q⟩ := hs
      exact False.elim q
end
end Q

/-! QZ: the law's end. -/
namespace Q
open PySem PySem.Spec PyProof.Rows L2
theorem lookup_zip : ∀ {ps : List PySem.Str} {us : List Value} {n : PySem.Str}, us.length = ps.length → n ∈ ps → ((ps.zip us).lookup n).isSome = true
  | [], _, _, _, h => nomatch h
  | p :: ps, [], _, e, _ => by simp at e
  | p :: ps, u :: us, n, e, h => by
    rw [List.zip_cons_cons, List.lookup_cons]
    split
    · rfl
    · rename_i hne
      rcases List.mem_cons.mp h with rfl | h
      · simp at hne
      · exact lookup_zip (by simpa using e) h
theorem map_zip : ∀ {ps : List PySem.Str} {us : List Value} {l : List (PySem.Str × Value)}, us.length = ps.length → ps.Nodup → (∀ n ∈ ps, l.lookup n = (ps.zip us).lookup n) → ps.filterMap (fun n => (l.lookup n).map (n, ·)) = ps.zip us
  | [], [], _, _, _, _ => rfl
  | [], _ :: _, _, e, _, _ => by simp at e
  | p :: ps, [], _, e, _, _ => by simp at e
  | p :: ps, u :: us, l, e, nd, h => by
    have h1 : l.lookup p = some u := by rw [h p List.mem_cons_self]; simp
    rw [List.filterMap_cons, h1, List.zip_cons_cons]
    simp only [Option.map_some]
    rw [map_zip (us := us) (by simpa using e) (List.nodup_cons.mp nd).2 fun n hn => ?_]
    rw [h n (List.mem_cons_of_mem _ hn), List.zip_cons_cons, List.lookup_cons]
    have : (n == p) = false := beq_eq_false_iff_ne.mpr fun z => (List.nodup_cons.mp nd).1 (z ▸ hn)
    rw [this]
theorem bind_plain {fd : FuncData} {ps : List PySem.Str} {us : List Value} (h1 : fd.params.posonlyargs = []) (h2 : fd.params.args.map (·.arg) = ps) (h3 : fd.params.vararg = none) (h4 : fd.params.kwonlyargs = []) (h5 : fd.params.kwarg = none) (h6 : fd.defaults = .none) (nd : ps.Nodup) (hl : us.length = ps.length) :
    bindArgs fd ⟨us, []⟩ = pure (ps.zip us) := by
  have hmiss : (ps.filter fun n => ((ps.zip us).lookup n).isNone) = [] := by
    rw [List.filter_eq_nil_iff]
    intro n hn
    have := lookup_zip hl hn
    cases q : (ps.zip us).lookup n with
    | none => rw [q] at this; cases this
    | some _ => simp
  unfold bindArgs
  simp only [h1, h2, h3, h4, h5, h6, List.map_nil, List.nil_append]
  simp only [List.append_nil, List.length_map, hl, seqItems?, List.forIn_nil]
  have e1 : ∀ {α β : Type} (a : α) (f : α → Sem β), (pure a : Sem α) >>= f = f a := fun _ _ => rfl
  have e3 : ∀ {β : Type} (f : Option (Array Value) → Sem β), ((do notAStandIn Value.none; pure none) >>= f) = f none := fun _ => rfl
  simp only [e1, e3]
  have e4 : (decide (ps.length > ps.length) && (none : Option Arg).isNone) = false := by simp
  have e5 : (none : Option (Array Value)).getD #[] = #[] := rfl
  rw [e4, if_neg Bool.false_ne_true]
  simp only [e5, List.length_nil, Nat.zero_sub, List.drop_nil, Nat.sub_zero, List.take_length, hmiss, List.isEmpty_nil, Bool.not_true, Bool.false_eq_true, if_false, List.zip_nil_right, List.forIn_nil, e1, map_zip hl nd fun _ _ => rfl]
end Q

/-! QW: the law's world from the head's facts; the law's end. -/
namespace Q
open PySem PySem.Spec PyProof.Rows L2
/-- one def: its name, names, parameters, clean code, text -/
structure Df where
  id : Nat
  nm : PySem.Str
  N : List PySem.Str
  ps : List PySem.Str
  F : Fn
  st : Stmt
structure Lw where
  dfs : List Df
  clss : List (PySem.Str × Nat)
  frees : List PySem.Str
  nums : List (PySem.Str × D)
/-- a module's constant as a fact -/
def conF (p : PySem.Str × D) : He.Fa := match p.2 with
  | .int i => .int p.1 i
  | .str z => .str p.1 z
  | _ => .free p.1
def isCon : D → Bool
  | .int _ => true
  | .str _ => true
  | _ => false
namespace Lw
variable (L : Lw)
def names : List (PySem.Str × Nat × Nat) := L.dfs.map fun d => (d.nm, d.id, d.F.np)
def at_ (i : Nat) : Option Df := L.dfs.find? fun d => d.id == i
def C0 (N : List PySem.Str) : Ck := ⟨N, L.names, L.frees, L.clss, L.nums⟩
def fn : List He.DefD := L.dfs.map fun d => ⟨(d.nm, none), d.nm, d.nm, defArgs d.st, defBody d.st, defScope d.st, [], []⟩
def fa : List He.Fa := L.dfs.map (fun d => .glo d.nm) ++ (L.frees.map .free ++ (L.clss.map (fun p => .glo p.1) ++ (L.clss.map (fun p => .exc p.1) ++ L.nums.map conF)))
def T : Tab := fun i => (L.at_ i).map (·.F)
def Cs (i : Nat) : Ck := L.C0 (match L.at_ i with
  | some d => d.N
  | none => [])
def ad (K : PySem.W.Frag) (i : Nat) : Addr := match L.at_ i with
  | some d => He.ga K d.nm
  | none => 0
def cv (K : PySem.W.Frag) (c : Nat) : Value := match L.clss.find? (fun p => p.2 == c) with
  | some p => .ref (He.ga K p.1)
  | none => .none
/-- what is checked of a def -/
def dfB (d : Df) : Bool :=
  let sc := defScope d.st
  let a := defArgs d.st
  (decide (sc.kind = .function) && !sc.isCoroutine && !sc.isGenerator && decide d.N.Nodup && decide (d.N.take d.ps.length = d.ps) && d.ps.all (locB sc) && sc.names.all fun y => decide (y.2 ≠ .free)) &&
    (a.posonlyargs.isEmpty && decide (a.args.map (·.arg) = d.ps) && a.vararg.isNone && a.kwonlyargs.isEmpty && a.kwarg.isNone && decide (d.ps.length = d.F.np) && decide (d.N.length = d.F.ns)) && (match L.at_ d.id with
    | some e => decide (e.nm = d.nm) && decide (e.F.np = d.F.np)
    | none => false) && ckSs (L.C0 d.N) sc d.F.body (defBody d.st)
def okB : Bool := (L.dfs.all L.dfB && L.clss.all fun p => (match L.clss.find? (fun q => q.2 == p.2) with
  | some q => decide (q.1 = p.1)
  | none => false)) && L.nums.all fun p => isCon p.2
end Lw
theorem lookup_mem {β : Type} : ∀ {l : List (PySem.Str × β)} {a : PySem.Str} {b : β}, l.lookup a = some b → (a, b) ∈ l
  | [], _, _, h => nomatch h
  | (x, y) :: l, a, b, h => by
    rw [List.lookup_cons] at h
    split at h
    · rename_i e
      cases h
      rw [beq_iff_eq.mp e]
      exact List.mem_cons_self
    · exact List.mem_cons_of_mem _ (lookup_mem h)
theorem zip_at {α : Type} {l : List α} {x : α} {i : Nat} (h : (x, i) ∈ l.zipIdx) : l[i]? = some x := by
  simpa using List.mem_zipIdx_iff_getElem?.mp h
section
variable {L : Lw} {K : PySem.W.Frag} {h : Heap} {mg : PySem.Str → Option Value}
theorem fact_of (c : He.SaysD L.fa L.fn K) {f : He.Fa} (hf : f ∈ L.fa) : f.ok K = true := by
  obtain ⟨i, hi⟩ := List.getElem?_of_mem hf
  exact c.fact i hi
theorem df_ok (X : K.In h) (G : h.Ns mainGlobals mg) (c : He.SaysD L.fa L.fn K) (ok : L.okB = true) {d : Df} (hm : d ∈ L.dfs) : DefA K (L.C0 d.N) (He.ga K d.nm) d.F ∧ mg d.nm = some (.ref (He.ga K d.nm)) ∧ PySem.W.keepIn K (.ref (He.ga K d.nm)) = true ∧ ∃ e, L.at_ d.id = some e ∧ e.nm = d.nm ∧ e.F.np = d.F.np := by
  obtain ⟨i, hd⟩ := List.getElem?_of_mem hm
  have k := List.all_eq_true.mp (Bool.and_eq_true_iff.mp (Bool.and_eq_true_iff.mp ok).1).1 d hm
  unfold Lw.dfB at k
  simp only [Bool.and_eq_true, decide_eq_true_eq, Bool.not_eq_true', List.all_eq_true, List.isEmpty_iff, Option.isNone_iff_eq_none] at k
  obtain ⟨⟨⟨⟨⟨⟨⟨⟨⟨a1, a2⟩, a3⟩, a4⟩, a5⟩, a6⟩, a7⟩, ⟨⟨⟨⟨⟨⟨b1, b2⟩, b3⟩, b4⟩, b5⟩, b6⟩, b7⟩⟩, k1⟩, k2⟩ := k
  obtain ⟨fd, F⟩ := c.def_ i (d := ⟨(d.nm, none), d.nm, d.nm, defArgs d.st, defBody d.st, defScope d.st, [], []⟩) (by unfold Lw.fn; rw [List.getElem?_map, hd]; rfl)
  have S : FnScope d.N d.ps (defScope d.st) := ⟨a1, a2, a3, a4, a5, fun x hx => loc_of (a6 x hx), a7⟩
  obtain ⟨oc, od, dV, kV, doc, pm, an, cdv, ct, osl, rfl, lk, hcd, hD, hK⟩ := F.ex
  have nd : d.ps.Nodup := by rw [← a5]; exact a4.sublist (List.take_sublist _ _)
  refine ⟨⟨d.nm, d.nm, defArgs d.st, defBody d.st, defScope d.st, dV, kV, doc, pm, cdv, ct, oc, an, od, osl, d.ps, lk, hcd, S, fun us hl => ?_, k2, b6, b7⟩, He.glo_ok X G (fact_of c (List.mem_append_left _ (List.mem_map.mpr ⟨d, hm, rfl⟩))), F.kp, ?_⟩
  · refine bind_plain b1 b2 b3 b4 b5 ?_ nd hl
    rcases hD with ⟨_, e⟩ | ⟨e, _⟩
    · exact e
    · exact absurd rfl e
  · split at k1
    · rename_i e he
      simp only [Bool.and_eq_true, decide_eq_true_eq] at k1
      exact ⟨e, he, k1⟩
    · cases k1
theorem wd_of (X : K.In h) (G : h.Ns mainGlobals mg) (c : He.SaysD L.fa L.fn K) (ok : L.okB = true) : Wd K mg (L.cv K) L.T (L.ad K) L.Cs := by
  have tab : ∀ {f : Nat} {F : Fn}, L.T f = some F → ∃ d, L.at_ f = some d ∧ d.F = F := fun {f F} e => Option.map_eq_some_iff.mp e
  have in1 : ∀ {f : He.Fa}, f ∈ L.frees.map He.Fa.free ++ (L.clss.map (fun p => .glo p.1) ++ (L.clss.map (fun p => .exc p.1) ++ L.nums.map conF)) → f.ok K = true := fun {f} hf => fact_of c (List.mem_append_right _ hf)
  have in2 : ∀ {f : He.Fa}, f ∈ L.clss.map (fun p => He.Fa.glo p.1) ++ (L.clss.map (fun p => .exc p.1) ++ L.nums.map conF) → f.ok K = true := fun {f} hf => in1 (List.mem_append_right _ hf)
  have in3 : ∀ {f : He.Fa}, f ∈ L.clss.map (fun p => He.Fa.exc p.1) ++ L.nums.map conF → f.ok K = true := fun {f} hf => in2 (List.mem_append_right _ hf)
  refine ⟨fun f F e => ?_, fun f _ x g n e => ?_, fun f _ y hy => ?_, fun f _ x i e => ?_, fun f _ x d e => ?_⟩
  · obtain ⟨d, hd, rfl⟩ := tab e
    have := (df_ok X G c ok (List.mem_of_find?_eq_some hd)).1
    unfold Lw.Cs Lw.ad
    rw [hd]
    exact this
  · obtain ⟨p, hp, e⟩ := List.mem_map.mp (lookup_mem e)
    simp only [Prod.mk.injEq] at e
    obtain ⟨rfl, rfl, rfl⟩ := e
    obtain ⟨_, h2, h3, e, he, e1, e2⟩ := df_ok X G c ok hp
    unfold Lw.ad
    rw [he]
    refine ⟨by dsimp only; rw [e1]; exact h2, by dsimp only; rw [e1]; exact h3, fun G hG => ?_⟩
    obtain ⟨d', hd', rfl⟩ := tab hG
    rw [he] at hd'
    cases hd'
    exact e2
  · exact He.free_ok X G (in1 (List.mem_append_left _ (List.mem_map.mpr ⟨y, hy, rfl⟩)))
  · have hm : (x, i) ∈ L.clss := lookup_mem e
    obtain ⟨c1, c2, c3, c4⟩ := He.exc_ok (in3 (List.mem_append_left _ (List.mem_map.mpr ⟨(x, i), hm, rfl⟩)))
    refine ⟨He.ga K x, ?_, He.glo_ok X G (in2 (List.mem_append_left _ (List.mem_map.mpr ⟨(x, i), hm, rfl⟩))), c2, c3, c4, _, _, _, _, PySem.F.excBase_ValueError, c1⟩
    have k := List.all_eq_true.mp (Bool.and_eq_true_iff.mp (Bool.and_eq_true_iff.mp ok).1).2 (x, i) hm
    unfold Lw.cv
    split at k
    · rename_i q hq
      rw [hq]
      show Value.ref (He.ga K q.1) = _
      rw [of_decide_eq_true k]
    · cases k
  · have hp : (x, d) ∈ L.nums := lookup_mem e
    have hk := List.all_eq_true.mp (Bool.and_eq_true_iff.mp ok).2 (x, d) hp
    have hf := in3 (List.mem_append_right _ (List.mem_map.mpr ⟨(x, d), hp, rfl⟩))
    cases d with
    | int i =>
      obtain ⟨t, ht⟩ := He.int_ok X G hf
      exact ⟨_, .int i, ht, ⟨t, rfl⟩, fun μ H => by simp only [Rv]⟩
    | str z =>
      obtain ⟨t, ht⟩ := He.str_ok X G hf
      exact ⟨_, .str z, ht, ⟨t, rfl⟩, fun μ H => by simp only [Rv]⟩
    | _ => cases hk
end
/-- the law's def is called with the script -/
theorem law_q {P : Program} {w : World} {K : PySem.W.Frag} {mg mb : PySem.Str → Option Value} {cv : Nat → Value} {k : Nat} {fa a : Addr} {f : List D → Hc → R D} {z : Shared} {vs : List Value} {ns : List Int} {h' : Hc}
    (KX : K.In z.heap) (gm : z.heap.Ns mainGlobals mg) (gb : z.heap.Ns builtinsNs mb) (hbb : ∀ x : PySem.Str, x ≠ "__name__" → mb x = bootBuiltins x) (lim : z.heap.NoLimit) (gg : z.gens = #[])
    (ha : z.heap.get? a = some { cls := .type "list", data := .seq vs.toArray }) (hi : IntsAre vs ns) (hl : ns.length ≤ sizeLine) (room : Room k callerA)
    (F : ∀ base : Heap, K.In base → base.Ns mainGlobals mg → FnQ P w K mg base cv k fa 1 f) (he : f [.scr ns] [] = .ok (.bl true) h') :
    codeAny (model P w) callerA (.call (.ref fa) ⟨[.ref a], []⟩) (fun r t => r = .ok (.ret (.bool true)) ∧ OldK z.heap t.heap ∧ t.os = z.os ∧ AllBare t.gens) z := by
  have vi := vals_ints hi
  have go : ∀ T : Hp, Only T → Rv K [] T (.scr ns) (.ref a) → HOk P w T z.heap → (∀ b, T b ≠ none → b = a) → (T a ≠ none → K.lookup a = none) →
      codeAny (model P w) callerA (.call (.ref fa) ⟨[.ref a], []⟩) (fun r t => r = .ok (.ret (.bool true)) ∧ OldK z.heap t.heap ∧ t.os = z.os ∧ AllBare t.gens) z := by
    intro T only scr okT isA notK
    have free : ∀ {b : Addr} {o : Obj} {es : Array DictEntry} {ep : Nat}, z.heap.get? b = some o → o.data = .dict es ep → T b = none := fun {b o es ep} e d => by
      cases q : T b with
      | none => rfl
      | some u =>
        have eb := isA b (by rw [q]; exact nofun)
        rw [eb, ha] at e
        cases e
        exact nomatch (show Data.seq vs.toArray _ = Data.dict es ep from d)
    have nsT : ∀ {b : Addr} {m : PySem.Str → Option Value}, z.heap.Ns b m → (hidT z.heap T).Ns b m := fun {b m} ⟨o, es, ep, e, d, r⟩ => ⟨o, es, ep, hidT_get e (free e d), d, r⟩
    have inT : K.In (hidT z.heap T) := fun b o e => hidT_get (KX b o e) (by
      cases q : T b with
      | none => rfl
      | some u =>
        have eb := isA b (by rw [q]; exact nofun)
        rw [eb] at e q
        rw [notK (by rw [q]; exact nofun)] at e
        cases e)
    have md : Mod K mg (hidT z.heap T) := ⟨inT, nsT gm, ⟨mb, nsT gb, hbb⟩, let ⟨mc, h1, h2⟩ := lim; ⟨mc, nsT h1, h2⟩⟩
    have env : Env0 P w K mg (hidT z.heap T) callerA [] z T := ⟨rfl, md, fun b o e => of_hidT e, Nat.le_of_eq (hidT_size _ _), trivial, fun b hb => (nomatch (show b ∈ ([] : List Addr) from hb)), okT, .of_eq gg⟩
    have R0 : Rh K [] T [] := ⟨rfl, List.nodup_nil, fun n o b e => by simp at e⟩
    refine codeAny_mono (F _ inT (nsT gm) callerA [] z T [.ref a] [.ref a] (fun v _ => v = .bl true) (fun _ _ => False) [] [] [.scr ns] room rfl env (.cons rfl .nil) rfl R0 (Rvs.one scr) ?_) fun r t hr => ?_
    · rw [he]
      intro v ν T' _ _ rv
      simpa only [Rv] using rv
    · cases r with
      | error e =>
        obtain ⟨_, _, _, _, _, _, _, _, _, _, _, _, no⟩ := hr
        exact no.elim
      | ok fl =>
        cases fl with
        | ret u =>
          obtain ⟨v, T', os, bare, un, okT', ru, ev⟩ := hr
          cases (show v = .bl true from ev)
          cases (show u = Value.bool true from ru)
          refine ⟨rfl, OldK.of_keep fun b o e => ?_, os, bare⟩
          cases q : T b with
          | none => exact un.keep b o e q (fun y => (nomatch (show b ∈ ([] : List Addr) from y))) (by simp)
          | some u =>
            rcases only b with y | ⟨ob, xs, y⟩
            · rw [q] at y
              cases y
            · obtain ⟨e1, _⟩ := okT b _ y
              obtain ⟨e2, _⟩ := okT' b _ (un.frzs b ob _ y)
              rw [e] at e1
              cases e1
              exact e2
        | next => exact False.elim hr
        | brk => exact False.elim hr
        | cont => exact False.elim hr
  cases hk : K.lookup a with
  | some o =>
    have e := KX a o hk
    rw [ha] at e
    cases e
    refine go (fun _ => none) (fun _ => .inl rfl) ?_ (fun b u y => nomatch (show (none : Option HO) = some u from y)) (fun b y => absurd rfl y) fun y => absurd rfl y
    simp only [Rv]
    exact ⟨a, rfl, .inr ⟨_, vs.toArray, _, hk, rfl, rfl, rfl, by rw [List.size_toArray, hi.length]; exact hl, vi⟩⟩
  | none =>
    refine go (fun b => if b = a then some (.frz { cls := .type "list", data := .seq vs.toArray } (.lst (ns.map V.int))) else none) (fun b => ?_) ?_ (fun b u y => ?_) (fun b y => ?_) fun _ => hk
    · by_cases hb : b = a
      · exact .inr ⟨_, _, if_pos hb⟩
      · exact .inl (if_neg hb)
    · simp only [Rv]
      exact ⟨a, rfl, .inl ⟨_, if_pos rfl⟩⟩
    · by_cases hb : b = a
      · cases (if_pos hb).symm.trans y
        rw [hb]
        exact ⟨ha, by rw [List.length_map]; exact hl, vs, _, vi, ha⟩
      · cases (if_neg hb).symm.trans y
    · by_cases hb : b = a
      · exact hb
      · exact absurd (if_neg hb) y
theorem walk_q {l : PySem.W.OpenLaw} {n k i : Nat} {q : Program} {loose : List PySem.Str} {XP : (PySem.Str → Option Value) → Heap → Prop} {d : DefRec} {L : Lw}
    (hn : l.most = some n) (hn2 : n ≤ sizeLine) (hdf : d.params.defaults = []) (hr : Room k callerA) (ok : L.okB = true) {df : Df} (hi : L.at_ i = some df) (hnm : df.nm = d.name) (h1 : df.F.np = 1)
    (he : ∀ ns : List Int, ns.length ≤ n → ∃ h, runF L.T k i [.scr ns] [] = .ok (.bl true) h) :
    PySem.W.WalkO q loose XP (He.hookD 4 L.fa L.fn).says l.row.toRowW d [] (fun f vs => PySem.call f vs) := by
  refine Att.attach_call hn hdf fun w s₀ s₁ mg mb fa o pm cd doc a vs ns G Y ho hd hcd hmg hobj hints hlen hg => ?_
  obtain ⟨K, KX, c⟩ := Y
  obtain ⟨h', e⟩ := he ns hlen
  have wd := wd_of KX G.T.g c ok
  have hfa : L.ad K i = fa := by
    have := (df_ok KX G.T.g c ok (List.mem_of_find?_eq_some hi)).2.1
    rw [hnm, hmg] at this
    unfold Lw.ad
    rw [hi]
    simp only [Option.some.injEq, Value.ref.injEq] at this
    show He.ga K df.nm = fa
    rw [hnm]
    exact this.symm
  subst hfa
  refine law_q (cv := L.cv K) KX G.T.g G.T.b G.T.builtins G.T.nolimit hg hobj hints (Nat.le_trans hlen hn2) hr (fun base kb nb => fn_q wd k i 1 fun F hF => ?_) e
  unfold Lw.T at hF
  rw [hi] at hF
  cases hF
  exact h1
end Q

/-! SA: plain laws of the clean evaluator. -/
namespace Q
open PySem
mutual
/-- no reference within -/
def D.flat : D → Bool
  | .tup xs => D.flats xs
  | .lst xs => D.flats xs
  | .ftp xs => D.flats xs
  | .dk _ vs => D.flats vs
  | .dt _ vs => D.flats vs
  | .ref _ => false
  | _ => true
def D.flats : List D → Bool
  | [] => true
  | x :: xs => D.flat x && D.flats xs
end
mutual
theorem D.flat_old (m : Nat) : ∀ d : D, d.flat = true → d.old m = true
  | .tup xs, h => by simp only [D.flat] at h; simpa only [D.old] using D.flats_old m xs h
  | .lst xs, h => by simp only [D.flat] at h; simpa only [D.old] using D.flats_old m xs h
  | .ftp xs, h => by simp only [D.flat] at h; simpa only [D.old] using D.flats_old m xs h
  | .dk _ vs, h => by simp only [D.flat] at h; simpa only [D.old] using D.flats_old m vs h
  | .dt _ vs, h => by simp only [D.flat] at h; simpa only [D.old] using D.flats_old m vs h
  | .ref _, h => by simp [D.flat] at h
  | .non, _ => by simp [D.old]
  | .bl _, _ => by simp [D.old]
  | .int _, _ => by simp [D.old]
  | .str _, _ => by simp [D.old]
  | .scr _, _ => by simp [D.old]
  | .exc _, _ => by simp [D.old]
theorem D.flats_old (m : Nat) : ∀ ds : List D, D.flats ds = true → D.olds m ds = true
  | [], _ => rfl
  | x :: xs, h => by
    simp only [D.flats, Bool.and_eq_true] at h
    simp only [D.olds, Bool.and_eq_true]
    exact ⟨D.flat_old m x h.1, D.flats_old m xs h.2⟩
end
mutual
theorem D.flat_via (f : Nat → D) : ∀ d : D, d.flat = true → D.via f d = d
  | .tup xs, h => by simp only [D.flat] at h; simp only [D.via, D.flats_via f xs h]
  | .lst xs, h => by simp only [D.flat] at h; simp only [D.via, D.flats_via f xs h]
  | .ftp xs, h => by simp only [D.flat] at h; simp only [D.via, D.flats_via f xs h]
  | .dk _ vs, h => by simp only [D.flat] at h; simp only [D.via, D.flats_via f vs h]
  | .dt _ vs, h => by simp only [D.flat] at h; simp only [D.via, D.flats_via f vs h]
  | .ref _, h => by simp [D.flat] at h
  | .non, _ => by simp [D.via]
  | .bl _, _ => by simp [D.via]
  | .int _, _ => by simp [D.via]
  | .str _, _ => by simp [D.via]
  | .scr _, _ => by simp [D.via]
  | .exc _, _ => by simp [D.via]
theorem D.flats_via (f : Nat → D) : ∀ ds : List D, D.flats ds = true → D.vias f ds = ds
  | [], _ => rfl
  | x :: xs, h => by
    simp only [D.flats, Bool.and_eq_true] at h
    simp only [D.vias, D.flat_via f x h.1, D.flats_via f xs h.2]
end
theorem frost_flat {h : Hc} {m : Nat} : ∀ (k : Nat) {d : D}, d.flat = true → frost h m k d = d
  | 0, _, _ => rfl
  | k + 1, d, hd => D.flat_via _ d hd
theorem thaw_flat {h : Hc} : ∀ (k : Nat) {d : D}, d.flat = true → thaw h k d = d
  | 0, _, _ => rfl
  | k + 1, d, hd => D.flat_via _ d hd
theorem kept_app (h e : Hc) : kept h (h ++ e) = true := by
  unfold kept
  simp only [List.length_append, Nat.le_add_right, decide_true, Bool.true_and, List.all_eq_true, List.mem_range, Bool.or_eq_true, decide_eq_true_eq]
  exact fun i hi => .inl (by rw [List.getElem?_append_left hi])
theorem kept_refl (h : Hc) : kept h h = true := by simpa using kept_app h []
/-- one old object is written anew -/
theorem kept_set {h e : Hc} {p : Nat} {o : O} (ho : o.old h.length = true) : kept h (h.set p o ++ e) = true := by
  unfold kept
  simp only [List.length_append, List.length_set, Nat.le_add_right, decide_true, Bool.true_and, List.all_eq_true, List.mem_range, Bool.or_eq_true, decide_eq_true_eq]
  intro i hi
  rw [List.getElem?_append_left (by simpa using hi), List.getElem?_set]
  by_cases hp : p = i
  · subst hp
    rw [if_pos rfl, if_pos hi]
    exact .inr ho
  · rw [if_neg hp]
    exact .inl rfl
/-- the end of a def's body -/
def fin (fz : Bool) (h : Hc) : S → R D
  | .rt d h' => leave fz h h' d
  | .nx _ h' => leave false h h' .non
  | .ex c _ h' => leaveX h h' c
  | _ => .bad
theorem run_eq {T : Tab} {n f : Nat} {F : Fn} {ds : List D} {h : Hc} (hT : T f = some F) (hl : ds.length = F.np) :
    runF T (n + 1) f ds h = fin F.fz h (exes (runF T n) F.body (ds.map some ++ List.replicate (F.ns - F.np) none) h) := by
  rw [runF, hT]
  simp only [if_pos hl]
  cases exes (runF T n) F.body (ds.map some ++ List.replicate (F.ns - F.np) none) h <;> rfl
theorem leave_at {fz : Bool} {h h' : Hc} {d : D} (hk : kept h h' = true) (hd : d.flat = true) : leave fz h h' d = .ok d (h'.take h.length) := by
  unfold leave
  rw [frost_flat 3 hd, ite_self, if_pos ⟨hk, D.flat_old _ d hd⟩]
@[simp] theorem leave_flat {fz : Bool} {h : Hc} {d : D} (hd : d.flat = true) : leave fz h h d = .ok d h := by
  rw [leave_at (kept_refl h) hd, List.take_length]
@[simp] theorem leave_app {fz : Bool} {h e : Hc} {d : D} (hd : d.flat = true) : leave fz h (h ++ e) d = .ok d h := by
  rw [leave_at (kept_app h e) hd, List.take_left]
theorem leave_set {fz : Bool} {h e : Hc} {p : Nat} {o : O} {d : D} (ho : o.old h.length = true) (hd : d.flat = true) : leave fz h (h.set p o ++ e) d = .ok d (h.set p o) := by
  rw [leave_at (kept_set ho) hd]
  have : h.length = (h.set p o).length := by simp
  rw [this, List.take_left]
theorem leave_set0 {fz : Bool} {h : Hc} {p : Nat} {o : O} {d : D} (ho : o.old h.length = true) (hd : d.flat = true) : leave fz h (h.set p o) d = .ok d (h.set p o) := by
  have := leave_set (fz := fz) (e := []) (p := p) ho hd
  simpa using this
@[simp] theorem leaveX_same {h : Hc} {c : Nat} : leaveX h h c = .ex c h := by
  unfold leaveX
  rw [kept_refl h, if_pos rfl, List.take_length]
@[simp] theorem leaveX_app {h e : Hc} {c : Nat} : leaveX h (h ++ e) c = .ex c h := by
  unfold leaveX
  rw [kept_app h e, if_pos rfl, List.take_left]
@[simp] theorem fin_rt {fz : Bool} {h h' : Hc} {d : D} : fin fz h (.rt d h') = leave fz h h' d := rfl
@[simp] theorem fin_nx {fz : Bool} {h h' : Hc} {ρ : Env} : fin fz h (.nx ρ h') = leave false h h' .non := rfl
@[simp] theorem fin_ex {fz : Bool} {h h' : Hc} {ρ : Env} {c : Nat} : fin fz h (.ex c ρ h') = leaveX h h' c := rfl
/-! ### tests -/
@[simp] theorem truthR_bl {b : Bool} {h : Hc} : truthR (.ok (.bl b) h) = .ok b h := rfl
@[simp] theorem truth_bl {b : Bool} {h : Hc} : truth h (.bl b) = some b := rfl
@[simp] theorem truthR_ex {c : Nat} {h : Hc} : truthR (.ex c h) = .ex c h := rfl
/-! ### comprehensions that leave the heap as it is -/
theorem comp_pure {tg : CT} {n : Nat} {ρ : Env} {c : Env → Hc → R Bool} {e : Env → Hc → R D} {h : Hc} (hn : n = h.length) : ∀ (ds acc : List D) (p : D → Bool) (f : D → D) (ρf : D → Env),
    (∀ d ∈ ds, bindT tg d ρ = some (ρf d)) → (∀ d ∈ ds, ∀ acc, c (ρf d) (h ++ [.hl acc]) = .ok (p d) (h ++ [.hl acc])) → (∀ d ∈ ds, p d = true → ∀ acc, e (ρf d) (h ++ [.hl acc]) = .ok (f d) (h ++ [.hl acc])) → acc.length + ds.length ≤ sizeLine →
    compL tg [] n ρ c e ds (h ++ [.hl acc]) = .ok (acc ++ (ds.filter p).map f) (h ++ [.hl (acc ++ (ds.filter p).map f)])
  | [], acc, p, f, ρf, _, _, _, _ => by
    rw [compL]
    simp [stays, hn]
  | d :: ds, acc, p, f, ρf, hb, hc, he, hl => by
    simp only [List.length_cons] at hl
    rw [compL]
    simp only [stays, List.all_nil, if_true, hb d List.mem_cons_self, hc d List.mem_cons_self]
    cases hp : p d with
    | false =>
      simp only
      rw [comp_pure hn ds acc p f ρf (fun x hx => hb x (List.mem_cons_of_mem _ hx)) (fun x hx => hc x (List.mem_cons_of_mem _ hx)) (fun x hx => he x (List.mem_cons_of_mem _ hx)) (by omega)]
      simp [hp]
    | true =>
      simp only [he d List.mem_cons_self hp]
      have e1 : (h ++ [O.hl acc])[n]? = some (.hl acc) := by simp [hn]
      have e2 : (h ++ [O.hl acc]).set n (.hl (acc ++ [f d])) = h ++ [.hl (acc ++ [f d])] := by simp [hn]
      rw [e1]
      simp only [if_pos (show acc.length < sizeLine by omega), e2]
      rw [comp_pure hn ds (acc ++ [f d]) p f ρf (fun x hx => hb x (List.mem_cons_of_mem _ hx)) (fun x hx => hc x (List.mem_cons_of_mem _ hx)) (fun x hx => he x (List.mem_cons_of_mem _ hx)) (by simp; omega)]
      simp [hp]
theorem compEnd_flat {h : Hc} {xs : List D} {o : O} (hx : D.flats xs = true) : compEnd true h (h ++ [o]) xs = .ok (.lst xs) h := by
  unfold compEnd
  rw [if_pos ⟨rfl, kept_app h _, D.flats_old _ xs hx⟩, List.take_left]
end Q

/-! SC: plain data and ==. -/
namespace Q
open PySem
@[simp] theorem flat_bl {b : Bool} : D.flat (.bl b) = true := by simp [D.flat]
@[simp] theorem flat_int {i : Int} : D.flat (.int i) = true := by simp [D.flat]
@[simp] theorem flat_str {x : PySem.Str} : D.flat (.str x) = true := by simp [D.flat]
@[simp] theorem flat_non : D.flat .non = true := by simp [D.flat]
@[simp] theorem flat_tup {xs : List D} : D.flat (.tup xs) = D.flats xs := by simp [D.flat]
@[simp] theorem flat_lst {xs : List D} : D.flat (.lst xs) = D.flats xs := by simp [D.flat]
@[simp] theorem flats_nil : D.flats [] = true := rfl
@[simp] theorem flats_cons {x : D} {xs : List D} : D.flats (x :: xs) = (D.flat x && D.flats xs) := by simp [D.flats]
mutual
/-- numbers, texts, None, tuples and lists of such -/
def D.num : D → Bool
  | .non => true
  | .int _ => true
  | .str _ => true
  | .tup xs => D.nums xs
  | .lst xs => D.nums xs
  | _ => false
def D.nums : List D → Bool
  | [] => true
  | x :: xs => D.num x && D.nums xs
end
mutual
def D.dat : D → PyData
  | .int i => .int i
  | .str x => .str x
  | .tup xs => .tuple (D.dats xs)
  | .lst xs => .list (D.dats xs)
  | _ => .none
def D.dats : List D → List PyData
  | [] => []
  | x :: xs => D.dat x :: D.dats xs
end
mutual
theorem num_flat : ∀ d : D, d.num = true → d.flat = true
  | .tup xs, h => by simp only [D.num] at h; simpa only [D.flat] using nums_flat xs h
  | .lst xs, h => by simp only [D.num] at h; simpa only [D.flat] using nums_flat xs h
  | .ftp _, h => by simp [D.num] at h
  | .dk _ _, h => by simp [D.num] at h
  | .dt _ _, h => by simp [D.num] at h
  | .ref _, h => by simp [D.num] at h
  | .non, _ => by simp
  | .bl _, h => by simp
  | .int _, _ => by simp
  | .str _, _ => by simp
  | .scr _, h => by simp [D.num] at h
  | .exc _, h => by simp [D.num] at h
theorem nums_flat : ∀ ds : List D, D.nums ds = true → D.flats ds = true
  | [], _ => rfl
  | x :: xs, h => by
    simp only [D.nums, Bool.and_eq_true] at h
    simp only [D.flats, Bool.and_eq_true]
    exact ⟨num_flat x h.1, nums_flat xs h.2⟩
end
mutual
theorem num_py : ∀ d : D, d.num = true → d.py = some d.dat ∧ d.dat.plain = true
  | .tup xs, h => by
    simp only [D.num] at h
    obtain ⟨h1, h2⟩ := nums_py xs h
    simp only [D.py, D.dat, h1, Option.map_some, PyData.plain, h2, and_self]
  | .lst xs, h => by
    simp only [D.num] at h
    obtain ⟨h1, h2⟩ := nums_py xs h
    simp only [D.py, D.dat, h1, Option.map_some, PyData.plain, h2, and_self]
  | .ftp _, h => by simp [D.num] at h
  | .dk _ _, h => by simp [D.num] at h
  | .dt _ _, h => by simp [D.num] at h
  | .ref _, h => by simp [D.num] at h
  | .non, _ => by simp [D.py, D.dat, PyData.plain]
  | .bl _, h => by simp [D.num] at h
  | .int _, _ => by simp [D.py, D.dat, PyData.plain]
  | .str _, _ => by simp [D.py, D.dat, PyData.plain]
  | .scr _, h => by simp [D.num] at h
  | .exc _, h => by simp [D.num] at h
theorem nums_py : ∀ ds : List D, D.nums ds = true → D.pys ds = some (D.dats ds) ∧ PyData.plainAll (D.dats ds) = true
  | [], _ => ⟨rfl, rfl⟩
  | x :: xs, h => by
    simp only [D.nums, Bool.and_eq_true] at h
    obtain ⟨h1, h2⟩ := num_py x h.1
    obtain ⟨h3, h4⟩ := nums_py xs h.2
    simp only [D.pys, D.dats, h1, h3, Option.bind_some, Option.map_some, PyData.plainAll, h2, h4, Bool.and_self, and_self]
end
mutual
theorem num_eqv : ∀ a b : D, a.num = true → b.num = true → PyData.eqv a.dat b.dat = decide (a = b)
  | .tup xs, b, ha, hb => by
    cases b <;> simp [D.num] at hb ha <;> simp [D.dat, PyData.eqv]
    exact nums_eqv xs _ ha hb
  | .lst xs, b, ha, hb => by
    cases b <;> simp [D.num] at hb ha <;> simp [D.dat, PyData.eqv]
    exact nums_eqv xs _ ha hb
  | .int i, b, ha, hb => by
    cases b <;> simp [D.num] at hb <;> simp [D.dat, PyData.eqv]
    rfl
  | .str i, b, ha, hb => by
    cases b <;> simp [D.num] at hb <;> simp [D.dat, PyData.eqv]
    rename_i y
    by_cases h : i = y <;> simp [h]
  | .non, b, ha, hb => by cases b <;> simp [D.num] at hb <;> simp [D.dat, PyData.eqv]
  | .ftp _, _, h, _ => by simp [D.num] at h
  | .dk _ _, _, h, _ => by simp [D.num] at h
  | .dt _ _, _, h, _ => by simp [D.num] at h
  | .ref _, _, h, _ => by simp [D.num] at h
  | .bl _, _, h, _ => by simp [D.num] at h
  | .scr _, _, h, _ => by simp [D.num] at h
  | .exc _, _, h, _ => by simp [D.num] at h
theorem nums_eqv : ∀ a b : List D, D.nums a = true → D.nums b = true → PyData.eqvAll (D.dats a) (D.dats b) = decide (a = b)
  | [], [], _, _ => by simp [D.dats, PyData.eqvAll]
  | [], _ :: _, _, _ => by simp [D.dats, PyData.eqvAll]
  | _ :: _, [], _, _ => by simp [D.dats, PyData.eqvAll]
  | x :: xs, y :: ys, ha, hb => by
    simp only [D.nums, Bool.and_eq_true] at ha hb
    simp only [D.dats, PyData.eqvAll, num_eqv x y ha.1 hb.1, nums_eqv xs ys ha.2 hb.2, List.cons.injEq, Bool.decide_and]
end
theorem dEq_num {h : Hc} {a b : D} (ha : a.num = true) (hb : b.num = true) (da : a.dat.depth ≤ 64) (db : b.dat.depth ≤ 64) : dEq h a b = some (decide (a = b)) := by
  unfold dEq
  obtain ⟨a1, a2⟩ := num_py a ha
  obtain ⟨b1, b2⟩ := num_py b hb
  rw [thaw_flat 3 (num_flat a ha), thaw_flat 3 (num_flat b hb), a1, b1]
  simp only [shp, a2, b2, da, db, decide_true, Bool.and_self, if_true, num_eqv a b ha hb]
theorem dat_depth0 {d : D} (h : d.dat.depth ≤ 1) : d.dat.depth ≤ 64 := by omega
@[simp] theorem dEq_int {h : Hc} {i j : Int} : dEq h (.int i) (.int j) = some (decide (i = j)) := by
  have := dEq_num (h := h) (a := .int i) (b := .int j) (by simp [D.num]) (by simp [D.num]) (by simp [D.dat, PyData.depth]) (by simp [D.dat, PyData.depth])
  simpa using this
@[simp] theorem dEq_str {h : Hc} {i j : PySem.Str} : dEq h (.str i) (.str j) = some (decide (i = j)) := by
  have := dEq_num (h := h) (a := .str i) (b := .str j) (by simp [D.num]) (by simp [D.num]) (by simp [D.dat, PyData.depth]) (by simp [D.dat, PyData.depth])
  simpa using this
theorem pys_ints : ∀ ns : List Int, D.pys (ns.map D.int) = some (ns.map PyData.int)
  | [] => rfl
  | n :: ns => by simp [D.pys, D.py, pys_ints ns]
theorem lay_ints : ∀ ns : List Int, PyData.canLayAll0 (ns.map PyData.int) = true
  | [] => rfl
  | n :: ns => by simp [PyData.canLayAll0, PyData.canLay0, lay_ints ns]
theorem depth_ints : ∀ ns : List Int, PyData.depthAll (ns.map PyData.int) ≤ 1
  | [] => by simp [PyData.depthAll]
  | n :: ns => by
    have := depth_ints ns
    simp only [List.map_cons, PyData.depthAll, PyData.depth]
    exact Nat.max_le.mpr ⟨by omega, this⟩
theorem dIn_int {h : Hc} (ns : List Int) (i : Int) : dIn h (ns.map D.int) (.int i) = some (decide (i ∈ ns)) := by
  unfold dIn
  have e1 : (ns.map D.int).map (thaw h 2) = ns.map D.int := by
    rw [List.map_map]
    exact List.map_congr_left fun n _ => thaw_flat 2 (by simp)
  rw [e1, pys_ints, thaw_flat 2 (by simp)]
  have d1 := depth_ints ns
  have s1 : SeqAt.shaped (.list (ns.map PyData.int)) = true := by
    unfold SeqAt.shaped
    simp only [PyData.canLay0, lay_ints, PyData.depth, Bool.true_and]
    exact decide_eq_true (Nat.le_trans (Nat.succ_le_succ d1) (by decide))
  have s2 : SeqAt.shaped (.int i) = true := by
    unfold SeqAt.shaped
    simp [PyData.canLay0, PyData.depth]
  simp only [D.py, s1, s2, Bool.and_self, if_true, List.any_map, Option.some.injEq]
  rw [Bool.eq_iff_iff, List.any_eq_true, decide_eq_true_eq]
  constructor
  · rintro ⟨x, hx, e⟩
    simp only [Function.comp, PyData.eqv, beq_iff_eq] at e
    rw [← e]
    exact hx
  · exact fun hi => ⟨i, hi, by simp [PyData.eqv]⟩
@[simp] theorem isTy_int {h : Hc} {i : Int} {t : Ty} : isTy h (.int i) t = some (t == .int) := rfl
@[simp] theorem isTy_tup {h : Hc} {xs : List D} {t : Ty} : isTy h (.tup xs) t = some (t == .tup) := rfl
@[simp] theorem lk_int {h : Hc} {i : Int} : look h (.int i) = .int i := rfl
@[simp] theorem lk_tup {h : Hc} {xs : List D} : look h (.tup xs) = .tup xs := rfl
@[simp] theorem lk_lst {h : Hc} {xs : List D} : look h (.lst xs) = .lst xs := rfl
@[simp] theorem lookT_int {h : Hc} {i : Int} : lookT h (.int i) = .int i := rfl
@[simp] theorem lkT_tup {h : Hc} {xs : List D} : lookT h (.tup xs) = .tup xs := rfl
@[simp] theorem lkT_lst {h : Hc} {xs : List D} : lookT h (.lst xs) = .lst xs := rfl
@[simp] theorem lookT_scr {h : Hc} {xs : List Int} : lookT h (.scr xs) = .scr xs := rfl
end Q

/-! SD: comprehensions and loops. -/
namespace Q
open PySem
variable {F : Nat → List D → Hc → R D}
theorem allD_map {α : Type} (g : α → Bool) : ∀ l : List α, allD (l.map fun x => D.bl (g x)) = some (l.all g)
  | [] => rfl
  | x :: xs => by simp [allD, allD_map g xs]
theorem anyD_map {α : Type} (g : α → Bool) : ∀ l : List α, anyD (l.map fun x => D.bl (g x)) = some (l.any g)
  | [] => rfl
  | x :: xs => by simp [anyD, anyD_map g xs]
/-- a loop over items that stays in a state: P tells the state after so many items -/
theorem for_state {tg : CT} {b : Env → Hc → S} {σ : Type} (env : σ → Env) (hp : σ → Hc) (step : σ → D → σ) : ∀ (ds : List D) (s : σ),
    (∀ d ∈ ds, ∀ s : σ, ∃ ρ', bindT tg d (env s) = some ρ' ∧ b ρ' (hp s) = .nx (env (step s d)) (hp (step s d))) →
    forL tg [] b ds (env s) (hp s) = .nx (env (ds.foldl step s)) (hp (ds.foldl step s))
  | [], s, _ => by simp [forL, stays]
  | d :: ds, s, h => by
    obtain ⟨ρ', e1, e2⟩ := h d List.mem_cons_self s
    rw [forL]
    simp only [stays, List.all_nil, if_true, e1, e2]
    exact for_state env hp step ds _ fun x hx => h x (List.mem_cons_of_mem _ hx)
end Q

/-! XA: shallow results, encoders. -/
namespace Q
open PySem
/-- a shallow result: e is the state at an exception -/
inductive X (ε α : Type) where
  | ok (a : α) | ex (c : Nat) (e : ε) | bad
namespace X
variable {ε ζ α β γ : Type}
def bind (x : X ε α) (f : α → X ε β) : X ε β := match x with
  | .ok a => f a
  | .ex c e => .ex c e
  | .bad => .bad
@[simp] theorem bind_ok (a : α) (f : α → X ε β) : (X.ok a).bind f = f a := rfl
@[simp] theorem bind_ex (c : Nat) (e : ε) (f : α → X ε β) : (X.ex c e).bind f = .ex c e := rfl
@[simp] theorem bind_bad (f : α → X ε β) : (X.bad : X ε α).bind f = .bad := rfl
theorem bind_assoc (x : X ε α) (f : α → X ε β) (g : β → X ε γ) : (x.bind f).bind g = x.bind fun a => (f a).bind g := by cases x <;> rfl
/-- a callee without a state -/
def at_ (s : ε) (x : X Unit α) : X ε α := match x with
  | .ok a => .ok a
  | .ex c _ => .ex c s
  | .bad => .bad
/-- a callee whose state stays within -/
def out (x : X ε α) : X Unit α := match x with
  | .ok a => .ok a
  | .ex c _ => .ex c ()
  | .bad => .bad
/-- no exception is served -/
def nox (x : X ε α) : X ζ α := match x with
  | .ok a => .ok a
  | .ex _ _ => .bad
  | .bad => .bad
def opt (o : Option α) : X ε α := match o with
  | some a => .ok a
  | none => .bad
@[simp] theorem opt_some (a : α) : (X.opt (some a) : X ε α) = .ok a := rfl
@[simp] theorem opt_none : (X.opt (none : Option α) : X ε α) = .bad := rfl
@[simp] theorem at_ok (s : ε) (a : α) : at_ s (.ok a) = .ok a := rfl
@[simp] theorem at_bad (s : ε) : at_ s (.bad : X Unit α) = .bad := rfl
@[simp] theorem at_ex (s : ε) (c : Nat) (u : Unit) : at_ s (.ex c u : X Unit α) = .ex c s := rfl
@[simp] theorem out_ok (a : α) : out (.ok a : X ε α) = .ok a := rfl
@[simp] theorem out_bad : out (.bad : X ε α) = .bad := rfl
@[simp] theorem out_ex (c : Nat) (u : ε) : out (.ex c u : X ε α) = .ex c () := rfl
@[simp] theorem nox_ok (a : α) : (nox (.ok a : X ε α) : X ζ α) = .ok a := rfl
@[simp] theorem nox_bad : (nox (.bad : X ε α) : X ζ α) = .bad := rfl
end X
/-- the end of a turn of a loop -/
inductive Lp (β σ : Type) where
  | nx (s : σ) | bk (s : σ) | rt (b : β) (s : σ)
/-- the end of a loop -/
inductive Le (β σ : Type) where
  | nx (s : σ) | rt (b : β) (s : σ)
def Le.cas {β σ : Type} {γ : Sort _} (r : Le β σ) (f : σ → γ) (g : β → σ → γ) : γ := match r with
  | .nx s => f s
  | .rt b s => g b s
@[simp] theorem Le.cas_nx {β σ : Type} {γ : Sort _} (s : σ) (f : σ → γ) (g : β → σ → γ) : (Le.nx s).cas f g = f s := rfl
@[simp] theorem Le.cas_rt {β σ : Type} {γ : Sort _} (b : β) (s : σ) (f : σ → γ) (g : β → σ → γ) : (Le.rt b s).cas f g = g b s := rfl
section
variable {ε α β σ : Type}
def foldX (f : α → σ → X ε σ) : List α → σ → X ε σ
  | [], s => .ok s
  | a :: as, s => (f a s).bind fun s => foldX f as s
def loopX (f : α → σ → X ε (Lp β σ)) : List α → σ → X ε (Le β σ)
  | [], s => .ok (.nx s)
  | a :: as, s => (f a s).bind fun r => match r with
    | .nx s => loopX f as s
    | .bk s => .ok (.nx s)
    | .rt b s => .ok (.rt b s)
/-- a comprehension: p: whether, f: what -/
def compX (f : α → σ → X ε (Option β × σ)) : List α → List β → σ → X ε (List β × σ)
  | [], acc, s => .ok (acc, s)
  | a :: as, acc, s => (f a s).bind fun r => match r with
    | (some b, s) => if acc.length < sizeLine then compX f as (acc ++ [b]) s else .bad
    | (none, s) => compX f as acc s
end
/-! ### results with a heap -/
section
variable {ε ζ α β γ σ : Type}
def rx (x : X ε α) (hx : ε → Hc) (k : α → R β) : R β := match x with
  | .ok a => k a
  | .ex c e => .ex c (hx e)
  | .bad => .bad
def ro (o : Option α) (k : α → R β) : R β := match o with
  | some a => k a
  | none => .bad
def sx (x : X ε α) (hx : ε → Hc) (k : α → S) : S := match x with
  | .ok a => k a
  | .ex c e => .ex c [] (hx e)
  | .bad => .bad
def so (o : Option α) (k : α → S) : S := match o with
  | some a => k a
  | none => .bad
def R.stN (r : R α) (f : α → Hc → S) : S := match r with
  | .ok a h => f a h
  | .ex c h => .ex c [] h
  | .bad => .bad
@[simp] theorem stN_ok (a : α) (h : Hc) (f : α → Hc → S) : (R.ok a h).stN f = f a h := rfl
@[simp] theorem stN_ex (c : Nat) (h : Hc) (f : α → Hc → S) : (R.ex c h : R α).stN f = .ex c [] h := rfl
@[simp] theorem stN_bad (f : α → Hc → S) : (R.bad : R α).stN f = .bad := rfl
@[simp] theorem rx_ok (a : α) (hx : ε → Hc) (k : α → R β) : rx (.ok a) hx k = k a := rfl
@[simp] theorem rx_ex (c : Nat) (e : ε) (hx : ε → Hc) (k : α → R β) : rx (.ex c e) hx k = .ex c (hx e) := rfl
@[simp] theorem rx_bad (hx : ε → Hc) (k : α → R β) : rx .bad hx k = .bad := rfl
@[simp] theorem rx_bind (x : X ε α) (f : α → X ε γ) (hx : ε → Hc) (k : γ → R β) : rx (x.bind f) hx k = rx x hx fun a => rx (f a) hx k := by cases x <;> rfl
@[simp] theorem rx_opt (o : Option α) (hx : ε → Hc) (k : α → R β) : rx (.opt o) hx k = ro o k := by cases o <;> rfl
@[simp] theorem rx_at (s : ε) (x : X Unit α) (hx : ε → Hc) (k : α → R β) : rx (.at_ s x) hx k = rx x (fun _ => hx s) k := by cases x <;> rfl
@[simp] theorem rx_out (x : X ε α) (hx : Unit → Hc) (k : α → R β) : rx x.out hx k = rx x (fun _ => hx ()) k := by cases x <;> rfl
@[simp] theorem rx_ite (c : Prop) [Decidable c] (x y : X ε α) (hx : ε → Hc) (k : α → R β) : rx (if c then x else y) hx k = if c then rx x hx k else rx y hx k := by split <;> rfl
@[simp] theorem rx_cas (r : Le γ σ) (f : σ → X ε α) (g : γ → σ → X ε α) (hx : ε → Hc) (k : α → R β) : rx (r.cas f g) hx k = r.cas (fun s => rx (f s) hx k) (fun b s => rx (g b s) hx k) := by cases r <;> rfl
@[simp] theorem bind_rx (x : X ε α) (hx : ε → Hc) (k : α → R β) (g : β → Hc → R γ) : (rx x hx k).bind g = rx x hx fun a => (k a).bind g := by cases x <;> rfl
@[simp] theorem bind_ro (x : Option α) (k : α → R β) (g : β → Hc → R γ) : (ro x k).bind g = ro x fun a => (k a).bind g := by cases x <;> rfl
@[simp] theorem bind_ite (c : Prop) [Decidable c] (x y : R α) (g : α → Hc → R γ) : (if c then x else y).bind g = if c then x.bind g else y.bind g := by split <;> rfl
@[simp] theorem bind_cas (r : Le ζ σ) (f : σ → R α) (q : ζ → σ → R α) (g : α → Hc → R γ) : (r.cas f q).bind g = r.cas (fun s => (f s).bind g) (fun b s => (q b s).bind g) := by cases r <;> rfl
@[simp] theorem stN_rx (x : X ε α) (hx : ε → Hc) (k : α → R β) (g : β → Hc → S) : (rx x hx k).stN g = sx x hx fun a => (k a).stN g := by cases x <;> rfl
@[simp] theorem stN_ro (x : Option α) (k : α → R β) (g : β → Hc → S) : (ro x k).stN g = so x fun a => (k a).stN g := by cases x <;> rfl
@[simp] theorem stN_ite (c : Prop) [Decidable c] (x y : R α) (g : α → Hc → S) : (if c then x else y).stN g = if c then x.stN g else y.stN g := by split <;> rfl
@[simp] theorem truthR_rx (x : X ε α) (hx : ε → Hc) (k : α → R D) : truthR (rx x hx k) = rx x hx fun a => truthR (k a) := by cases x <;> rfl
@[simp] theorem truthR_ro (x : Option α) (k : α → R D) : truthR (ro x k) = ro x fun a => truthR (k a) := by cases x <;> rfl
@[simp] theorem truthR_ite (c : Prop) [Decidable c] (x y : R D) : truthR (if c then x else y) = if c then truthR x else truthR y := by split <;> rfl
@[simp] theorem truthR_bad : truthR .bad = .bad := rfl
@[simp] theorem sx_ok (a : α) (hx : ε → Hc) (k : α → S) : sx (.ok a) hx k = k a := rfl
@[simp] theorem sx_bad (hx : ε → Hc) (k : α → S) : sx .bad hx k = .bad := rfl
@[simp] theorem sx_ex (c : Nat) (e : ε) (hx : ε → Hc) (k : α → S) : sx (.ex c e) hx k = .ex c [] (hx e) := rfl
@[simp] theorem sx_bind (x : X ε α) (f : α → X ε γ) (hx : ε → Hc) (k : γ → S) : sx (x.bind f) hx k = sx x hx fun a => sx (f a) hx k := by cases x <;> rfl
@[simp] theorem sx_opt (o : Option α) (hx : ε → Hc) (k : α → S) : sx (.opt o) hx k = so o k := by cases o <;> rfl
@[simp] theorem sx_at (s : ε) (x : X Unit α) (hx : ε → Hc) (k : α → S) : sx (.at_ s x) hx k = sx x (fun _ => hx s) k := by cases x <;> rfl
@[simp] theorem sx_out (x : X ε α) (hx : Unit → Hc) (k : α → S) : sx x.out hx k = sx x (fun _ => hx ()) k := by cases x <;> rfl
@[simp] theorem sx_ite (c : Prop) [Decidable c] (x y : X ε α) (hx : ε → Hc) (k : α → S) : sx (if c then x else y) hx k = if c then sx x hx k else sx y hx k := by split <;> rfl
@[simp] theorem sx_cas (r : Le γ σ) (f : σ → X ε α) (g : γ → σ → X ε α) (hx : ε → Hc) (k : α → S) : sx (r.cas f g) hx k = r.cas (fun s => sx (f s) hx k) (fun b s => sx (g b s) hx k) := by cases r <;> rfl
@[simp] theorem then_sx (x : X ε α) (hx : ε → Hc) (k : α → S) (g : Env → Hc → S) : (sx x hx k).andThen g = sx x hx fun a => (k a).andThen g := by cases x <;> rfl
@[simp] theorem then_so (x : Option α) (k : α → S) (g : Env → Hc → S) : (so x k).andThen g = so x fun a => (k a).andThen g := by cases x <;> rfl
@[simp] theorem then_ite (c : Prop) [Decidable c] (x y : S) (g : Env → Hc → S) : (if c then x else y).andThen g = if c then x.andThen g else y.andThen g := by split <;> rfl
@[simp] theorem then_cas (r : Le ζ σ) (f : σ → S) (q : ζ → σ → S) (g : Env → Hc → S) : (r.cas f q).andThen g = r.cas (fun s => (f s).andThen g) (fun b s => (q b s).andThen g) := by cases r <;> rfl
@[simp] theorem tidy_sx (own : List Nat) (h : Hc) (x : X ε α) (hx : ε → Hc) (k : α → S) : tidyS own h (sx x hx k) = sx x hx fun a => tidyS own h (k a) := by cases x <;> rfl
@[simp] theorem tidy_so (own : List Nat) (h : Hc) (x : Option α) (k : α → S) : tidyS own h (so x k) = so x fun a => tidyS own h (k a) := by cases x <;> rfl
@[simp] theorem tidy_ite (own : List Nat) (h : Hc) (c : Prop) [Decidable c] (x y : S) : tidyS own h (if c then x else y) = if c then tidyS own h x else tidyS own h y := by split <;> rfl
@[simp] theorem tidy_cas (own : List Nat) (h : Hc) (r : Le ζ σ) (f : σ → S) (q : ζ → σ → S) : tidyS own h (r.cas f q) = r.cas (fun s => tidyS own h (f s)) (fun b s => tidyS own h (q b s)) := by cases r <;> rfl
@[simp] theorem tidy_nx (own : List Nat) (h h' : Hc) (ρ : Env) : tidyS own h (.nx ρ h') = tidyE own h .nx ρ h' := rfl
@[simp] theorem tidy_ct (own : List Nat) (h h' : Hc) (ρ : Env) : tidyS own h (.ct ρ h') = tidyE own h .ct ρ h' := rfl
@[simp] theorem tidy_bk (own : List Nat) (h h' : Hc) (ρ : Env) : tidyS own h (.bk ρ h') = tidyE own h .bk ρ h' := rfl
@[simp] theorem tidy_rt (own : List Nat) (h h' : Hc) (d : D) : tidyS own h (.rt d h') = .rt d h' := rfl
@[simp] theorem tidy_ex (own : List Nat) (h h' : Hc) (c : Nat) (ρ : Env) : tidyS own h (.ex c ρ h') = .ex c ρ h' := rfl
@[simp] theorem tidy_bad (own : List Nat) (h : Hc) : tidyS own h .bad = .bad := rfl
/-- the heap at an exception that leaves -/
def exH (h h' : Hc) : Hc := if kept h h' = true then h'.take h.length else h'
theorem leaveX_exH (h h' : Hc) (c : Nat) : leaveX h h' c = .ex c (exH h h') := by
  unfold leaveX exH
  split <;> rfl
@[simp] theorem fin_sx (fz : Bool) (h : Hc) (x : X ε α) (hx : ε → Hc) (k : α → S) : fin fz h (sx x hx k) = rx x (fun e => exH h (hx e)) fun a => fin fz h (k a) := by
  cases x <;> first | rfl | exact leaveX_exH _ _ _
@[simp] theorem fin_so (fz : Bool) (h : Hc) (x : Option α) (k : α → S) : fin fz h (so x k) = ro x fun a => fin fz h (k a) := by cases x <;> rfl
@[simp] theorem fin_ite (fz : Bool) (h : Hc) (c : Prop) [Decidable c] (x y : S) : fin fz h (if c then x else y) = if c then fin fz h x else fin fz h y := by split <;> rfl
@[simp] theorem fin_cas (fz : Bool) (h : Hc) (r : Le ζ σ) (f : σ → S) (q : ζ → σ → S) : fin fz h (r.cas f q) = r.cas (fun s => fin fz h (f s)) (fun b s => fin fz h (q b s)) := by cases r <;> rfl
@[simp] theorem fin_bad (fz : Bool) (h : Hc) : fin fz h .bad = .bad := rfl
@[simp] theorem fin_ex' (fz : Bool) (h h' : Hc) (c : Nat) (ρ : Env) : fin fz h (.ex c ρ h') = .ex c (exH h h') := leaveX_exH _ _ _
@[simp] theorem opt_ro (o : Option α) (f : α → R D) : Q.opt o f = ro o f := by cases o <;> rfl
@[simp] theorem ro_some (a : α) (k : α → R β) : ro (some a) k = k a := rfl
@[simp] theorem ro_none (k : α → R β) : ro (none : Option α) k = .bad := rfl
@[simp] theorem so_some (a : α) (k : α → S) : so (some a) k = k a := rfl
@[simp] theorem so_none (k : α → S) : so (none : Option α) k = .bad := rfl
@[simp] theorem ro_map (o : Option α) (f : α → β) (k : β → R γ) : ro (o.map f) k = ro o fun a => k (f a) := by cases o <;> rfl
@[simp] theorem so_map (o : Option α) (f : α → β) (k : β → S) : so (o.map f) k = so o fun a => k (f a) := by cases o <;> rfl
@[simp] theorem ro_ite (c : Prop) [Decidable c] (x y : Option α) (k : α → R β) : ro (if c then x else y) k = if c then ro x k else ro y k := by split <;> rfl
end
/-! ### encoders -/
section
variable {α β γ δ : Type}
def eTup (e : α → D) (xs : List α) : D := .tup (xs.map e)
def eLst (e : α → D) (xs : List α) : D := .lst (xs.map e)
def e2 (a : α → D) (b : β → D) (p : α × β) : D := .tup [a p.1, b p.2]
def e3 (a : α → D) (b : β → D) (c : γ → D) (p : α × β × γ) : D := .tup [a p.1, b p.2.1, c p.2.2]
def e4 (a : α → D) (b : β → D) (c : γ → D) (d : δ → D) (p : α × β × γ × δ) : D := .tup [a p.1, b p.2.1, c p.2.2.1, d p.2.2.2]
def eOpt (e : α → D) : Option α → D
  | none => .non
  | some a => e a
def eN (_ : Unit) : D := .non
def oLst (e : α → D) (xs : List α) : O := .lst (xs.map e)
def oDk (e : α → D) (kvs : List (Key × α)) : O := .dk (kvs.map fun p => (p.1, e p.2))
def oDt (e : α → D) (kvs : List (List Key × α)) : O := .dt (kvs.map fun p => (p.1, e p.2))
/-- the pen of a law: three numbers -/
def oPen (s : Int × Int × Int) : O := .lst [.int s.1, .int s.2.1, .int s.2.2]
class Cod (e : α → D) : Prop where
  flat : ∀ x, (e x).flat = true
instance : Cod D.int := ⟨fun _ => by simp⟩
instance : Cod D.bl := ⟨fun _ => by simp⟩
instance : Cod D.str := ⟨fun _ => by simp⟩
instance : Cod D.scr := ⟨fun _ => by simp [D.flat]⟩
instance : Cod eN := ⟨fun _ => by simp [eN]⟩
@[simp] theorem flats_map (e : α → D) [Cod e] : ∀ xs : List α, D.flats (xs.map e) = true
  | [] => rfl
  | x :: xs => by simp [Cod.flat, flats_map e xs]
instance (e : α → D) [Cod e] : Cod (eTup e) := ⟨fun _ => by simp [eTup]⟩
instance (e : α → D) [Cod e] : Cod (eLst e) := ⟨fun _ => by simp [eLst]⟩
instance (a : α → D) (b : β → D) [Cod a] [Cod b] : Cod (e2 a b) := ⟨fun _ => by simp [e2, Cod.flat]⟩
instance (a : α → D) (b : β → D) (c : γ → D) [Cod a] [Cod b] [Cod c] : Cod (e3 a b c) := ⟨fun _ => by simp [e3, Cod.flat]⟩
instance (a : α → D) (b : β → D) (c : γ → D) (d : δ → D) [Cod a] [Cod b] [Cod c] [Cod d] : Cod (e4 a b c d) := ⟨fun _ => by simp [e4, Cod.flat]⟩
instance (e : α → D) [Cod e] : Cod (eOpt e) := ⟨fun o => by cases o <;> simp [eOpt, Cod.flat]⟩
@[simp] theorem flat_eTup (e : α → D) [Cod e] (x) : (eTup e x).flat = true := Cod.flat _
@[simp] theorem flat_eLst (e : α → D) [Cod e] (x) : (eLst e x).flat = true := Cod.flat _
@[simp] theorem flat_e2 (a : α → D) (b : β → D) [Cod a] [Cod b] (x) : (e2 a b x).flat = true := Cod.flat _
@[simp] theorem flat_e3 (a : α → D) (b : β → D) (c : γ → D) [Cod a] [Cod b] [Cod c] (x) : (e3 a b c x).flat = true := Cod.flat _
@[simp] theorem flat_e4 (a : α → D) (b : β → D) (c : γ → D) (d : δ → D) [Cod a] [Cod b] [Cod c] [Cod d] (x) : (e4 a b c d x).flat = true := Cod.flat _
@[simp] theorem flat_eOpt (e : α → D) [Cod e] (x) : (eOpt e x).flat = true := Cod.flat _
@[simp] theorem flat_eN (x) : (eN x).flat = true := Cod.flat _
@[simp] theorem flat_scr (x) : (D.scr x).flat = true := Cod.flat _
def O.flat : O → Bool
  | .lst xs => D.flats xs
  | .hl xs => D.flats xs
  | .dk kvs => D.flats (kvs.map (·.2))
  | .dt kvs => D.flats (kvs.map (·.2))
  | .wk kvs => D.flats (kvs.map (·.2))
  | .wt kvs => D.flats (kvs.map (·.2))
  | .ins _ fs => D.flats (fs.map (·.2))
theorem O.flat_old {o : O} (m : Nat) (h : o.flat = true) : o.old m = true := by
  cases o <;> exact D.flats_old m _ h
def oflats (L : Hc) : Bool := L.all O.flat
@[simp] theorem oflats_nil : oflats [] = true := rfl
@[simp] theorem oflats_cons (o : O) (L : Hc) : oflats (o :: L) = (o.flat && oflats L) := by simp [oflats]
@[simp] theorem oflat_lst (xs : List D) : (O.lst xs).flat = D.flats xs := rfl
@[simp] theorem oflat_hl (xs : List D) : (O.hl xs).flat = D.flats xs := rfl
@[simp] theorem oflat_oLst (e : α → D) [Cod e] (xs : List α) : (oLst e xs).flat = true := by simp [oLst]
@[simp] theorem oflat_oPen (s) : (oPen s).flat = true := by simp [oPen]
@[simp] theorem oflat_oDk (e : α → D) [Cod e] (kvs) : (oDk e kvs).flat = true := by
  have : (kvs.map fun p : Key × α => (p.1, e p.2)).map (·.2) = (kvs.map (·.2)).map e := by simp
  unfold oDk O.flat
  simp only [this, flats_map]
@[simp] theorem oflat_oDt (e : α → D) [Cod e] (kvs) : (oDt e kvs).flat = true := by
  have : (kvs.map fun p : List Key × α => (p.1, e p.2)).map (·.2) = (kvs.map (·.2)).map e := by simp
  unfold oDt O.flat
  simp only [this, flats_map]
@[simp] theorem old_eTup (m : Nat) (e : α → D) [Cod e] (x) : D.old m (eTup e x) = true := D.flat_old m _ (Cod.flat _)
@[simp] theorem old_eLst (m : Nat) (e : α → D) [Cod e] (x) : D.old m (eLst e x) = true := D.flat_old m _ (Cod.flat _)
@[simp] theorem old_e2 (m : Nat) (a : α → D) (b : β → D) [Cod a] [Cod b] (x) : D.old m (e2 a b x) = true := D.flat_old m _ (Cod.flat _)
@[simp] theorem old_e3 (m : Nat) (a : α → D) (b : β → D) (c : γ → D) [Cod a] [Cod b] [Cod c] (x) : D.old m (e3 a b c x) = true := D.flat_old m _ (Cod.flat _)
@[simp] theorem old_e4 (m : Nat) (a : α → D) (b : β → D) (c : γ → D) (d : δ → D) [Cod a] [Cod b] [Cod c] [Cod d] (x) : D.old m (e4 a b c d x) = true := D.flat_old m _ (Cod.flat _)
@[simp] theorem old_eOpt (m : Nat) (e : α → D) [Cod e] (x) : D.old m (eOpt e x) = true := D.flat_old m _ (Cod.flat _)
@[simp] theorem old_eN (m : Nat) (x) : D.old m (eN x) = true := D.flat_old m _ (Cod.flat _)
@[simp] theorem old_scr (m : Nat) (x) : D.old m (.scr x) = true := D.flat_old m _ (Cod.flat _)
@[simp] theorem old_int (m : Nat) (x) : D.old m (.int x) = true := D.flat_old m _ (Cod.flat _)
@[simp] theorem old_bl (m : Nat) (x) : D.old m (.bl x) = true := D.flat_old m _ (Cod.flat _)
@[simp] theorem old_str (m : Nat) (x) : D.old m (.str x) = true := D.flat_old m _ (Cod.flat _)
@[simp] theorem old_non (m : Nat) : D.old m .non = true := rfl
@[simp] theorem old_ref (m n : Nat) : D.old m (.ref n) = decide (n < m) := rfl
@[simp] theorem envOld_nil (m : Nat) : envOld m [] = true := rfl
@[simp] theorem envOld_none (m : Nat) (ρ : Env) : envOld m (none :: ρ) = envOld m ρ := rfl
@[simp] theorem envOld_some (m : Nat) (d : D) (ρ : Env) : envOld m (some d :: ρ) = (D.old m d && envOld m ρ) := rfl
@[simp] theorem olds_map (m : Nat) (e : α → D) [Cod e] (xs : List α) : D.olds m (xs.map e) = true := D.flats_old m _ (flats_map e xs)
end
/-! ### heaps -/
theorem kept_gen {h h' L L' : Hc} (hl : h'.length = h.length) (hk : kept h h' = true) (ll : L.length ≤ L'.length) (hf : oflats L' = true) : kept (h ++ L) (h' ++ L') = true := by
  unfold kept at hk ⊢
  simp only [Bool.and_eq_true, decide_eq_true_eq, List.all_eq_true, List.mem_range, Bool.or_eq_true, List.length_append] at hk ⊢
  refine ⟨by omega, fun i hi => ?_⟩
  by_cases hlt : i < h.length
  · rw [List.getElem?_append_left hlt, List.getElem?_append_left (by omega)]
    rcases hk.2 i hlt with q | q
    · exact .inl q
    · refine .inr ?_
      split at q
      · rename_i o ho
        rw [ho]
        simp only
        have : ∀ (o : O) (a b : Nat), a ≤ b → o.old a = true → o.old b = true := by
          have hd : ∀ (a b : Nat), a ≤ b → (∀ d : D, d.old a = true → d.old b = true) := by
            intro a b hab
            have main : (∀ d : D, d.old a = true → d.old b = true) ∧ (∀ ds : List D, D.olds a ds = true → D.olds b ds = true) := by
              have key : ∀ n : Nat, (∀ d : D, sizeOf d ≤ n → d.old a = true → d.old b = true) ∧ (∀ ds : List D, sizeOf ds ≤ n → D.olds a ds = true → D.olds b ds = true) := by
                intro n
                induction n with
                | zero =>
                  refine ⟨fun d hd => ?_, fun ds hd => ?_⟩
                  · cases d <;> simp at hd
                  · cases ds <;> simp at hd
                | succ n ih =>
                  refine ⟨fun d hd ho => ?_, fun ds hd ho => ?_⟩
                  · cases d with
                    | tup xs => simp only [D.old] at ho ⊢; exact ih.2 xs (by simp at hd; omega) ho
                    | lst xs => simp only [D.old] at ho ⊢; exact ih.2 xs (by simp at hd; omega) ho
                    | ftp xs => simp only [D.old] at ho ⊢; exact ih.2 xs (by simp at hd; omega) ho
                    | dk ks xs => simp only [D.old] at ho ⊢; exact ih.2 xs (by simp at hd; omega) ho
                    | dt ks xs => simp only [D.old] at ho ⊢; exact ih.2 xs (by simp at hd; omega) ho
                    | ref n => simp only [D.old, decide_eq_true_eq] at ho ⊢; omega
                    | _ => rfl
                  · cases ds with
                    | nil => rfl
                    | cons x xs =>
                      simp only [D.olds, Bool.and_eq_true] at ho ⊢
                      exact ⟨ih.1 x (by simp at hd; omega) ho.1, ih.2 xs (by simp at hd; omega) ho.2⟩
              exact ⟨fun d => (key (sizeOf d)).1 d (Nat.le_refl _), fun ds => (key (sizeOf ds)).2 ds (Nat.le_refl _)⟩
            exact main.1
          have hds : ∀ (a b : Nat), a ≤ b → (∀ ds : List D, D.olds a ds = true → D.olds b ds = true) := by
            intro a b hab ds
            induction ds with
            | nil => exact fun _ => rfl
            | cons x xs ih =>
              intro ho
              simp only [D.olds, Bool.and_eq_true] at ho ⊢
              exact ⟨hd a b hab x ho.1, ih ho.2⟩
          intro o a b hab ho
          cases o <;> exact hds a b hab _ ho
        exact this o _ _ (by omega) q
      · cases q
  · rw [List.getElem?_append_right (by omega), List.getElem?_append_right (by omega), hl]
    refine .inr ?_
    have : i - h.length < L'.length := by omega
    rw [List.getElem?_eq_getElem this]
    simp only
    refine O.flat_old _ ?_
    have := List.all_eq_true.mp hf L'[i - h.length] (List.getElem_mem _)
    exact this
@[simp] theorem kept_self (h : Hc) : kept h h = true := kept_refl h
@[simp] theorem kept_app' (h L : Hc) : kept h (h ++ L) = true := kept_app h L
@[simp] theorem kept_pp (h L L' : Hc) (ll : L.length ≤ L'.length) (hf : oflats L' = true) : kept (h ++ L) (h ++ L') = true := kept_gen rfl (kept_refl h) ll hf
@[simp] theorem kept_st (h L : Hc) (p : Nat) (o : O) (ho : o.flat = true) : kept h (h.set p o ++ L) = true := kept_set (O.flat_old _ ho)
@[simp] theorem kept_st0 (h : Hc) (p : Nat) (o : O) (ho : o.flat = true) : kept h (h.set p o) = true := by
  have := kept_set (h := h) (e := []) (p := p) (O.flat_old h.length ho)
  simpa using this
theorem kept_ss0 (h : Hc) (p : Nat) (o o' : O) (ho : o'.flat = true) : kept (h.set p o) (h.set p o') = true := by
  have := kept_st0 (h.set p o) p o' ho
  simpa using this
@[simp] theorem kept_ss (h : Hc) (p : Nat) (o o' : O) (ho : o'.flat = true) : kept (h.set p o) (h.set p o') = true := kept_ss0 h p o o' ho
@[simp] theorem kept_ss1 (h L : Hc) (p : Nat) (o o' : O) (ho : o'.flat = true) (hf : oflats L = true) : kept (h.set p o) (h.set p o' ++ L) = true := by
  have := kept_gen (h := h.set p o) (h' := h.set p o') (L := []) (L' := L) (by simp) (kept_ss0 h p o o' ho) (by simp) hf
  simpa using this
@[simp] theorem kept_sp (h L L' : Hc) (p : Nat) (o : O) (ho : o.flat = true) (ll : L.length ≤ L'.length) (hf : oflats L' = true) : kept (h ++ L) (h.set p o ++ L') = true := kept_gen (by simp) (kept_st0 h p o ho) ll hf
@[simp] theorem kept_spp (h L L' : Hc) (p : Nat) (o o' : O) (ho : o'.flat = true) (ll : L.length ≤ L'.length) (hf : oflats L' = true) : kept (h.set p o ++ L) (h.set p o' ++ L') = true := kept_gen (by simp) (kept_ss0 h p o o' ho) ll hf
@[simp] theorem take_pp (h L L' : Hc) : (h ++ L').take (h ++ L).length = h ++ L'.take L.length := by
  rw [List.length_append, List.take_length_add_append]
@[simp] theorem take_p (h L : Hc) : (h ++ L).take h.length = h := List.take_left
@[simp] theorem take_sp (h L L' : Hc) (p : Nat) (o : O) : (h.set p o ++ L').take (h.length + L.length) = h.set p o ++ L'.take L.length := by
  have : h.length = (h.set p o).length := by simp
  rw [this, List.take_length_add_append]
@[simp] theorem take_s (h L : Hc) (p : Nat) (o : O) : (h.set p o ++ L).take h.length = h.set p o := by
  have : h.length = (h.set p o).length := by simp
  rw [this, List.take_left]
@[simp] theorem take_s0 (h : Hc) (p : Nat) (o : O) : (h.set p o).take h.length = h.set p o := by
  have : h.length = (h.set p o).length := by simp
  rw [this, List.take_length]
end Q

/-! XB: the clean evaluator turned for rewriting. -/
namespace Q
open PySem
/-! ### statements, without the slots at an exception -/
def nrm (b0 : Hc) : S → S
  | .ex c _ h => .ex c [] (exH b0 h)
  | .rt d h => if d.flat = true then .rt d (exH b0 h) else .rt d h
  | s => s
def rtN (b0 : Hc) (d : D) (h : Hc) : S := if d.flat = true then .rt d (exH b0 h) else .rt d h
theorem rtN_flat {b0 : Hc} {d : D} {h : Hc} (hd : d.flat = true) : rtN b0 d h = .rt d (exH b0 h) := if_pos hd
@[simp] theorem rtN_int (b0 : Hc) (i : Int) (h : Hc) : rtN b0 (.int i) h = .rt (.int i) (exH b0 h) := rfl
@[simp] theorem rtN_bl (b0 : Hc) (i : Bool) (h : Hc) : rtN b0 (.bl i) h = .rt (.bl i) (exH b0 h) := rfl
@[simp] theorem rtN_str (b0 : Hc) (i : PySem.Str) (h : Hc) : rtN b0 (.str i) h = .rt (.str i) (exH b0 h) := rfl
@[simp] theorem rtN_non (b0 : Hc) (h : Hc) : rtN b0 .non h = .rt .non (exH b0 h) := rfl
@[simp] theorem rtN_ref (b0 : Hc) (n : Nat) (h : Hc) : rtN b0 (.ref n) h = .rt (.ref n) h := rfl
@[simp] theorem rtN_eTup {α : Type} (e : α → D) [Cod e] (b0 : Hc) (x : List α) (h : Hc) : rtN b0 (eTup e x) h = .rt (eTup e x) (exH b0 h) := rtN_flat (Cod.flat _)
@[simp] theorem rtN_eLst {α : Type} (e : α → D) [Cod e] (b0 : Hc) (x : List α) (h : Hc) : rtN b0 (eLst e x) h = .rt (eLst e x) (exH b0 h) := rtN_flat (Cod.flat _)
@[simp] theorem rtN_eOpt {α : Type} (e : α → D) [Cod e] (b0 : Hc) (x : Option α) (h : Hc) : rtN b0 (eOpt e x) h = .rt (eOpt e x) (exH b0 h) := rtN_flat (Cod.flat _)
@[simp] theorem rtN_e2 {α β : Type} (a : α → D) (b : β → D) [Cod a] [Cod b] (b0 : Hc) (x) (h : Hc) : rtN b0 (e2 a b x) h = .rt (e2 a b x) (exH b0 h) := rtN_flat (Cod.flat _)
@[simp] theorem rtN_e3 {α β γ : Type} (a : α → D) (b : β → D) (c : γ → D) [Cod a] [Cod b] [Cod c] (b0 : Hc) (x) (h : Hc) : rtN b0 (e3 a b c x) h = .rt (e3 a b c x) (exH b0 h) := rtN_flat (Cod.flat _)
@[simp] theorem rtN_e4 {α β γ δ : Type} (a : α → D) (b : β → D) (c : γ → D) (d : δ → D) [Cod a] [Cod b] [Cod c] [Cod d] (b0 : Hc) (x) (h : Hc) : rtN b0 (e4 a b c d x) h = .rt (e4 a b c d x) (exH b0 h) := rtN_flat (Cod.flat _)
/-- one expression ahead of what follows; b0: the heap at the def's start -/
def R.stM {α : Type} (b0 : Hc) (r : R α) (f : α → Hc → S) : S := match r with
  | .ok a h => f a h
  | .ex c h => .ex c [] (exH b0 h)
  | .bad => .bad
@[simp] theorem stM_ok {α : Type} (b0 : Hc) (a : α) (h : Hc) (f : α → Hc → S) : (R.ok a h).stM b0 f = f a h := rfl
@[simp] theorem stM_ex {α : Type} (b0 : Hc) (c : Nat) (h : Hc) (f : α → Hc → S) : (R.ex c h : R α).stM b0 f = .ex c [] (exH b0 h) := rfl
@[simp] theorem stM_bad {α : Type} (b0 : Hc) (f : α → Hc → S) : (R.bad : R α).stM b0 f = .bad := rfl
@[simp] theorem stM_rx {ε α β : Type} (b0 : Hc) (x : X ε α) (hx : ε → Hc) (k : α → R β) (g : β → Hc → S) : (rx x hx k).stM b0 g = sx x (fun e => exH b0 (hx e)) fun a => (k a).stM b0 g := by cases x <;> rfl
@[simp] theorem stM_ro {α β : Type} (b0 : Hc) (x : Option α) (k : α → R β) (g : β → Hc → S) : (ro x k).stM b0 g = so x fun a => (k a).stM b0 g := by cases x <;> rfl
@[simp] theorem stM_ite {α : Type} (b0 : Hc) (c : Prop) [Decidable c] (x y : R α) (g : α → Hc → S) : (if c then x else y).stM b0 g = if c then x.stM b0 g else y.stM b0 g := by split <;> rfl
@[simp] theorem stM_cas {ζ σ α : Type} (b0 : Hc) (r : Le ζ σ) (f : σ → R α) (q : ζ → σ → R α) (g : α → Hc → S) : (r.cas f q).stM b0 g = r.cas (fun s => (f s).stM b0 g) (fun b s => (q b s).stM b0 g) := by cases r <;> rfl
theorem exH_ok {h h' : Hc} (hk : kept h h' = true) : exH h h' = h'.take h.length := if_pos hk
@[simp] theorem exH_self (h : Hc) : exH h h = h := by rw [exH_ok (kept_self h), List.take_length]
@[simp] theorem exH_app (h L : Hc) : exH h (h ++ L) = h := by rw [exH_ok (kept_app' h L), take_p]
@[simp] theorem exH_ss (h : Hc) (p : Nat) (s s' : O) (hs : s'.flat = true) : exH (h.set p s) (h.set p s') = h.set p s' := by
  rw [exH_ok (kept_ss h p _ _ hs)]
  have : (h.set p s).length = (h.set p s').length := by simp
  rw [this, List.take_length]
theorem exH_exH (h h' : Hc) : exH h (exH h h') = exH h h' := by
  unfold exH
  by_cases hk : kept h h' = true
  · rw [if_pos hk]
    have hl : h.length ≤ h'.length := by
      unfold kept at hk
      simp only [Bool.and_eq_true, decide_eq_true_eq] at hk
      exact hk.1
    have : kept h (h'.take h.length) = true := by
      unfold kept at hk ⊢
      simp only [Bool.and_eq_true, decide_eq_true_eq, List.all_eq_true, List.mem_range, List.length_take] at hk ⊢
      refine ⟨by omega, fun i hi => ?_⟩
      rw [List.getElem?_take_of_lt hi]
      exact hk.2 i hi
    rw [if_pos this, List.take_take, Nat.min_self]
  · rw [if_neg hk, if_neg hk]
def bindS (o : Option Env) (f : Env → S) : S := match o with
  | some ρ => f ρ
  | none => .bad
@[simp] theorem bindS_some (ρ : Env) (f : Env → S) : bindS (some ρ) f = f ρ := rfl
@[simp] theorem bindS_none (f : Env → S) : bindS none f = .bad := rfl
def setS (o : Option Hc) (ρ : Env) : S := match o with
  | some h => .nx ρ h
  | none => .bad
@[simp] theorem setS_some (ρ : Env) (h : Hc) : setS (some h) ρ = .nx ρ h := rfl
def wkS (o : Option Wk) (f : Wk → S) : S := match o with
  | some w => f w
  | none => .bad
@[simp] theorem wkS_some (w : Wk) (f : Wk → S) : wkS (some w) f = f w := rfl
mutual
noncomputable def exeN (b0 : Hc) (F : Nat → List D → Hc → R D) : CS → Env → Hc → S
  | .asg t e, ρ, h => (ev F e ρ h).stM b0 fun d h => bindS (bindT t d ρ) fun ρ => .nx ρ h
  | .seti o i e, ρ, h => (ev F e ρ h).stM b0 fun v h => (ev F o ρ h).stM b0 fun d h => (ev F i ρ h).stM b0 fun k h => setS (setItem d k v h) ρ
  | .ex e, ρ, h => (ev F e ρ h).stM b0 fun _ h => .nx ρ h
  | .ret e, ρ, h => (ev F e ρ h).stM b0 fun d h => rtN b0 d h
  | .retN, _, h => .rt .non (exH b0 h)
  | .ife c a b, ρ, h => (truthR (ev F c ρ h)).stM b0 fun k h => if k = true then exesN b0 F a ρ h else exesN b0 F b ρ h
  | .for k es tg b, ρ, h => (evs F es ρ h).stM b0 fun ds h => wkS (walkOf k ds h) fun w => forL tg w.stay (exesN b0 F b) w.items ρ (lockH k ds h)
  | .whil c b, ρ, h => nrm b0 (whilL (fun ρ h => truthR (ev F c ρ h)) (exes F b) ρ h)
  | .raise c, ρ, h => .ex c [] (exH b0 h)
  | .pass, ρ, h => .nx ρ h
  | .brk, ρ, h => .bk ρ h
  | .cont, ρ, h => .ct ρ h
  | .blk own b, ρ, h => tidyS own h (exesN b0 F b ρ h)
noncomputable def exesN (b0 : Hc) (F : Nat → List D → Hc → R D) : List CS → Env → Hc → S
  | [], ρ, h => .nx ρ h
  | s :: ss, ρ, h => (exeN b0 F s ρ h).andThen fun ρ h => exesN b0 F ss ρ h
end
theorem nrm_st {α : Type} (b0 : Hc) (r : R α) (ρ : Env) (f : α → Hc → S) : nrm b0 (r.st ρ f) = r.stM b0 fun a h => nrm b0 (f a h) := by cases r <;> rfl
theorem nrm_rt (b0 : Hc) (d : D) (h : Hc) : nrm b0 (.rt d h) = rtN b0 d h := rfl
theorem rtN_then (b0 : Hc) (d : D) (h : Hc) (f : Env → Hc → S) : (rtN b0 d h).andThen f = rtN b0 d h := by
  unfold rtN
  split <;> rfl
theorem rtN_tidy (b0 : Hc) (d : D) (h h2 : Hc) (own : List Nat) : tidyS own h2 (rtN b0 d h) = rtN b0 d h := by
  unfold rtN
  split <;> rfl
theorem nrm_then (b0 : Hc) (s : S) (f : Env → Hc → S) : nrm b0 (s.andThen f) = (nrm b0 s).andThen fun ρ h => nrm b0 (f ρ h) := by
  cases s <;> first | rfl | (rw [S.andThen_rt, nrm_rt, rtN_then])
theorem nrm_for (b0 : Hc) (tg : CT) (g : List (Nat × O)) (b : Env → Hc → S) : ∀ (ds : List D) (ρ : Env) (h : Hc), nrm b0 (forL tg g b ds ρ h) = forL tg g (fun ρ h => nrm b0 (b ρ h)) ds ρ h
  | [], ρ, h => by
    simp only [forL]
    split <;> rfl
  | d :: ds, ρ, h => by
    simp only [forL]
    split
    · split
      · rfl
      · rename_i ρ' _
        cases hb : b ρ' h <;> first | (simp only [nrm]; exact nrm_for b0 tg g b ds _ _) | rfl | (simp only [nrm_rt, rtN]; split <;> rfl)
    · rfl
theorem nrm_tidy (b0 : Hc) (own : List Nat) (h : Hc) (s : S) : nrm b0 (tidyS own h s) = tidyS own h (nrm b0 s) := by
  have key : ∀ (f : Env → Hc → S) (ρ : Env) (h' : Hc), (∀ ρ h, nrm b0 (f ρ h) = f ρ h) → nrm b0 (tidyE own h f ρ h') = tidyE own h f ρ h' := fun f ρ h' hf => by
    unfold tidyE
    split <;> exact hf _ _
  cases s <;> first | rfl | exact key _ _ _ (fun _ _ => rfl) | (rw [tidy_rt, nrm_rt, rtN_tidy])
mutual
theorem nrm_exe (b0 : Hc) (F : Nat → List D → Hc → R D) : ∀ (c : CS) (ρ : Env) (h : Hc), nrm b0 (exe F c ρ h) = exeN b0 F c ρ h
  | .asg t e, ρ, h => by
    rw [exe, exeN, nrm_st]
    congr 1
    funext d h
    cases bindT t d ρ <;> rfl
  | .seti o i e, ρ, h => by
    rw [exe, exeN, nrm_st]
    congr 1
    funext v h
    rw [nrm_st]
    congr 1
    funext d h
    rw [nrm_st]
    congr 1
    funext k h
    cases setItem d k v h <;> rfl
  | .ex e, ρ, h => by
    rw [exe, exeN, nrm_st]
    rfl
  | .ret e, ρ, h => by
    rw [exe, exeN, nrm_st]
    rfl
  | .retN, _, h => by rw [exe, exeN]; rfl
  | .ife c a b, ρ, h => by
    rw [exe, exeN, nrm_st]
    congr 1
    funext k h
    cases k
    · exact nrm_exes b0 F b ρ h
    · exact nrm_exes b0 F a ρ h
  | .for k es tg b, ρ, h => by
    rw [exe, exeN, nrm_st]
    congr 1
    funext ds h
    cases walkOf k ds h with
    | none => rfl
    | some w =>
      simp only [wkS, nrm_for]
      congr 1
      funext ρ h
      exact nrm_exes b0 F b ρ h
  | .whil c b, ρ, h => by rw [exe, exeN]
  | .raise c, ρ, h => by rw [exe, exeN]; rfl
  | .pass, ρ, h => by rw [exe, exeN]; rfl
  | .brk, ρ, h => by rw [exe, exeN]; rfl
  | .cont, ρ, h => by rw [exe, exeN]; rfl
  | .blk own b, ρ, h => by rw [exe, exeN, nrm_tidy, nrm_exes b0 F b ρ h]
theorem nrm_exes (b0 : Hc) (F : Nat → List D → Hc → R D) : ∀ (cs : List CS) (ρ : Env) (h : Hc), nrm b0 (exes F cs ρ h) = exesN b0 F cs ρ h
  | [], ρ, h => by rw [exes, exesN]; rfl
  | c :: cs, ρ, h => by
    rw [exes, exesN, nrm_then, nrm_exe b0 F c ρ h]
    congr 1
    funext ρ h
    exact nrm_exes b0 F cs ρ h
end
theorem fin_nrm (fz : Bool) (h : Hc) (s : S) : fin fz h (nrm h s) = fin fz h s := by
  cases s with
  | rt d h' =>
    rw [nrm_rt]
    unfold rtN
    split
    · rename_i hd
      unfold exH
      split
      · rename_i hk
        rw [fin_rt, fin_rt, leave_at hk hd]
        have hl : h.length ≤ h'.length := by
          unfold kept at hk
          simp only [Bool.and_eq_true, decide_eq_true_eq] at hk
          exact hk.1
        have hk2 : kept h (h'.take h.length) = true := by
          unfold kept at hk ⊢
          simp only [Bool.and_eq_true, decide_eq_true_eq, List.all_eq_true, List.mem_range, List.length_take] at hk ⊢
          refine ⟨by omega, fun i hi => ?_⟩
          rw [List.getElem?_take_of_lt hi]
          exact hk.2 i hi
        rw [leave_at hk2 hd, List.take_take, Nat.min_self]
      · rfl
    · rfl
  | ex c ρ h' => simp only [nrm, fin_ex', exH_exH]
  | _ => rfl
theorem runN {T : Tab} {n f : Nat} {F : Fn} {ds : List D} {h : Hc} (hT : T f = some F) (hl : ds.length = F.np) :
    runF T (n + 1) f ds h = fin F.fz h (exesN h (runF T n) F.body (ds.map some ++ List.replicate (F.ns - F.np) none) h) := by
  rw [run_eq hT hl, ← nrm_exes h, fin_nrm]
@[simp] theorem lockH_seq (ds : List D) (h : Hc) : lockH .seq ds h = h := rfl
@[simp] theorem lockH_rng1 (ds : List D) (h : Hc) : lockH .rng1 ds h = h := rfl
@[simp] theorem lockH_rng2 (ds : List D) (h : Hc) : lockH .rng2 ds h = h := rfl
@[simp] theorem lockH_enum (ds : List D) (h : Hc) : lockH .enum ds h = h := rfl
@[simp] theorem lockH_zip (ds : List D) (h : Hc) : lockH .zip ds h = h := rfl
/-- the body of a loop -/
noncomputable def bodyN (b0 : Hc) (F : Nat → List D → Hc → R D) (b : List CS) : Env → Hc → S := exesN b0 F b
section
variable (b0 : Hc) (F : Nat → List D → Hc → R D) (ρ : Env) (h : Hc)
theorem x_asg (t : CT) (e : CE) : exeN b0 F (.asg t e) ρ h = (ev F e ρ h).stM b0 fun d h => bindS (bindT t d ρ) fun ρ => .nx ρ h := by rw [exeN]
theorem x_seti (o i e : CE) : exeN b0 F (.seti o i e) ρ h = (ev F e ρ h).stM b0 fun v h => (ev F o ρ h).stM b0 fun d h => (ev F i ρ h).stM b0 fun k h => setS (setItem d k v h) ρ := by rw [exeN]
theorem x_ex (e : CE) : exeN b0 F (.ex e) ρ h = (ev F e ρ h).stM b0 fun _ h => .nx ρ h := by rw [exeN]
theorem x_ret (e : CE) : exeN b0 F (.ret e) ρ h = (ev F e ρ h).stM b0 fun d h => rtN b0 d h := by rw [exeN]
theorem x_retN : exeN b0 F .retN ρ h = .rt .non (exH b0 h) := by rw [exeN]
theorem x_ife (c : CE) (a b : List CS) : exeN b0 F (.ife c a b) ρ h = (truthR (ev F c ρ h)).stM b0 fun k h => if k = true then exesN b0 F a ρ h else exesN b0 F b ρ h := by rw [exeN]
theorem x_for (k : IK) (es : List CE) (tg : CT) (b : List CS) : exeN b0 F (.for k es tg b) ρ h = (evs F es ρ h).stM b0 fun ds h => wkS (walkOf k ds h) fun w => forL tg w.stay (bodyN b0 F b) w.items ρ (lockH k ds h) := by rw [exeN]; rfl
theorem x_raise (c : Nat) : exeN b0 F (.raise c) ρ h = .ex c [] (exH b0 h) := by rw [exeN]
theorem x_pass : exeN b0 F .pass ρ h = .nx ρ h := by rw [exeN]
theorem x_brk : exeN b0 F .brk ρ h = .bk ρ h := by rw [exeN]
theorem x_cont : exeN b0 F .cont ρ h = .ct ρ h := by rw [exeN]
theorem x_blk (own : List Nat) (b : List CS) : exeN b0 F (.blk own b) ρ h = tidyS own h (exesN b0 F b ρ h) := by rw [exeN]
theorem x_nil : exesN b0 F [] ρ h = .nx ρ h := by rw [exesN]
theorem x_cons (s : CS) (ss : List CS) : exesN b0 F (s :: ss) ρ h = (exeN b0 F s ρ h).andThen fun ρ h => exesN b0 F ss ρ h := by rw [exesN]
end
/-! ### slots -/
@[simp] theorem nth_0 {α : Type} (a0 : α) (l : List α) : (a0 :: l)[0]? = some a0 := rfl
@[simp] theorem put_0 {α : Type} (a0 y : α) (l : List α) : (a0 :: l).set 0 y = y :: l := rfl
@[simp] theorem nth_1 {α : Type} (a0 a1 : α) (l : List α) : (a0 :: a1 :: l)[1]? = some a1 := rfl
@[simp] theorem put_1 {α : Type} (a0 a1 y : α) (l : List α) : (a0 :: a1 :: l).set 1 y = a0 :: y :: l := rfl
@[simp] theorem nth_2 {α : Type} (a0 a1 a2 : α) (l : List α) : (a0 :: a1 :: a2 :: l)[2]? = some a2 := rfl
@[simp] theorem put_2 {α : Type} (a0 a1 a2 y : α) (l : List α) : (a0 :: a1 :: a2 :: l).set 2 y = a0 :: a1 :: y :: l := rfl
@[simp] theorem nth_3 {α : Type} (a0 a1 a2 a3 : α) (l : List α) : (a0 :: a1 :: a2 :: a3 :: l)[3]? = some a3 := rfl
@[simp] theorem put_3 {α : Type} (a0 a1 a2 a3 y : α) (l : List α) : (a0 :: a1 :: a2 :: a3 :: l).set 3 y = a0 :: a1 :: a2 :: y :: l := rfl
@[simp] theorem nth_4 {α : Type} (a0 a1 a2 a3 a4 : α) (l : List α) : (a0 :: a1 :: a2 :: a3 :: a4 :: l)[4]? = some a4 := rfl
@[simp] theorem put_4 {α : Type} (a0 a1 a2 a3 a4 y : α) (l : List α) : (a0 :: a1 :: a2 :: a3 :: a4 :: l).set 4 y = a0 :: a1 :: a2 :: a3 :: y :: l := rfl
@[simp] theorem nth_5 {α : Type} (a0 a1 a2 a3 a4 a5 : α) (l : List α) : (a0 :: a1 :: a2 :: a3 :: a4 :: a5 :: l)[5]? = some a5 := rfl
@[simp] theorem put_5 {α : Type} (a0 a1 a2 a3 a4 a5 y : α) (l : List α) : (a0 :: a1 :: a2 :: a3 :: a4 :: a5 :: l).set 5 y = a0 :: a1 :: a2 :: a3 :: a4 :: y :: l := rfl
@[simp] theorem nth_6 {α : Type} (a0 a1 a2 a3 a4 a5 a6 : α) (l : List α) : (a0 :: a1 :: a2 :: a3 :: a4 :: a5 :: a6 :: l)[6]? = some a6 := rfl
@[simp] theorem put_6 {α : Type} (a0 a1 a2 a3 a4 a5 a6 y : α) (l : List α) : (a0 :: a1 :: a2 :: a3 :: a4 :: a5 :: a6 :: l).set 6 y = a0 :: a1 :: a2 :: a3 :: a4 :: a5 :: y :: l := rfl
@[simp] theorem nth_7 {α : Type} (a0 a1 a2 a3 a4 a5 a6 a7 : α) (l : List α) : (a0 :: a1 :: a2 :: a3 :: a4 :: a5 :: a6 :: a7 :: l)[7]? = some a7 := rfl
@[simp] theorem put_7 {α : Type} (a0 a1 a2 a3 a4 a5 a6 a7 y : α) (l : List α) : (a0 :: a1 :: a2 :: a3 :: a4 :: a5 :: a6 :: a7 :: l).set 7 y = a0 :: a1 :: a2 :: a3 :: a4 :: a5 :: a6 :: y :: l := rfl
@[simp] theorem nth_8 {α : Type} (a0 a1 a2 a3 a4 a5 a6 a7 a8 : α) (l : List α) : (a0 :: a1 :: a2 :: a3 :: a4 :: a5 :: a6 :: a7 :: a8 :: l)[8]? = some a8 := rfl
@[simp] theorem put_8 {α : Type} (a0 a1 a2 a3 a4 a5 a6 a7 a8 y : α) (l : List α) : (a0 :: a1 :: a2 :: a3 :: a4 :: a5 :: a6 :: a7 :: a8 :: l).set 8 y = a0 :: a1 :: a2 :: a3 :: a4 :: a5 :: a6 :: a7 :: y :: l := rfl
@[simp] theorem nth_9 {α : Type} (a0 a1 a2 a3 a4 a5 a6 a7 a8 a9 : α) (l : List α) : (a0 :: a1 :: a2 :: a3 :: a4 :: a5 :: a6 :: a7 :: a8 :: a9 :: l)[9]? = some a9 := rfl
@[simp] theorem put_9 {α : Type} (a0 a1 a2 a3 a4 a5 a6 a7 a8 a9 y : α) (l : List α) : (a0 :: a1 :: a2 :: a3 :: a4 :: a5 :: a6 :: a7 :: a8 :: a9 :: l).set 9 y = a0 :: a1 :: a2 :: a3 :: a4 :: a5 :: a6 :: a7 :: a8 :: y :: l := rfl
@[simp] theorem nth_10 {α : Type} (a0 a1 a2 a3 a4 a5 a6 a7 a8 a9 a10 : α) (l : List α) : (a0 :: a1 :: a2 :: a3 :: a4 :: a5 :: a6 :: a7 :: a8 :: a9 :: a10 :: l)[10]? = some a10 := rfl
@[simp] theorem put_10 {α : Type} (a0 a1 a2 a3 a4 a5 a6 a7 a8 a9 a10 y : α) (l : List α) : (a0 :: a1 :: a2 :: a3 :: a4 :: a5 :: a6 :: a7 :: a8 :: a9 :: a10 :: l).set 10 y = a0 :: a1 :: a2 :: a3 :: a4 :: a5 :: a6 :: a7 :: a8 :: a9 :: y :: l := rfl
@[simp] theorem nth_11 {α : Type} (a0 a1 a2 a3 a4 a5 a6 a7 a8 a9 a10 a11 : α) (l : List α) : (a0 :: a1 :: a2 :: a3 :: a4 :: a5 :: a6 :: a7 :: a8 :: a9 :: a10 :: a11 :: l)[11]? = some a11 := rfl
@[simp] theorem put_11 {α : Type} (a0 a1 a2 a3 a4 a5 a6 a7 a8 a9 a10 a11 y : α) (l : List α) : (a0 :: a1 :: a2 :: a3 :: a4 :: a5 :: a6 :: a7 :: a8 :: a9 :: a10 :: a11 :: l).set 11 y = a0 :: a1 :: a2 :: a3 :: a4 :: a5 :: a6 :: a7 :: a8 :: a9 :: a10 :: y :: l := rfl
@[simp] theorem nth_12 {α : Type} (a0 a1 a2 a3 a4 a5 a6 a7 a8 a9 a10 a11 a12 : α) (l : List α) : (a0 :: a1 :: a2 :: a3 :: a4 :: a5 :: a6 :: a7 :: a8 :: a9 :: a10 :: a11 :: a12 :: l)[12]? = some a12 := rfl
@[simp] theorem put_12 {α : Type} (a0 a1 a2 a3 a4 a5 a6 a7 a8 a9 a10 a11 a12 y : α) (l : List α) : (a0 :: a1 :: a2 :: a3 :: a4 :: a5 :: a6 :: a7 :: a8 :: a9 :: a10 :: a11 :: a12 :: l).set 12 y = a0 :: a1 :: a2 :: a3 :: a4 :: a5 :: a6 :: a7 :: a8 :: a9 :: a10 :: a11 :: y :: l := rfl
@[simp] theorem nth_13 {α : Type} (a0 a1 a2 a3 a4 a5 a6 a7 a8 a9 a10 a11 a12 a13 : α) (l : List α) : (a0 :: a1 :: a2 :: a3 :: a4 :: a5 :: a6 :: a7 :: a8 :: a9 :: a10 :: a11 :: a12 :: a13 :: l)[13]? = some a13 := rfl
@[simp] theorem put_13 {α : Type} (a0 a1 a2 a3 a4 a5 a6 a7 a8 a9 a10 a11 a12 a13 y : α) (l : List α) : (a0 :: a1 :: a2 :: a3 :: a4 :: a5 :: a6 :: a7 :: a8 :: a9 :: a10 :: a11 :: a12 :: a13 :: l).set 13 y = a0 :: a1 :: a2 :: a3 :: a4 :: a5 :: a6 :: a7 :: a8 :: a9 :: a10 :: a11 :: a12 :: y :: l := rfl
@[simp] theorem nth_14 {α : Type} (a0 a1 a2 a3 a4 a5 a6 a7 a8 a9 a10 a11 a12 a13 a14 : α) (l : List α) : (a0 :: a1 :: a2 :: a3 :: a4 :: a5 :: a6 :: a7 :: a8 :: a9 :: a10 :: a11 :: a12 :: a13 :: a14 :: l)[14]? = some a14 := rfl
@[simp] theorem put_14 {α : Type} (a0 a1 a2 a3 a4 a5 a6 a7 a8 a9 a10 a11 a12 a13 a14 y : α) (l : List α) : (a0 :: a1 :: a2 :: a3 :: a4 :: a5 :: a6 :: a7 :: a8 :: a9 :: a10 :: a11 :: a12 :: a13 :: a14 :: l).set 14 y = a0 :: a1 :: a2 :: a3 :: a4 :: a5 :: a6 :: a7 :: a8 :: a9 :: a10 :: a11 :: a12 :: a13 :: y :: l := rfl
@[simp] theorem nth_15 {α : Type} (a0 a1 a2 a3 a4 a5 a6 a7 a8 a9 a10 a11 a12 a13 a14 a15 : α) (l : List α) : (a0 :: a1 :: a2 :: a3 :: a4 :: a5 :: a6 :: a7 :: a8 :: a9 :: a10 :: a11 :: a12 :: a13 :: a14 :: a15 :: l)[15]? = some a15 := rfl
@[simp] theorem put_15 {α : Type} (a0 a1 a2 a3 a4 a5 a6 a7 a8 a9 a10 a11 a12 a13 a14 a15 y : α) (l : List α) : (a0 :: a1 :: a2 :: a3 :: a4 :: a5 :: a6 :: a7 :: a8 :: a9 :: a10 :: a11 :: a12 :: a13 :: a14 :: a15 :: l).set 15 y = a0 :: a1 :: a2 :: a3 :: a4 :: a5 :: a6 :: a7 :: a8 :: a9 :: a10 :: a11 :: a12 :: a13 :: a14 :: y :: l := rfl
@[simp] theorem nth_16 {α : Type} (a0 a1 a2 a3 a4 a5 a6 a7 a8 a9 a10 a11 a12 a13 a14 a15 a16 : α) (l : List α) : (a0 :: a1 :: a2 :: a3 :: a4 :: a5 :: a6 :: a7 :: a8 :: a9 :: a10 :: a11 :: a12 :: a13 :: a14 :: a15 :: a16 :: l)[16]? = some a16 := rfl
@[simp] theorem put_16 {α : Type} (a0 a1 a2 a3 a4 a5 a6 a7 a8 a9 a10 a11 a12 a13 a14 a15 a16 y : α) (l : List α) : (a0 :: a1 :: a2 :: a3 :: a4 :: a5 :: a6 :: a7 :: a8 :: a9 :: a10 :: a11 :: a12 :: a13 :: a14 :: a15 :: a16 :: l).set 16 y = a0 :: a1 :: a2 :: a3 :: a4 :: a5 :: a6 :: a7 :: a8 :: a9 :: a10 :: a11 :: a12 :: a13 :: a14 :: a15 :: y :: l := rfl
@[simp] theorem nth_17 {α : Type} (a0 a1 a2 a3 a4 a5 a6 a7 a8 a9 a10 a11 a12 a13 a14 a15 a16 a17 : α) (l : List α) : (a0 :: a1 :: a2 :: a3 :: a4 :: a5 :: a6 :: a7 :: a8 :: a9 :: a10 :: a11 :: a12 :: a13 :: a14 :: a15 :: a16 :: a17 :: l)[17]? = some a17 := rfl
@[simp] theorem put_17 {α : Type} (a0 a1 a2 a3 a4 a5 a6 a7 a8 a9 a10 a11 a12 a13 a14 a15 a16 a17 y : α) (l : List α) : (a0 :: a1 :: a2 :: a3 :: a4 :: a5 :: a6 :: a7 :: a8 :: a9 :: a10 :: a11 :: a12 :: a13 :: a14 :: a15 :: a16 :: a17 :: l).set 17 y = a0 :: a1 :: a2 :: a3 :: a4 :: a5 :: a6 :: a7 :: a8 :: a9 :: a10 :: a11 :: a12 :: a13 :: a14 :: a15 :: a16 :: y :: l := rfl
@[simp] theorem nth_18 {α : Type} (a0 a1 a2 a3 a4 a5 a6 a7 a8 a9 a10 a11 a12 a13 a14 a15 a16 a17 a18 : α) (l : List α) : (a0 :: a1 :: a2 :: a3 :: a4 :: a5 :: a6 :: a7 :: a8 :: a9 :: a10 :: a11 :: a12 :: a13 :: a14 :: a15 :: a16 :: a17 :: a18 :: l)[18]? = some a18 := rfl
@[simp] theorem put_18 {α : Type} (a0 a1 a2 a3 a4 a5 a6 a7 a8 a9 a10 a11 a12 a13 a14 a15 a16 a17 a18 y : α) (l : List α) : (a0 :: a1 :: a2 :: a3 :: a4 :: a5 :: a6 :: a7 :: a8 :: a9 :: a10 :: a11 :: a12 :: a13 :: a14 :: a15 :: a16 :: a17 :: a18 :: l).set 18 y = a0 :: a1 :: a2 :: a3 :: a4 :: a5 :: a6 :: a7 :: a8 :: a9 :: a10 :: a11 :: a12 :: a13 :: a14 :: a15 :: a16 :: a17 :: y :: l := rfl
@[simp] theorem nth_19 {α : Type} (a0 a1 a2 a3 a4 a5 a6 a7 a8 a9 a10 a11 a12 a13 a14 a15 a16 a17 a18 a19 : α) (l : List α) : (a0 :: a1 :: a2 :: a3 :: a4 :: a5 :: a6 :: a7 :: a8 :: a9 :: a10 :: a11 :: a12 :: a13 :: a14 :: a15 :: a16 :: a17 :: a18 :: a19 :: l)[19]? = some a19 := rfl
@[simp] theorem put_19 {α : Type} (a0 a1 a2 a3 a4 a5 a6 a7 a8 a9 a10 a11 a12 a13 a14 a15 a16 a17 a18 a19 y : α) (l : List α) : (a0 :: a1 :: a2 :: a3 :: a4 :: a5 :: a6 :: a7 :: a8 :: a9 :: a10 :: a11 :: a12 :: a13 :: a14 :: a15 :: a16 :: a17 :: a18 :: a19 :: l).set 19 y = a0 :: a1 :: a2 :: a3 :: a4 :: a5 :: a6 :: a7 :: a8 :: a9 :: a10 :: a11 :: a12 :: a13 :: a14 :: a15 :: a16 :: a17 :: a18 :: y :: l := rfl
@[simp] theorem nth_20 {α : Type} (a0 a1 a2 a3 a4 a5 a6 a7 a8 a9 a10 a11 a12 a13 a14 a15 a16 a17 a18 a19 a20 : α) (l : List α) : (a0 :: a1 :: a2 :: a3 :: a4 :: a5 :: a6 :: a7 :: a8 :: a9 :: a10 :: a11 :: a12 :: a13 :: a14 :: a15 :: a16 :: a17 :: a18 :: a19 :: a20 :: l)[20]? = some a20 := rfl
@[simp] theorem put_20 {α : Type} (a0 a1 a2 a3 a4 a5 a6 a7 a8 a9 a10 a11 a12 a13 a14 a15 a16 a17 a18 a19 a20 y : α) (l : List α) : (a0 :: a1 :: a2 :: a3 :: a4 :: a5 :: a6 :: a7 :: a8 :: a9 :: a10 :: a11 :: a12 :: a13 :: a14 :: a15 :: a16 :: a17 :: a18 :: a19 :: a20 :: l).set 20 y = a0 :: a1 :: a2 :: a3 :: a4 :: a5 :: a6 :: a7 :: a8 :: a9 :: a10 :: a11 :: a12 :: a13 :: a14 :: a15 :: a16 :: a17 :: a18 :: a19 :: y :: l := rfl
@[simp] theorem nth_21 {α : Type} (a0 a1 a2 a3 a4 a5 a6 a7 a8 a9 a10 a11 a12 a13 a14 a15 a16 a17 a18 a19 a20 a21 : α) (l : List α) : (a0 :: a1 :: a2 :: a3 :: a4 :: a5 :: a6 :: a7 :: a8 :: a9 :: a10 :: a11 :: a12 :: a13 :: a14 :: a15 :: a16 :: a17 :: a18 :: a19 :: a20 :: a21 :: l)[21]? = some a21 := rfl
@[simp] theorem put_21 {α : Type} (a0 a1 a2 a3 a4 a5 a6 a7 a8 a9 a10 a11 a12 a13 a14 a15 a16 a17 a18 a19 a20 a21 y : α) (l : List α) : (a0 :: a1 :: a2 :: a3 :: a4 :: a5 :: a6 :: a7 :: a8 :: a9 :: a10 :: a11 :: a12 :: a13 :: a14 :: a15 :: a16 :: a17 :: a18 :: a19 :: a20 :: a21 :: l).set 21 y = a0 :: a1 :: a2 :: a3 :: a4 :: a5 :: a6 :: a7 :: a8 :: a9 :: a10 :: a11 :: a12 :: a13 :: a14 :: a15 :: a16 :: a17 :: a18 :: a19 :: a20 :: y :: l := rfl
@[simp] theorem nth_22 {α : Type} (a0 a1 a2 a3 a4 a5 a6 a7 a8 a9 a10 a11 a12 a13 a14 a15 a16 a17 a18 a19 a20 a21 a22 : α) (l : List α) : (a0 :: a1 :: a2 :: a3 :: a4 :: a5 :: a6 :: a7 :: a8 :: a9 :: a10 :: a11 :: a12 :: a13 :: a14 :: a15 :: a16 :: a17 :: a18 :: a19 :: a20 :: a21 :: a22 :: l)[22]? = some a22 := rfl
@[simp] theorem put_22 {α : Type} (a0 a1 a2 a3 a4 a5 a6 a7 a8 a9 a10 a11 a12 a13 a14 a15 a16 a17 a18 a19 a20 a21 a22 y : α) (l : List α) : (a0 :: a1 :: a2 :: a3 :: a4 :: a5 :: a6 :: a7 :: a8 :: a9 :: a10 :: a11 :: a12 :: a13 :: a14 :: a15 :: a16 :: a17 :: a18 :: a19 :: a20 :: a21 :: a22 :: l).set 22 y = a0 :: a1 :: a2 :: a3 :: a4 :: a5 :: a6 :: a7 :: a8 :: a9 :: a10 :: a11 :: a12 :: a13 :: a14 :: a15 :: a16 :: a17 :: a18 :: a19 :: a20 :: a21 :: y :: l := rfl
@[simp] theorem nth_23 {α : Type} (a0 a1 a2 a3 a4 a5 a6 a7 a8 a9 a10 a11 a12 a13 a14 a15 a16 a17 a18 a19 a20 a21 a22 a23 : α) (l : List α) : (a0 :: a1 :: a2 :: a3 :: a4 :: a5 :: a6 :: a7 :: a8 :: a9 :: a10 :: a11 :: a12 :: a13 :: a14 :: a15 :: a16 :: a17 :: a18 :: a19 :: a20 :: a21 :: a22 :: a23 :: l)[23]? = some a23 := rfl
@[simp] theorem put_23 {α : Type} (a0 a1 a2 a3 a4 a5 a6 a7 a8 a9 a10 a11 a12 a13 a14 a15 a16 a17 a18 a19 a20 a21 a22 a23 y : α) (l : List α) : (a0 :: a1 :: a2 :: a3 :: a4 :: a5 :: a6 :: a7 :: a8 :: a9 :: a10 :: a11 :: a12 :: a13 :: a14 :: a15 :: a16 :: a17 :: a18 :: a19 :: a20 :: a21 :: a22 :: a23 :: l).set 23 y = a0 :: a1 :: a2 :: a3 :: a4 :: a5 :: a6 :: a7 :: a8 :: a9 :: a10 :: a11 :: a12 :: a13 :: a14 :: a15 :: a16 :: a17 :: a18 :: a19 :: a20 :: a21 :: a22 :: y :: l := rfl
@[simp] theorem nth_24 {α : Type} (a0 a1 a2 a3 a4 a5 a6 a7 a8 a9 a10 a11 a12 a13 a14 a15 a16 a17 a18 a19 a20 a21 a22 a23 a24 : α) (l : List α) : (a0 :: a1 :: a2 :: a3 :: a4 :: a5 :: a6 :: a7 :: a8 :: a9 :: a10 :: a11 :: a12 :: a13 :: a14 :: a15 :: a16 :: a17 :: a18 :: a19 :: a20 :: a21 :: a22 :: a23 :: a24 :: l)[24]? = some a24 := rfl
@[simp] theorem put_24 {α : Type} (a0 a1 a2 a3 a4 a5 a6 a7 a8 a9 a10 a11 a12 a13 a14 a15 a16 a17 a18 a19 a20 a21 a22 a23 a24 y : α) (l : List α) : (a0 :: a1 :: a2 :: a3 :: a4 :: a5 :: a6 :: a7 :: a8 :: a9 :: a10 :: a11 :: a12 :: a13 :: a14 :: a15 :: a16 :: a17 :: a18 :: a19 :: a20 :: a21 :: a22 :: a23 :: a24 :: l).set 24 y = a0 :: a1 :: a2 :: a3 :: a4 :: a5 :: a6 :: a7 :: a8 :: a9 :: a10 :: a11 :: a12 :: a13 :: a14 :: a15 :: a16 :: a17 :: a18 :: a19 :: a20 :: a21 :: a22 :: a23 :: y :: l := rfl
@[simp] theorem nth_25 {α : Type} (a0 a1 a2 a3 a4 a5 a6 a7 a8 a9 a10 a11 a12 a13 a14 a15 a16 a17 a18 a19 a20 a21 a22 a23 a24 a25 : α) (l : List α) : (a0 :: a1 :: a2 :: a3 :: a4 :: a5 :: a6 :: a7 :: a8 :: a9 :: a10 :: a11 :: a12 :: a13 :: a14 :: a15 :: a16 :: a17 :: a18 :: a19 :: a20 :: a21 :: a22 :: a23 :: a24 :: a25 :: l)[25]? = some a25 := rfl
@[simp] theorem put_25 {α : Type} (a0 a1 a2 a3 a4 a5 a6 a7 a8 a9 a10 a11 a12 a13 a14 a15 a16 a17 a18 a19 a20 a21 a22 a23 a24 a25 y : α) (l : List α) : (a0 :: a1 :: a2 :: a3 :: a4 :: a5 :: a6 :: a7 :: a8 :: a9 :: a10 :: a11 :: a12 :: a13 :: a14 :: a15 :: a16 :: a17 :: a18 :: a19 :: a20 :: a21 :: a22 :: a23 :: a24 :: a25 :: l).set 25 y = a0 :: a1 :: a2 :: a3 :: a4 :: a5 :: a6 :: a7 :: a8 :: a9 :: a10 :: a11 :: a12 :: a13 :: a14 :: a15 :: a16 :: a17 :: a18 :: a19 :: a20 :: a21 :: a22 :: a23 :: a24 :: y :: l := rfl
@[simp] theorem nth_26 {α : Type} (a0 a1 a2 a3 a4 a5 a6 a7 a8 a9 a10 a11 a12 a13 a14 a15 a16 a17 a18 a19 a20 a21 a22 a23 a24 a25 a26 : α) (l : List α) : (a0 :: a1 :: a2 :: a3 :: a4 :: a5 :: a6 :: a7 :: a8 :: a9 :: a10 :: a11 :: a12 :: a13 :: a14 :: a15 :: a16 :: a17 :: a18 :: a19 :: a20 :: a21 :: a22 :: a23 :: a24 :: a25 :: a26 :: l)[26]? = some a26 := rfl
@[simp] theorem put_26 {α : Type} (a0 a1 a2 a3 a4 a5 a6 a7 a8 a9 a10 a11 a12 a13 a14 a15 a16 a17 a18 a19 a20 a21 a22 a23 a24 a25 a26 y : α) (l : List α) : (a0 :: a1 :: a2 :: a3 :: a4 :: a5 :: a6 :: a7 :: a8 :: a9 :: a10 :: a11 :: a12 :: a13 :: a14 :: a15 :: a16 :: a17 :: a18 :: a19 :: a20 :: a21 :: a22 :: a23 :: a24 :: a25 :: a26 :: l).set 26 y = a0 :: a1 :: a2 :: a3 :: a4 :: a5 :: a6 :: a7 :: a8 :: a9 :: a10 :: a11 :: a12 :: a13 :: a14 :: a15 :: a16 :: a17 :: a18 :: a19 :: a20 :: a21 :: a22 :: a23 :: a24 :: a25 :: y :: l := rfl
@[simp] theorem nth_27 {α : Type} (a0 a1 a2 a3 a4 a5 a6 a7 a8 a9 a10 a11 a12 a13 a14 a15 a16 a17 a18 a19 a20 a21 a22 a23 a24 a25 a26 a27 : α) (l : List α) : (a0 :: a1 :: a2 :: a3 :: a4 :: a5 :: a6 :: a7 :: a8 :: a9 :: a10 :: a11 :: a12 :: a13 :: a14 :: a15 :: a16 :: a17 :: a18 :: a19 :: a20 :: a21 :: a22 :: a23 :: a24 :: a25 :: a26 :: a27 :: l)[27]? = some a27 := rfl
@[simp] theorem put_27 {α : Type} (a0 a1 a2 a3 a4 a5 a6 a7 a8 a9 a10 a11 a12 a13 a14 a15 a16 a17 a18 a19 a20 a21 a22 a23 a24 a25 a26 a27 y : α) (l : List α) : (a0 :: a1 :: a2 :: a3 :: a4 :: a5 :: a6 :: a7 :: a8 :: a9 :: a10 :: a11 :: a12 :: a13 :: a14 :: a15 :: a16 :: a17 :: a18 :: a19 :: a20 :: a21 :: a22 :: a23 :: a24 :: a25 :: a26 :: a27 :: l).set 27 y = a0 :: a1 :: a2 :: a3 :: a4 :: a5 :: a6 :: a7 :: a8 :: a9 :: a10 :: a11 :: a12 :: a13 :: a14 :: a15 :: a16 :: a17 :: a18 :: a19 :: a20 :: a21 :: a22 :: a23 :: a24 :: a25 :: a26 :: y :: l := rfl
@[simp] theorem nth_28 {α : Type} (a0 a1 a2 a3 a4 a5 a6 a7 a8 a9 a10 a11 a12 a13 a14 a15 a16 a17 a18 a19 a20 a21 a22 a23 a24 a25 a26 a27 a28 : α) (l : List α) : (a0 :: a1 :: a2 :: a3 :: a4 :: a5 :: a6 :: a7 :: a8 :: a9 :: a10 :: a11 :: a12 :: a13 :: a14 :: a15 :: a16 :: a17 :: a18 :: a19 :: a20 :: a21 :: a22 :: a23 :: a24 :: a25 :: a26 :: a27 :: a28 :: l)[28]? = some a28 := rfl
@[simp] theorem put_28 {α : Type} (a0 a1 a2 a3 a4 a5 a6 a7 a8 a9 a10 a11 a12 a13 a14 a15 a16 a17 a18 a19 a20 a21 a22 a23 a24 a25 a26 a27 a28 y : α) (l : List α) : (a0 :: a1 :: a2 :: a3 :: a4 :: a5 :: a6 :: a7 :: a8 :: a9 :: a10 :: a11 :: a12 :: a13 :: a14 :: a15 :: a16 :: a17 :: a18 :: a19 :: a20 :: a21 :: a22 :: a23 :: a24 :: a25 :: a26 :: a27 :: a28 :: l).set 28 y = a0 :: a1 :: a2 :: a3 :: a4 :: a5 :: a6 :: a7 :: a8 :: a9 :: a10 :: a11 :: a12 :: a13 :: a14 :: a15 :: a16 :: a17 :: a18 :: a19 :: a20 :: a21 :: a22 :: a23 :: a24 :: a25 :: a26 :: a27 :: y :: l := rfl
@[simp] theorem nth_29 {α : Type} (a0 a1 a2 a3 a4 a5 a6 a7 a8 a9 a10 a11 a12 a13 a14 a15 a16 a17 a18 a19 a20 a21 a22 a23 a24 a25 a26 a27 a28 a29 : α) (l : List α) : (a0 :: a1 :: a2 :: a3 :: a4 :: a5 :: a6 :: a7 :: a8 :: a9 :: a10 :: a11 :: a12 :: a13 :: a14 :: a15 :: a16 :: a17 :: a18 :: a19 :: a20 :: a21 :: a22 :: a23 :: a24 :: a25 :: a26 :: a27 :: a28 :: a29 :: l)[29]? = some a29 := rfl
@[simp] theorem put_29 {α : Type} (a0 a1 a2 a3 a4 a5 a6 a7 a8 a9 a10 a11 a12 a13 a14 a15 a16 a17 a18 a19 a20 a21 a22 a23 a24 a25 a26 a27 a28 a29 y : α) (l : List α) : (a0 :: a1 :: a2 :: a3 :: a4 :: a5 :: a6 :: a7 :: a8 :: a9 :: a10 :: a11 :: a12 :: a13 :: a14 :: a15 :: a16 :: a17 :: a18 :: a19 :: a20 :: a21 :: a22 :: a23 :: a24 :: a25 :: a26 :: a27 :: a28 :: a29 :: l).set 29 y = a0 :: a1 :: a2 :: a3 :: a4 :: a5 :: a6 :: a7 :: a8 :: a9 :: a10 :: a11 :: a12 :: a13 :: a14 :: a15 :: a16 :: a17 :: a18 :: a19 :: a20 :: a21 :: a22 :: a23 :: a24 :: a25 :: a26 :: a27 :: a28 :: y :: l := rfl
@[simp] theorem nth_30 {α : Type} (a0 a1 a2 a3 a4 a5 a6 a7 a8 a9 a10 a11 a12 a13 a14 a15 a16 a17 a18 a19 a20 a21 a22 a23 a24 a25 a26 a27 a28 a29 a30 : α) (l : List α) : (a0 :: a1 :: a2 :: a3 :: a4 :: a5 :: a6 :: a7 :: a8 :: a9 :: a10 :: a11 :: a12 :: a13 :: a14 :: a15 :: a16 :: a17 :: a18 :: a19 :: a20 :: a21 :: a22 :: a23 :: a24 :: a25 :: a26 :: a27 :: a28 :: a29 :: a30 :: l)[30]? = some a30 := rfl
@[simp] theorem put_30 {α : Type} (a0 a1 a2 a3 a4 a5 a6 a7 a8 a9 a10 a11 a12 a13 a14 a15 a16 a17 a18 a19 a20 a21 a22 a23 a24 a25 a26 a27 a28 a29 a30 y : α) (l : List α) : (a0 :: a1 :: a2 :: a3 :: a4 :: a5 :: a6 :: a7 :: a8 :: a9 :: a10 :: a11 :: a12 :: a13 :: a14 :: a15 :: a16 :: a17 :: a18 :: a19 :: a20 :: a21 :: a22 :: a23 :: a24 :: a25 :: a26 :: a27 :: a28 :: a29 :: a30 :: l).set 30 y = a0 :: a1 :: a2 :: a3 :: a4 :: a5 :: a6 :: a7 :: a8 :: a9 :: a10 :: a11 :: a12 :: a13 :: a14 :: a15 :: a16 :: a17 :: a18 :: a19 :: a20 :: a21 :: a22 :: a23 :: a24 :: a25 :: a26 :: a27 :: a28 :: a29 :: y :: l := rfl
/-! ### expressions -/
section
variable {F : Nat → List D → Hc → R D} {ρ : Env} {h : Hc}
def vr (o : Option (Option D)) (h : Hc) : R D := match o with
  | some (some d) => .ok d h
  | _ => .bad
@[simp] theorem vr_some (d : D) (h : Hc) : vr (some (some d)) h = .ok d h := rfl
theorem ev_v (i : Nat) : ev F (.v i) ρ h = vr ρ[i]? h := by
  rw [ev]
  unfold vr
  split <;> simp_all
def tch (o : Option Bool) (f : Bool → R D) : R D := match o with
  | some b => f b
  | none => .bad
@[simp] theorem tch_some (b : Bool) (f : Bool → R D) : tch (some b) f = f b := rfl
theorem ev_c (d : D) : ev F (.c d) ρ h = .ok d h := by rw [ev]
theorem ev_tup (es : List CE) : ev F (.tup es) ρ h = (evs F es ρ h).bind fun ds h => if ds.length ≤ sizeLine then .ok (.tup ds) h else .bad := by rw [ev]
theorem ev_lst (fr : Bool) (es : List CE) : ev F (.lst fr es) ρ h = (evs F es ρ h).bind fun ds h => if ds.length ≤ sizeLine then newL fr ds h else .bad := by rw [ev]
theorem ev_dnewT : ev F (.dnew true) ρ h = .ok (.ref h.length) (h ++ [.dt []]) := by rw [ev]; rfl
theorem ev_dnewF : ev F (.dnew false) ρ h = .ok (.ref h.length) (h ++ [.dk []]) := by rw [ev]; rfl
theorem ev_un (q : P) (a : CE) : ev F (.un q a) ρ h = (ev F a ρ h).bind fun d h => prim1 q d h := by rw [ev]
theorem ev_bin (q : P) (a b : CE) : ev F (.bin q a b) ρ h = (ev F a ρ h).bind fun d h => (ev F b ρ h).bind fun e h => prim2 q d e h := by rw [ev]
theorem ev_cmp (q : P) (a b : CE) : ev F (.cmp q a b) ρ h = (ev F a ρ h).bind fun d h => (ev F b ρ h).bind fun e h => prim2 q d e h := by rw [ev]
theorem ev_call (f : Nat) (es : List CE) : ev F (.call f es) ρ h = (evs F es ρ h).bind fun ds h => F f ds h := by rw [ev]
theorem ev_bi (q : P) (es : List CE) : ev F (.bi q es) ρ h = (evs F es ρ h).bind fun ds h => primN q ds h := by rw [ev]
theorem ev_idx (a b : CE) : ev F (.idx a b) ρ h = (ev F a ρ h).bind fun d h => (ev F b ρ h).bind fun e h => prim2 .idx d e h := by rw [ev]
theorem ev_rev (fr : Bool) (a : CE) : ev F (.rev fr a) ρ h = (ev F a ρ h).bind fun d h => revP fr d h := by rw [ev]
def dicO (o : Option O) (ds : List D) (k : O → R D) : R D := match o with
  | some (.dk []) => ro (mkK ds []) fun kvs => k (.dk kvs)
  | _ => .bad
theorem ev_dic (kvs : List CE) : ev F (.dic false kvs) ρ h = (evs F kvs ρ (h ++ [.dk []])).bind fun ds h2 => dicO h2[h.length]? ds fun o => .ok (.ref h.length) (h2.set h.length o) := by
  rw [ev]
  simp only [Bool.false_eq_true, if_false]
  congr 1
theorem evs_nil : evs F [] ρ h = .ok [] h := by rw [evs]
theorem evs_cons (e : CE) (es : List CE) : evs F (e :: es) ρ h = (ev F e ρ h).bind fun d h => (evs F es ρ h).bind fun ds h => .ok (d :: ds) h := by rw [evs]
theorem evC_nil : evC F [] ρ h = .ok true h := by rw [evC]
theorem evC_one (c : CE) : evC F [c] ρ h = truthR (ev F c ρ h) := by rw [evC]
def andR (t : Bool) (x : R D) (d : D) (h : Hc) : R D := if t = true then x else .ok d h
def orR (t : Bool) (d : D) (h : Hc) (x : R D) : R D := if t = true then .ok d h else x
@[simp] theorem andR_bl (a b : Bool) (h : Hc) : andR a (.ok (.bl b) h) (.bl a) h = .ok (.bl (a && b)) h := by cases a <;> rfl
@[simp] theorem orR_bl (a b : Bool) (h : Hc) : orR a (.bl a) h (.ok (.bl b) h) = .ok (.bl (a || b)) h := by cases a <;> rfl
@[simp] theorem andR_rx {ε α : Type} (a : Bool) (x : X ε α) (hx : ε → Hc) (k : α → R D) (h : Hc) : andR a (rx x hx k) (.bl a) h = if a = true then rx x hx k else .ok (.bl false) h := by cases a <;> rfl
@[simp] theorem andR_ro {α : Type} (a : Bool) (x : Option α) (k : α → R D) (h : Hc) : andR a (ro x k) (.bl a) h = if a = true then ro x k else .ok (.bl false) h := by cases a <;> rfl
@[simp] theorem andR_ite (a : Bool) (c : Prop) [Decidable c] (x y : R D) (h : Hc) : andR a (if c then x else y) (.bl a) h = if a = true then (if c then x else y) else .ok (.bl false) h := by cases a <;> rfl
@[simp] theorem orR_rx {ε α : Type} (a : Bool) (x : X ε α) (hx : ε → Hc) (k : α → R D) (h : Hc) : orR a (.bl a) h (rx x hx k) = if a = true then .ok (.bl true) h else rx x hx k := by cases a <;> rfl
@[simp] theorem orR_ro {α : Type} (a : Bool) (x : Option α) (k : α → R D) (h : Hc) : orR a (.bl a) h (ro x k) = if a = true then .ok (.bl true) h else ro x k := by cases a <;> rfl
@[simp] theorem orR_ite (a : Bool) (c : Prop) [Decidable c] (x y : R D) (h : Hc) : orR a (.bl a) h (if c then x else y) = if a = true then .ok (.bl true) h else (if c then x else y) := by cases a <;> rfl
theorem ev_and (a b : CE) : ev F (.and a b) ρ h = (ev F a ρ h).bind fun d h => tch (truth h d) fun t => andR t (ev F b ρ h) d h := by
  rw [ev]
  congr 1
  funext d h
  cases truth h d with
  | none => rfl
  | some t => cases t <;> rfl
theorem ev_or (a b : CE) : ev F (.or a b) ρ h = (ev F a ρ h).bind fun d h => tch (truth h d) fun t => orR t d h (ev F b ρ h) := by
  rw [ev]
  congr 1
  funext d h
  cases truth h d with
  | none => rfl
  | some t => cases t <;> rfl
theorem ev_cmp2 (q r : P) (a b c : CE) : ev F (.cmp2 q r a b c) ρ h = (ev F a ρ h).bind fun d h => (ev F b ρ h).bind fun e h => (prim2 q d e h).bind fun x h => (match x with
    | .bl t => andR t ((ev F c ρ h).bind fun g h => prim2 r e g h) (.bl t) h
    | _ => .bad) := by
  rw [ev]
  congr 1
  funext d h
  congr 1
  funext e h
  congr 1
  funext x h
  cases x <;> first | rfl | (rename_i t; cases t <;> rfl)
theorem ev_ite (c a b : CE) : ev F (.ite c a b) ρ h = (truthR (ev F c ρ h)).bind fun k h => if k = true then ev F a ρ h else ev F b ρ h := by rw [ev]
def wkR {α : Type} (o : Option Wk) (f : Wk → R α) : R α := match o with
  | some w => f w
  | none => .bad
@[simp] theorem wkR_some {α : Type} (w : Wk) (f : Wk → R α) : wkR (some w) f = f w := rfl
theorem ev_comp (fr : Bool) (k : IK) (es : List CE) (tg : CT) (cs : List CE) (e : CE) (own : List Nat) : ev F (.comp fr k es tg cs e own) ρ h = (evs F es ρ h).bind fun ds h => wkR (walkOf k ds h) fun w => (compL tg w.stay (lockH k ds h).length (wipe ρ own) (evC F cs) (ev F e) w.items (lockH k ds h ++ [.hl []])).bind fun xs h2 => compEnd fr (lockH k ds h) h2 xs := by
  rw [ev]
  congr 1
  funext ds h
  cases walkOf k ds h <;> rfl
theorem ev_sl (fr : Bool) (a lo hi : CE) : ev F (.sl fr a lo hi) ρ h = (ev F a ρ h).bind fun d h => (ev F lo ρ h).bind fun l h => if isPart l = true then (ev F hi ρ h).bind fun u h => if isPart u = true then sliceP fr d l u h else .bad else .bad := by rw [ev]
def rcv (q : P) (d : D) (h : Hc) (f : R D) : R D := if recv q d h = true then f else .bad
theorem ev_mt (q : P) (o : CE) (es : List CE) : ev F (.mt q o es) ρ h = (ev F o ρ h).bind fun d h => rcv q d h ((evs F es ρ h).bind fun ds h => primM q d ds h) := by rw [ev] <;> rfl
theorem truthR_okd (d : D) (h : Hc) : truthR (.ok d h) = (match truth h d with
  | some b => .ok b h
  | none => .bad) := rfl
@[simp] theorem truthR_int (i : Int) (h : Hc) : truthR (.ok (.int i) h) = .ok (i != 0) h := rfl
@[simp] theorem truth_int' (i : Int) (h : Hc) : truth h (.int i) = some (i != 0) := rfl
theorem ite_bl (b : Bool) (x : R D) (h : Hc) : (if b = true then x else .ok (.bl b) h) = if b = true then x else .ok (.bl false) h := by cases b <;> rfl
theorem ite_bl' (b : Bool) (x : R D) (h : Hc) : (if b = true then .ok (.bl b) h else x) = if b = true then .ok (.bl true) h else x := by cases b <;> rfl
end
@[simp] theorem bindT_n (i : Nat) (d : D) (ρ : Env) : bindT (.n i) d ρ = some (ρ.set i (some d)) := by rw [bindT]
@[simp] theorem bindT_tup (ts : List CT) (xs : List D) (ρ : Env) : bindT (.t ts) (.tup xs) ρ = bindTs ts xs ρ := by rw [bindT]
@[simp] theorem bindT_lst (ts : List CT) (xs : List D) (ρ : Env) : bindT (.t ts) (.lst xs) ρ = bindTs ts xs ρ := by rw [bindT]
@[simp] theorem bindTs_nil (ρ : Env) : bindTs [] [] ρ = some ρ := by rw [bindTs]
@[simp] theorem bindTs_cons (t : CT) (ts : List CT) (x : D) (xs : List D) (ρ : Env) : bindTs (t :: ts) (x :: xs) ρ = (bindT t x ρ).bind fun ρ' => bindTs ts xs ρ' := by rw [bindTs]
section
variable {α β γ δ : Type}
@[simp] theorem bindT_e2 (ts : List CT) (a : α → D) (b : β → D) (p) (ρ : Env) : bindT (.t ts) (e2 a b p) ρ = bindTs ts [a p.1, b p.2] ρ := by rw [e2, bindT]
@[simp] theorem bindT_e3 (ts : List CT) (a : α → D) (b : β → D) (c : γ → D) (p) (ρ : Env) : bindT (.t ts) (e3 a b c p) ρ = bindTs ts [a p.1, b p.2.1, c p.2.2] ρ := by rw [e3, bindT]
@[simp] theorem bindT_e4 (ts : List CT) (a : α → D) (b : β → D) (c : γ → D) (d : δ → D) (p) (ρ : Env) : bindT (.t ts) (e4 a b c d p) ρ = bindTs ts [a p.1, b p.2.1, c p.2.2.1, d p.2.2.2] ρ := by rw [e4, bindT]
end
@[simp] theorem wipe_nil (ρ : Env) : wipe ρ [] = ρ := rfl
@[simp] theorem wipe_cons (ρ : Env) (v : Nat) (vs : List Nat) : wipe ρ (v :: vs) = (wipe ρ vs).set v none := rfl
theorem tidyE_ok {own : List Nat} {h h' : Hc} {f : Env → Hc → S} {ρ : Env} (hk : kept h h' = true) (ho : envOld h.length (wipe ρ own) = true) : tidyE own h f ρ h' = f (wipe ρ own) (h'.take h.length) := if_pos ⟨hk, ho⟩
/-! ### loops -/
def mapD {α : Type} (e : α → D) (xs : List α) : List D := xs.map e
def cmB {α : Type} (o : Option Env) (f : Env → R α) : R α := match o with
  | some ρ => f ρ
  | none => .bad
@[simp] theorem cmB_some {α : Type} (ρ : Env) (f : Env → R α) : cmB (some ρ) f = f ρ := rfl
section
variable {ε α β σ : Type}
theorem for_fold {tg : CT} {g : List (Nat × O)} {b : Env → Hc → S} {ie : α → D} (env : σ → Env) (hp : σ → Hc) (hx : ε → Hc) (body : α → σ → X ε σ) (hg : ∀ s, stays (hp s) g = true)
    (hb : ∀ a s, bindS (bindT tg (ie a) (env s)) (fun ρ => b ρ (hp s)) = sx (body a s) hx fun s => .nx (env s) (hp s)) : ∀ (as : List α) (s : σ),
    forL tg g b (mapD ie as) (env s) (hp s) = sx (foldX body as s) hx fun s => .nx (env s) (hp s)
  | [], s => by simp [forL, hg, foldX, mapD]
  | a :: as, s => by
    have h1 := hb a s
    rw [mapD, List.map_cons, forL, foldX, sx_bind]
    simp only [hg, if_true]
    cases hbt : bindT tg (ie a) (env s) with
    | none =>
      rw [hbt] at h1
      cases hx1 : body a s <;> rw [hx1] at h1 <;> simp at h1
      rfl
    | some ρ =>
      rw [hbt, bindS_some] at h1
      simp only [h1]
      cases body a s with
      | ok s1 => exact for_fold env hp hx body hg hb as s1
      | ex c e => rfl
      | bad => rfl
/-- with break, continue, return -/
theorem for_loop {tg : CT} {g : List (Nat × O)} {b : Env → Hc → S} {ie : α → D} (env : σ → Env) (hp : σ → Hc) (hx : ε → Hc) (hr : σ → Hc) (re : β → D) (body : α → σ → X ε (Lp β σ)) (hg : ∀ s, stays (hp s) g = true)
    (hb : ∀ a s, bindS (bindT tg (ie a) (env s)) (fun ρ => b ρ (hp s)) = sx (body a s) hx fun r => match r with
      | .nx s => .nx (env s) (hp s)
      | .bk s => .bk (env s) (hp s)
      | .rt v s => .rt (re v) (hr s)) : ∀ (as : List α) (s : σ),
    forL tg g b (mapD ie as) (env s) (hp s) = sx (loopX body as s) hx fun r => r.cas (fun s => .nx (env s) (hp s)) fun v s => .rt (re v) (hr s)
  | [], s => by simp [forL, hg, loopX, mapD]
  | a :: as, s => by
    have h1 := hb a s
    rw [mapD, List.map_cons, forL, loopX, sx_bind]
    simp only [hg, if_true]
    cases hbt : bindT tg (ie a) (env s) with
    | none =>
      rw [hbt] at h1
      cases hx1 : body a s with
      | ok r => rw [hx1] at h1; cases r <;> simp at h1
      | ex c e => rw [hx1] at h1; simp at h1
      | bad => rfl
    | some ρ =>
      rw [hbt, bindS_some] at h1
      simp only [h1]
      cases body a s with
      | ok r =>
        cases r with
        | nx s1 => exact for_loop env hp hx hr re body hg hb as s1
        | bk s1 => rfl
        | rt v s1 => rfl
      | ex c e => rfl
      | bad => rfl
/-- a comprehension -/
theorem comp_fold {tg : CT} {g : List (Nat × O)} {n : Nat} {ρ : Env} {c : Env → Hc → R Bool} {e : Env → Hc → R D} {ie : α → D} {oe : β → D} (hp : σ → List D → Hc) (hget : ∀ s acc, (hp s acc)[n]? = some (.hl acc)) (hset : ∀ s acc acc', (hp s acc).set n (.hl acc') = hp s acc') (hg : ∀ s acc, stays (hp s acc) g = true) (hx : ε → Hc) (body : α → σ → X ε (Option β × σ))
    (hb : ∀ a s acc, cmB (bindT tg (ie a) ρ) (fun ρ' => (c ρ' (hp s acc)).bind fun t h => if t = true then (e ρ' h).bind fun x h => .ok (some x) h else .ok none h) = rx (body a s) hx fun r => .ok (r.1.map oe) (hp r.2 acc)) : ∀ (as : List α) (acc : List β) (s : σ),
    compL tg g n ρ c e (mapD ie as) (hp s (acc.map oe)) = rx (compX body as acc s).nox hx fun r => .ok (r.1.map oe) (hp r.2 (r.1.map oe))
  | [], acc, s => by
    simp [compL, compX, hg, hget, mapD]
  | a :: as, acc, s => by
    have h2 := hb a s (acc.map oe)
    rw [mapD, List.map_cons, compL, compX]
    cases hbt : bindT tg (ie a) ρ with
    | none =>
      rw [hbt] at h2
      simp only [hg, if_true]
      cases hbd : body a s <;> rw [hbd] at h2 <;> simp [cmB] at h2
      rfl
    | some ρ' =>
    rw [hbt] at h2
    simp only [cmB] at h2
    simp only [hg, if_true]
    cases hc : c ρ' (hp s (acc.map oe)) with
    | bad =>
      rw [hc] at h2
      cases hbd : body a s <;> rw [hbd] at h2 <;> simp at h2
      rfl
    | ex k hh =>
      rw [hc] at h2
      cases hbd : body a s <;> rw [hbd] at h2 <;> simp at h2
      rfl
    | ok t hh =>
      rw [hc] at h2
      cases t with
      | false =>
        simp only [R.bind_ok, Bool.false_eq_true, if_false] at h2
        cases hbd : body a s with
        | bad => rw [hbd] at h2; simp at h2
        | ex k hh => rw [hbd] at h2; simp at h2
        | ok r =>
          rw [hbd] at h2
          simp only [rx_ok, R.ok.injEq] at h2
          obtain ⟨o, s1⟩ := r
          have ho : o = none := by
            cases o with
            | none => rfl
            | some b => simp at h2
          subst ho
          simp only [X.bind_ok, h2.2]
          exact comp_fold hp hget hset hg hx body hb as acc s1
      | true =>
        simp only [R.bind_ok, if_true] at h2
        cases he : e ρ' hh with
        | bad =>
          rw [he] at h2
          cases hbd : body a s <;> rw [hbd] at h2 <;> simp at h2
          simp only [he]
          rfl
        | ex k hh =>
          rw [he] at h2
          cases hbd : body a s <;> rw [hbd] at h2 <;> simp at h2
          simp only [he]
          rfl
        | ok x hh2 =>
          rw [he] at h2
          cases hbd : body a s with
          | bad => rw [hbd] at h2; simp at h2
          | ex k hh => rw [hbd] at h2; simp at h2
          | ok r =>
            rw [hbd] at h2
            simp only [rx_ok, R.bind_ok, R.ok.injEq] at h2
            obtain ⟨o, s1⟩ := r
            cases o with
            | none => simp at h2
            | some b =>
              obtain ⟨h3, h4⟩ := h2
              simp only [Option.map_some, Option.some.injEq] at h3
              subst h3 h4
              have hs : (hp s1 (acc.map oe)).set n (.hl (acc.map oe ++ [oe b])) = hp s1 ((acc ++ [b]).map oe) := by rw [hset]; simp
              simp only [he, hget, X.bind_ok, List.length_map, hs]
              by_cases hz : acc.length < sizeLine
              · simp only [if_pos hz]
                exact comp_fold hp hget hset hg hx body hb as (acc ++ [b]) s1
              · simp only [if_neg hz]
                rfl
/-- without a state -/
def compP (f : α → X ε (Option β)) : List α → List β → X ε (List β)
  | [], acc => .ok acc
  | a :: as, acc => (f a).bind fun r => match r with
    | some b => if acc.length < sizeLine then compP f as (acc ++ [b]) else .bad
    | none => compP f as acc
theorem compX_P (f : α → X ε (Option β)) : ∀ (as : List α) (acc : List β), compX (fun a (u : Unit) => (f a).bind fun r => .ok (r, u)) as acc () = (compP f as acc).bind fun r => .ok (r, ())
  | [], acc => rfl
  | a :: as, acc => by
    rw [compX, compP, X.bind_assoc, X.bind_assoc]
    congr 1
    funext r
    cases r with
    | none => exact compX_P f as acc
    | some b =>
      simp only [X.bind_ok]
      split
      · exact compX_P f as (acc ++ [b])
      · rfl
theorem comp_pureX {tg : CT} {g : List (Nat × O)} {n : Nat} {ρ : Env} {c : Env → Hc → R Bool} {e : Env → Hc → R D} {ie : α → D} {oe : β → D} (hp : List D → Hc) (hget : ∀ acc, (hp acc)[n]? = some (.hl acc)) (hset : ∀ acc acc', (hp acc).set n (.hl acc') = hp acc') (hg : ∀ acc, stays (hp acc) g = true) (hx : ε → Hc) (body : α → X ε (Option β))
    (hb : ∀ a acc, cmB (bindT tg (ie a) ρ) (fun ρ' => (c ρ' (hp acc)).bind fun t h => if t = true then (e ρ' h).bind fun x h => .ok (some x) h else .ok none h) = rx (body a) hx fun r => .ok (r.map oe) (hp acc)) (as : List α) :
    compL tg g n ρ c e (mapD ie as) (hp []) = rx (compP body as []).nox hx fun r => .ok (r.map oe) (hp (r.map oe)) := by
  have := comp_fold (σ := Unit) (fun _ => hp) (fun _ => hget) (fun _ => hset) (fun _ => hg) hx (fun a (u : Unit) => (body a).bind fun r => .ok (r, u)) (fun a s acc => by
    rw [hb a acc]
    cases body a <;> rfl) as [] ()
  rw [compX_P] at this
  rw [List.map_nil] at this
  rw [this]
  cases compP body as [] <;> rfl
end
end Q

/-! XC: primitives on encoded values. -/
namespace Q
open PySem
section
variable {α β γ δ κ : Type}
/-- plain data -/
class Pyd {α : Type} (e : α → D) (d : outParam Nat) where
  dat : α → PyData
  py : ∀ x, (e x).py = some (dat x)
  plain : ∀ x, (dat x).plain = true
  depth : ∀ x, (dat x).depth ≤ d
  lay : ∀ x, (dat x).canLay0 = true
  eqv : ∀ x y, PyData.eqv (dat x) (dat y) = true ↔ x = y
instance : Pyd D.int 0 := ⟨.int, fun _ => rfl, fun _ => by simp [PyData.plain], fun _ => by simp [PyData.depth], fun _ => by simp [PyData.canLay0], fun x y => by simp [PyData.eqv]⟩
instance : Pyd D.bl 0 := ⟨.bool, fun _ => rfl, fun _ => by simp [PyData.plain], fun _ => by simp [PyData.depth], fun _ => by simp [PyData.canLay0], fun x y => by cases x <;> cases y <;> simp [PyData.eqv]⟩
instance : Pyd eN 0 := ⟨fun _ => .none, fun _ => rfl, fun _ => by simp [PyData.plain], fun _ => by simp [PyData.depth], fun _ => by simp [PyData.canLay0], fun x y => by simp [PyData.eqv]⟩
section
variable {e : α → D} {d : Nat} [Pyd e d]
theorem pys_map : ∀ xs : List α, D.pys (xs.map e) = some (xs.map (Pyd.dat e))
  | [] => rfl
  | x :: xs => by simp [D.pys, Pyd.py, pys_map xs]
theorem plain_map : ∀ xs : List α, PyData.plainAll (xs.map (Pyd.dat e)) = true
  | [] => by simp [PyData.plainAll]
  | x :: xs => by simp [PyData.plainAll, Pyd.plain, plain_map xs]
theorem depth_map : ∀ xs : List α, PyData.depthAll (xs.map (Pyd.dat e)) ≤ d + 1
  | [] => by simp [PyData.depthAll]
  | x :: xs => by
    have h1 := depth_map xs
    have h2 := Pyd.depth (e := e) x
    simp only [List.map_cons, PyData.depthAll]
    omega
theorem lay_map : ∀ xs : List α, PyData.canLayAll0 (xs.map (Pyd.dat e)) = true
  | [] => by simp [PyData.canLayAll0]
  | x :: xs => by simp [PyData.canLayAll0, Pyd.lay, lay_map xs]
theorem eqv_map : ∀ xs ys : List α, PyData.eqvAll (xs.map (Pyd.dat e)) (ys.map (Pyd.dat e)) = true ↔ xs = ys
  | [], [] => by simp [PyData.eqvAll]
  | [], _ :: _ => by simp [PyData.eqvAll]
  | _ :: _, [] => by simp [PyData.eqvAll]
  | x :: xs, y :: ys => by simp [PyData.eqvAll, Pyd.eqv, eqv_map xs ys]
end
instance (e : α → D) (d : Nat) [Pyd e d] : Pyd (eTup e) (d + 2) := ⟨fun xs => .tuple (xs.map (Pyd.dat e)), fun xs => by simp [eTup, D.py, pys_map], fun xs => by simp [PyData.plain, plain_map], fun xs => by
  have := depth_map (e := e) xs
  simp only [PyData.depth]
  omega, fun xs => by simp [PyData.canLay0, lay_map], fun xs ys => by simp only [PyData.eqv]; exact eqv_map xs ys⟩
instance (e : α → D) (d : Nat) [Pyd e d] : Pyd (eLst e) (d + 2) := ⟨fun xs => .list (xs.map (Pyd.dat e)), fun xs => by simp [eLst, D.py, pys_map], fun xs => by simp [PyData.plain, plain_map], fun xs => by
  have := depth_map (e := e) xs
  simp only [PyData.depth]
  omega, fun xs => by simp [PyData.canLay0, lay_map], fun xs ys => by simp only [PyData.eqv]; exact eqv_map xs ys⟩
instance (a : α → D) (b : β → D) (i j : Nat) [Pyd a i] [Pyd b j] : Pyd (e2 a b) (i + j + 2) := ⟨fun p => .tuple [Pyd.dat a p.1, Pyd.dat b p.2], fun p => by simp [e2, D.py, D.pys, Pyd.py], fun p => by simp [PyData.plain, PyData.plainAll, Pyd.plain], fun p => by
  have h1 := Pyd.depth (e := a) p.1
  have h2 := Pyd.depth (e := b) p.2
  simp only [PyData.depth, PyData.depthAll]
  omega, fun p => by simp [PyData.canLay0, PyData.canLayAll0, Pyd.lay], fun p q => by
  obtain ⟨p1, p2⟩ := p
  obtain ⟨q1, q2⟩ := q
  simp [PyData.eqv, PyData.eqvAll, Pyd.eqv]⟩
instance (a : α → D) (b : β → D) (c : γ → D) (i j k : Nat) [Pyd a i] [Pyd b j] [Pyd c k] : Pyd (e3 a b c) (i + j + k + 2) := ⟨fun p => .tuple [Pyd.dat a p.1, Pyd.dat b p.2.1, Pyd.dat c p.2.2], fun p => by simp [e3, D.py, D.pys, Pyd.py], fun p => by simp [PyData.plain, PyData.plainAll, Pyd.plain], fun p => by
  have h1 := Pyd.depth (e := a) p.1
  have h2 := Pyd.depth (e := b) p.2.1
  have h3 := Pyd.depth (e := c) p.2.2
  simp only [PyData.depth, PyData.depthAll]
  omega, fun p => by simp [PyData.canLay0, PyData.canLayAll0, Pyd.lay], fun p q => by
  obtain ⟨p1, p2, p3⟩ := p
  obtain ⟨q1, q2, q3⟩ := q
  simp [PyData.eqv, PyData.eqvAll, Pyd.eqv]⟩
instance (a : α → D) (b : β → D) (c : γ → D) (z : δ → D) (i j k l : Nat) [Pyd a i] [Pyd b j] [Pyd c k] [Pyd z l] : Pyd (e4 a b c z) (i + j + k + l + 2) := ⟨fun p => .tuple [Pyd.dat a p.1, Pyd.dat b p.2.1, Pyd.dat c p.2.2.1, Pyd.dat z p.2.2.2], fun p => by simp [e4, D.py, D.pys, Pyd.py], fun p => by simp [PyData.plain, PyData.plainAll, Pyd.plain], fun p => by
  have h1 := Pyd.depth (e := a) p.1
  have h2 := Pyd.depth (e := b) p.2.1
  have h3 := Pyd.depth (e := c) p.2.2.1
  have h4 := Pyd.depth (e := z) p.2.2.2
  simp only [PyData.depth, PyData.depthAll]
  omega, fun p => by simp [PyData.canLay0, PyData.canLayAll0, Pyd.lay], fun p q => by
  obtain ⟨p1, p2, p3, p4⟩ := p
  obtain ⟨q1, q2, q3, q4⟩ := q
  simp [PyData.eqv, PyData.eqvAll, Pyd.eqv]⟩
theorem eqv_dec [DecidableEq α] {e : α → D} {d : Nat} [Pyd e d] (x y : α) : PyData.eqv (Pyd.dat e x) (Pyd.dat e y) = decide (x = y) := by
  by_cases h : x = y
  · rw [decide_eq_true h]
    exact (Pyd.eqv x y).mpr h
  · rw [decide_eq_false h]
    cases q : PyData.eqv (Pyd.dat e x) (Pyd.dat e y) with
    | false => rfl
    | true => exact absurd ((Pyd.eqv x y).mp q) h
theorem dEq_e [DecidableEq α] {e : α → D} {d : Nat} [Cod e] [Pyd e d] (hd : d ≤ 64) (h : Hc) (x y : α) : dEq h (e x) (e y) = some (decide (x = y)) := by
  have h1 := Pyd.depth (e := e) x
  have h2 := Pyd.depth (e := e) y
  unfold dEq
  rw [thaw_flat 3 (Cod.flat x), thaw_flat 3 (Cod.flat y), Pyd.py, Pyd.py]
  simp only [shp, Pyd.plain, decide_eq_true (Nat.le_trans h1 hd), decide_eq_true (Nat.le_trans h2 hd), Bool.and_self, if_true, eqv_dec]
@[simp] theorem dEq_eTup [DecidableEq α] {e : α → D} {d : Nat} [Cod e] [Pyd e d] (hd : d + 2 ≤ 64) (h : Hc) (x y : List α) : dEq h (eTup e x) (eTup e y) = some (decide (x = y)) := dEq_e (e := eTup e) hd h x y
@[simp] theorem dEq_eLst [DecidableEq α] {e : α → D} {d : Nat} [Cod e] [Pyd e d] (hd : d + 2 ≤ 64) (h : Hc) (x y : List α) : dEq h (eLst e x) (eLst e y) = some (decide (x = y)) := dEq_e (e := eLst e) hd h x y
@[simp] theorem dEq_e2 [DecidableEq α] [DecidableEq β] {a : α → D} {b : β → D} {i j : Nat} [Cod a] [Cod b] [Pyd a i] [Pyd b j] (hd : i + j + 2 ≤ 64) (h : Hc) (x y) : dEq h (e2 a b x) (e2 a b y) = some (decide (x = y)) := dEq_e (e := e2 a b) hd h x y
@[simp] theorem dEq_e3 [DecidableEq α] [DecidableEq β] [DecidableEq γ] {a : α → D} {b : β → D} {c : γ → D} {i j k : Nat} [Cod a] [Cod b] [Cod c] [Pyd a i] [Pyd b j] [Pyd c k] (hd : i + j + k + 2 ≤ 64) (h : Hc) (x y) : dEq h (e3 a b c x) (e3 a b c y) = some (decide (x = y)) := dEq_e (e := e3 a b c) hd h x y
@[simp] theorem dEq_e4 [DecidableEq α] [DecidableEq β] [DecidableEq γ] [DecidableEq δ] {a : α → D} {b : β → D} {c : γ → D} {z : δ → D} {i j k l : Nat} [Cod a] [Cod b] [Cod c] [Cod z] [Pyd a i] [Pyd b j] [Pyd c k] [Pyd z l] (hd : i + j + k + l + 2 ≤ 64) (h : Hc) (x y) : dEq h (e4 a b c z x) (e4 a b c z y) = some (decide (x = y)) := dEq_e (e := e4 a b c z) hd h x y
@[simp] theorem dEq_bl (h : Hc) (x y : Bool) : dEq h (.bl x) (.bl y) = some (decide (x = y)) := dEq_e (e := D.bl) (by decide) h x y
/-- repr -/
def rpr (e : α → D) {d : Nat} [Pyd e d] (x : α) : Option PySem.Str :=
  if (Pyd.dat e x).showable && decide ((Pyd.dat e x).shown.length ≤ sizeLine) then some (Pyd.dat e x).shown else none
theorem dRepr_e {e : α → D} {d : Nat} [Cod e] [Pyd e d] (hd : d ≤ 64) (h : Hc) (x : α) : dRepr h (e x) = rpr e x := by
  unfold dRepr rpr
  rw [thaw_flat 3 (Cod.flat x), Pyd.py]
  simp only [decide_eq_true (Nat.le_trans (Pyd.depth (e := e) x) hd), Bool.and_true]
@[simp] theorem dRepr_eTup {e : α → D} {d : Nat} [Cod e] [Pyd e d] (hd : d + 2 ≤ 64) (h : Hc) (x : List α) : dRepr h (eTup e x) = rpr (eTup e) x := dRepr_e (e := eTup e) hd h x
@[simp] theorem dRepr_eLst {e : α → D} {d : Nat} [Cod e] [Pyd e d] (hd : d + 2 ≤ 64) (h : Hc) (x : List α) : dRepr h (eLst e x) = rpr (eLst e) x := dRepr_e (e := eLst e) hd h x
@[simp] theorem dRepr_e2 {a : α → D} {b : β → D} {i j : Nat} [Cod a] [Cod b] [Pyd a i] [Pyd b j] (hd : i + j + 2 ≤ 64) (h : Hc) (x) : dRepr h (e2 a b x) = rpr (e2 a b) x := dRepr_e (e := e2 a b) hd h x
@[simp] theorem dRepr_e3 {a : α → D} {b : β → D} {c : γ → D} {i j k : Nat} [Cod a] [Cod b] [Cod c] [Pyd a i] [Pyd b j] [Pyd c k] (hd : i + j + k + 2 ≤ 64) (h : Hc) (x) : dRepr h (e3 a b c x) = rpr (e3 a b c) x := dRepr_e (e := e3 a b c) hd h x
@[simp] theorem dRepr_e4 {a : α → D} {b : β → D} {c : γ → D} {z : δ → D} {i j k l : Nat} [Cod a] [Cod b] [Cod c] [Cod z] [Pyd a i] [Pyd b j] [Pyd c k] [Pyd z l] (hd : i + j + k + l + 2 ≤ 64) (h : Hc) (x) : dRepr h (e4 a b c z x) = rpr (e4 a b c z) x := dRepr_e (e := e4 a b c z) hd h x
@[simp] theorem dRepr_int (h : Hc) (x : Int) : dRepr h (.int x) = rpr D.int x := dRepr_e (e := D.int) (by decide) h x
/-- in, index, count -/
theorem thaw_map {e : α → D} [Cod e] (h : Hc) (k : Nat) (xs : List α) : (xs.map e).map (thaw h k) = xs.map e := by
  rw [List.map_map]
  exact List.map_congr_left fun x _ => thaw_flat k (Cod.flat x)
theorem shaped_e {e : α → D} {d : Nat} [Pyd e d] (hd : d + 2 ≤ 64) (x : α) : SeqAt.shaped (Pyd.dat e x) = true := by
  unfold SeqAt.shaped
  rw [Pyd.lay, Bool.true_and]
  exact decide_eq_true (Nat.le_trans (Pyd.depth (e := e) x) (by omega))
theorem shaped_l {e : α → D} {d : Nat} [Pyd e d] (hd : d + 2 ≤ 64) (xs : List α) : SeqAt.shaped (.list (xs.map (Pyd.dat e))) = true := by
  unfold SeqAt.shaped
  have := depth_map (e := e) xs
  simp only [PyData.canLay0, lay_map, Bool.true_and, PyData.depth]
  exact decide_eq_true (by omega)
def memB [DecidableEq α] (x : α) (xs : List α) : Bool := decide (x ∈ xs)
theorem dIn_e [DecidableEq α] {e : α → D} {d : Nat} [Cod e] [Pyd e d] (hd : d + 2 ≤ 64) (h : Hc) (xs : List α) (x : α) : dIn h (xs.map e) (e x) = some (memB x xs) := by
  unfold dIn memB
  rw [thaw_map, pys_map, thaw_flat 2 (Cod.flat x), Pyd.py]
  simp only [shaped_e hd, shaped_l hd, Bool.and_self, if_true, List.any_map, Option.some.injEq]
  rw [Bool.eq_iff_iff, List.any_eq_true, decide_eq_true_eq]
  constructor
  · rintro ⟨y, hy, e⟩
    rw [(Pyd.eqv y x).mp e] at hy
    exact hy
  · exact fun hi => ⟨x, hi, (Pyd.eqv x x).mpr rfl⟩
def idxF [DecidableEq α] (x : α) : List α → Option Nat
  | [] => none
  | y :: ys => if y = x then some 0 else (idxF x ys).map (· + 1)
theorem findD_e [DecidableEq α] {e : α → D} {d : Nat} [Pyd e d] (x : α) : ∀ xs : List α, findD (Pyd.dat e x) (xs.map (Pyd.dat e)) = idxF x xs
  | [] => rfl
  | y :: ys => by
    simp only [List.map_cons, findD, idxF, eqv_dec, decide_eq_true_eq, findD_e x ys]
theorem dIndex_e [DecidableEq α] {e : α → D} {d : Nat} [Cod e] [Pyd e d] (hd : d + 2 ≤ 64) (h : Hc) (xs : List α) (x : α) : dIndex h (xs.map e) (e x) = idxF x xs := by
  unfold dIndex
  rw [thaw_map, pys_map, thaw_flat 2 (Cod.flat x), Pyd.py]
  simp only [shaped_e hd, shaped_l hd, Bool.and_self, if_true, findD_e]
theorem dCount_e [DecidableEq α] {e : α → D} {d : Nat} [Cod e] [Pyd e d] (hd : d + 2 ≤ 64) (h : Hc) (xs : List α) (x : α) : dCount h (xs.map e) (e x) = some (xs.countP fun y => decide (y = x)) := by
  unfold dCount
  rw [thaw_map, pys_map, thaw_flat 2 (Cod.flat x), Pyd.py]
  simp only [shaped_e hd, shaped_l hd, Bool.and_self, if_true, List.countP_map, Option.some.injEq]
  congr 1
  funext y
  simp only [Function.comp, eqv_dec]
end
/-! ### primitives -/
section
variable {α β γ δ : Type} (h : Hc)
@[simp] theorem look_eTup (e : α → D) (xs : List α) : look h (eTup e xs) = .tup (xs.map e) := rfl
@[simp] theorem look_eLst (e : α → D) (xs : List α) : look h (eLst e xs) = .lst (xs.map e) := rfl
@[simp] theorem lookT_eTup (e : α → D) (xs : List α) : lookT h (eTup e xs) = .tup (xs.map e) := rfl
@[simp] theorem lookT_eLst (e : α → D) (xs : List α) : lookT h (eLst e xs) = .lst (xs.map e) := rfl
@[simp] theorem look_e2 (a : α → D) (b : β → D) (p) : look h (e2 a b p) = .tup [a p.1, b p.2] := rfl
@[simp] theorem lookT_e2 (a : α → D) (b : β → D) (p) : lookT h (e2 a b p) = .tup [a p.1, b p.2] := rfl
@[simp] theorem look_e3 (a : α → D) (b : β → D) (c : γ → D) (p) : look h (e3 a b c p) = .tup [a p.1, b p.2.1, c p.2.2] := rfl
@[simp] theorem lookT_e3 (a : α → D) (b : β → D) (c : γ → D) (p) : lookT h (e3 a b c p) = .tup [a p.1, b p.2.1, c p.2.2] := rfl
@[simp] theorem look_e4 (a : α → D) (b : β → D) (c : γ → D) (d : δ → D) (p) : look h (e4 a b c d p) = .tup [a p.1, b p.2.1, c p.2.2.1, d p.2.2.2] := rfl
@[simp] theorem lookT_e4 (a : α → D) (b : β → D) (c : γ → D) (d : δ → D) (p) : lookT h (e4 a b c d p) = .tup [a p.1, b p.2.1, c p.2.2.1, d p.2.2.2] := rfl
@[simp] theorem lookT_bl (b : Bool) : lookT h (.bl b) = .bl b := rfl
@[simp] theorem lookT_str (x : PySem.Str) : lookT h (.str x) = .str x := rfl
@[simp] theorem lookT_non : lookT h .non = .non := rfl
@[simp] theorem lk_str (x : PySem.Str) : look h (.str x) = .str x := rfl
theorem look_ref (n : Nat) : look h (.ref n) = thawO (fun d => d) h[n]? n := rfl
theorem lookT_ref (n : Nat) : lookT h (.ref n) = (match thawO (fun d => d) h[n]? n with
  | .ftp xs => .tup xs
  | x => x) := rfl
@[simp] theorem thawO_oLst (e : α → D) (xs : List α) (n : Nat) : thawO (fun d => d) (some (oLst e xs)) n = eLst e xs := by simp [oLst, thawO, eLst]
@[simp] theorem p_add (fr : Bool) (i j : Int) : prim2 (.add fr) (.int i) (.int j) h = .ok (.int (i + j)) h := rfl
@[simp] theorem p_sub (i j : Int) : prim2 .sub (.int i) (.int j) h = .ok (.int (i - j)) h := rfl
@[simp] theorem p_mul (fr : Bool) (i j : Int) : prim2 (.mul fr) (.int i) (.int j) h = if small i j then .ok (.int (i * j)) h else .bad := rfl
@[simp] theorem p_fdiv (i j : Int) : prim2 .fdiv (.int i) (.int j) h = if 0 < j ∧ j < 2 ^ 8000 then .ok (.int (i / j)) h else .bad := rfl
@[simp] theorem p_mod (i j : Int) : prim2 .mod (.int i) (.int j) h = if 0 < j then .ok (.int (i % j)) h else .bad := rfl
@[simp] theorem p_lt (i j : Int) : prim2 .lt (.int i) (.int j) h = .ok (.bl (decide (i < j))) h := rfl
@[simp] theorem p_gt (i j : Int) : prim2 .gt (.int i) (.int j) h = .ok (.bl (decide (j < i))) h := rfl
@[simp] theorem p_le (i j : Int) : prim2 .le (.int i) (.int j) h = .ok (.bl (decide (i ≤ j))) h := rfl
@[simp] theorem p_ge (i j : Int) : prim2 .ge (.int i) (.int j) h = .ok (.bl (decide (j ≤ i))) h := rfl
@[simp] theorem p_eq (a b : D) : prim2 .eq a b h = ro (dEq h a b) fun r => .ok (.bl r) h := by simp [prim2]
@[simp] theorem p_ne (a b : D) : prim2 .ne a b h = ro (dEq h a b) fun r => .ok (.bl !r) h := by simp [prim2]
def addX {α : Type} (fs : List α → D) (xs ys : List α) (h : Hc) : R D := if xs.length + ys.length ≤ sizeLine then .ok (fs (xs ++ ys)) h else .bad
@[simp] theorem p_addT (fr : Bool) (e : α → D) (xs ys : List α) : prim2 (.add fr) (eTup e xs) (eTup e ys) h = if xs.length + ys.length ≤ sizeLine then .ok (eTup e (xs ++ ys)) h else .bad := by simp [prim2, eTup]
@[simp] theorem p_addL (e : α → D) (xs ys : List α) : prim2 (.add true) (eLst e xs) (eLst e ys) h = if xs.length + ys.length ≤ sizeLine then .ok (eLst e (xs ++ ys)) h else .bad := by simp [prim2, eLst, newL]
@[simp] theorem p_mulL (e : α → D) (xs : List α) (k : Int) : prim2 (.mul true) (eLst e xs) (.int k) h = if k ≤ 1000 ∧ xs.length ≤ 1000 ∧ -1000 ≤ k then .ok (eLst e (List.replicate k.toNat xs).flatten) h else .bad := by
  simp [prim2, eLst, newL, List.map_flatten]
@[simp] theorem p_mulT (fr : Bool) (e : α → D) (xs : List α) (k : Int) : prim2 (.mul fr) (eTup e xs) (.int k) h = if k ≤ 1000 ∧ xs.length ≤ 1000 ∧ -1000 ≤ k then .ok (eTup e (List.replicate k.toNat xs).flatten) h else .bad := by
  simp [prim2, eTup, List.map_flatten]
@[simp] theorem p_mulR (e : α → D) (xs : List α) (k : Int) (L : Hc) : prim2 (.mul false) (eLst e xs) (.int k) L = if k ≤ 1000 ∧ xs.length ≤ 1000 ∧ -1000 ≤ k then .ok (.ref L.length) (L ++ [oLst e (List.replicate k.toNat xs).flatten]) else .bad := by
  simp [prim2, eLst, newL, List.map_flatten, oLst]
/-- an item by its place -/
def ixL (xs : List α) (i : Int) : Option α := (ixD xs.length i).bind fun k => xs[k]?
theorem ixL_map (e : α → D) (xs : List α) (i : Int) : ((ixD (xs.map e).length i).bind fun k => (xs.map e)[k]?) = (ixL xs i).map e := by
  unfold ixL
  rw [List.length_map]
  cases ixD xs.length i <;> simp
@[simp] theorem p_idxT (e : α → D) (xs : List α) (i : Int) : prim2 .idx (eTup e xs) (.int i) h = ro (ixL xs i) fun v => .ok (e v) h := by
  have : prim2 .idx (eTup e xs) (.int i) h = Q.opt ((ixD (xs.map e).length i).bind fun k => (xs.map e)[k]?) fun v => .ok v h := rfl
  rw [this, ixL_map, opt_ro, ro_map]
@[simp] theorem p_idxL (e : α → D) (xs : List α) (i : Int) : prim2 .idx (eLst e xs) (.int i) h = ro (ixL xs i) fun v => .ok (e v) h := by
  have : prim2 .idx (eLst e xs) (.int i) h = Q.opt ((ixD (xs.map e).length i).bind fun k => (xs.map e)[k]?) fun v => .ok v h := rfl
  rw [this, ixL_map, opt_ro, ro_map]
@[simp] theorem p_idxS (ns : List Int) (i : Int) : prim2 .idx (.scr ns) (.int i) h = ro (ixL ns i) fun v => .ok (.int v) h := by
  have : prim2 .idx (.scr ns) (.int i) h = Q.opt ((ixD ns.length i).bind fun k => ns[k]?) fun v => .ok (.int v) h := rfl
  rw [this, opt_ro]
  rfl
/-- by what stands at the place -/
theorem p_idxR (n : Nat) (i : Int) (e : α → D) (xs : List α) (hn : h[n]? = some (oLst e xs)) : prim2 .idx (.ref n) (.int i) h = ro (ixL xs i) fun v => .ok (e v) h := by
  have : lookT h (.ref n) = eLst e xs := by rw [lookT_ref, hn, thawO_oLst]; rfl
  rw [← p_idxL]
  simp only [prim2, this, lookT_eLst]
  rfl
@[simp] theorem p_idx2_0 (a : α → D) (b : β → D) (p) : prim2 .idx (e2 a b p) (.int 0) h = .ok (a p.1) h := rfl
@[simp] theorem p_idx2_1 (a : α → D) (b : β → D) (p) : prim2 .idx (e2 a b p) (.int 1) h = .ok (b p.2) h := rfl
@[simp] theorem p_idx3_0 (a : α → D) (b : β → D) (c : γ → D) (p) : prim2 .idx (e3 a b c p) (.int 0) h = .ok (a p.1) h := rfl
@[simp] theorem p_idx3_1 (a : α → D) (b : β → D) (c : γ → D) (p) : prim2 .idx (e3 a b c p) (.int 1) h = .ok (b p.2.1) h := rfl
@[simp] theorem p_idx3_2 (a : α → D) (b : β → D) (c : γ → D) (p) : prim2 .idx (e3 a b c p) (.int 2) h = .ok (c p.2.2) h := rfl
@[simp] theorem p_idx4_0 (a : α → D) (b : β → D) (c : γ → D) (d : δ → D) (p) : prim2 .idx (e4 a b c d p) (.int 0) h = .ok (a p.1) h := rfl
@[simp] theorem p_idx4_1 (a : α → D) (b : β → D) (c : γ → D) (d : δ → D) (p) : prim2 .idx (e4 a b c d p) (.int 1) h = .ok (b p.2.1) h := rfl
@[simp] theorem p_idx4_2 (a : α → D) (b : β → D) (c : γ → D) (d : δ → D) (p) : prim2 .idx (e4 a b c d p) (.int 2) h = .ok (c p.2.2.1) h := rfl
@[simp] theorem p_idx4_3 (a : α → D) (b : β → D) (c : γ → D) (d : δ → D) (p) : prim2 .idx (e4 a b c d p) (.int 3) h = .ok (d p.2.2.2) h := rfl
@[simp] theorem p_not (b : Bool) : prim1 .not (.bl b) h = .ok (.bl !b) h := rfl
@[simp] theorem p_neg (i : Int) : prim1 .neg (.int i) h = .ok (.int (-i)) h := rfl
theorem p_isin_T [DecidableEq α] (e : α → D) {d : Nat} [Cod e] [Pyd e d] (hd : d + 2 ≤ 64) (x : α) (xs : List α) : prim2 .isin (e x) (eTup e xs) h = .ok (.bl (memB x xs)) h := by
  have : prim2 .isin (e x) (eTup e xs) h = Q.opt (dIn h (xs.map e) (e x)) fun r => .ok (.bl r) h := by cases e x <;> rfl
  rw [this, dIn_e hd, Q.opt_some]
theorem p_isin_L [DecidableEq α] (e : α → D) {d : Nat} [Cod e] [Pyd e d] (hd : d + 2 ≤ 64) (x : α) (xs : List α) : prim2 .isin (e x) (eLst e xs) h = .ok (.bl (memB x xs)) h := by
  have : prim2 .isin (e x) (eLst e xs) h = Q.opt (dIn h (xs.map e) (e x)) fun r => .ok (.bl r) h := by cases e x <;> rfl
  rw [this, dIn_e hd, Q.opt_some]
theorem p_notin_T [DecidableEq α] (e : α → D) {d : Nat} [Cod e] [Pyd e d] (hd : d + 2 ≤ 64) (x : α) (xs : List α) : prim2 .notin (e x) (eTup e xs) h = .ok (.bl !(memB x xs)) h := by
  have : prim2 .notin (e x) (eTup e xs) h = Q.opt (dIn h (xs.map e) (e x)) fun r => .ok (.bl !r) h := by cases e x <;> rfl
  rw [this, dIn_e hd, Q.opt_some]
theorem p_notin_L [DecidableEq α] (e : α → D) {d : Nat} [Cod e] [Pyd e d] (hd : d + 2 ≤ 64) (x : α) (xs : List α) : prim2 .notin (e x) (eLst e xs) h = .ok (.bl !(memB x xs)) h := by
  have : prim2 .notin (e x) (eLst e xs) h = Q.opt (dIn h (xs.map e) (e x)) fun r => .ok (.bl !r) h := by cases e x <;> rfl
  rw [this, dIn_e hd, Q.opt_some]
@[simp] theorem p_isinI_T (x : Int) (xs : List Int) : prim2 .isin (.int x) (eTup D.int xs) h = .ok (.bl (memB x xs)) h := p_isin_T h D.int (by decide) x xs
@[simp] theorem p_isinI_L (x : Int) (xs : List Int) : prim2 .isin (.int x) (eLst D.int xs) h = .ok (.bl (memB x xs)) h := p_isin_L h D.int (by decide) x xs
@[simp] theorem p_notinI_T (x : Int) (xs : List Int) : prim2 .notin (.int x) (eTup D.int xs) h = .ok (.bl !(memB x xs)) h := p_notin_T h D.int (by decide) x xs
@[simp] theorem p_notinI_L (x : Int) (xs : List Int) : prim2 .notin (.int x) (eLst D.int xs) h = .ok (.bl !(memB x xs)) h := p_notin_L h D.int (by decide) x xs
@[simp] theorem n_lenT (e : α → D) (xs : List α) : primN .len [eTup e xs] h = .ok (.int xs.length) h := by simp [primN]
@[simp] theorem n_lenL (e : α → D) (xs : List α) : primN .len [eLst e xs] h = .ok (.int xs.length) h := by simp [primN]
@[simp] theorem n_lenS (ns : List Int) : primN .len [.scr ns] h = .ok (.int ns.length) h := rfl
@[simp] theorem n_len2 (a : α → D) (b : β → D) (p) : primN .len [e2 a b p] h = .ok (.int 2) h := rfl
@[simp] theorem n_len3 (a : α → D) (b : β → D) (c : γ → D) (p) : primN .len [e3 a b c p] h = .ok (.int 3) h := rfl
@[simp] theorem n_len4 (a : α → D) (b : β → D) (c : γ → D) (d : δ → D) (p) : primN .len [e4 a b c d p] h = .ok (.int 4) h := rfl
@[simp] theorem n_toTupT (e : α → D) (xs : List α) (fz : Bool) : primN (.toTup fz) [eTup e xs] h = .ok (eTup e xs) h := rfl
@[simp] theorem n_toTupL (e : α → D) (xs : List α) : primN (.toTup false) [eLst e xs] h = .ok (eTup e xs) h := by simp [primN, eTup]
@[simp] theorem n_toLstT (e : α → D) (xs : List α) : primN (.toLst true) [eTup e xs] h = .ok (eLst e xs) h := by simp [primN, newL, eLst]
@[simp] theorem n_toLstL (e : α → D) (xs : List α) : primN (.toLst true) [eLst e xs] h = .ok (eLst e xs) h := by simp [primN, newL, eLst]
@[simp] theorem n_toLstRT (e : α → D) (xs : List α) : primN (.toLst false) [eTup e xs] h = .ok (.ref h.length) (h ++ [oLst e xs]) := by simp [primN, newL, oLst]
@[simp] theorem n_toLstRL (e : α → D) (xs : List α) : primN (.toLst false) [eLst e xs] h = .ok (.ref h.length) (h ++ [oLst e xs]) := by simp [primN, newL, oLst]
@[simp] theorem n_toIntI (i : Int) : primN .toInt [.int i] h = .ok (.int i) h := rfl
@[simp] theorem n_toIntB (b : Bool) : primN .toInt [.bl b] h = .ok (.int (if b = true then 1 else 0)) h := rfl
@[simp] theorem n_repr (a : D) : primN .repr [a] h = ro (dRepr h a) fun x => .ok (.str x) h := opt_ro _ _
@[simp] theorem n_abs (i : Int) : primN .abs [.int i] h = .ok (.int (if i < 0 then -i else i)) h := rfl
@[simp] theorem n_max2 (i j : Int) : primN .max2 [.int i, .int j] h = .ok (.int (if j > i then j else i)) h := rfl
@[simp] theorem n_min2 (i j : Int) : primN .min2 [.int i, .int j] h = .ok (.int (if j < i then j else i)) h := rfl
theorem sumD_int : ∀ xs : List Int, sumD (xs.map D.int) = some xs.sum
  | [] => rfl
  | x :: xs => by simp [sumD, sumD_int xs]
@[simp] theorem n_sum (xs : List Int) : primN .sum [eLst D.int xs] h = .ok (.int xs.sum) h := by simp [primN, sumD_int]
theorem allD_bl : ∀ xs : List Bool, allD (xs.map D.bl) = some (xs.all id)
  | [] => rfl
  | x :: xs => by simp [allD, allD_bl xs]
theorem anyD_bl : ∀ xs : List Bool, anyD (xs.map D.bl) = some (xs.any id)
  | [] => rfl
  | x :: xs => by simp [anyD, anyD_bl xs]
@[simp] theorem n_all (xs : List Bool) : primN .all [eLst D.bl xs] h = .ok (.bl (xs.all id)) h := by simp [primN, allD_bl]
@[simp] theorem n_any (xs : List Bool) : primN .any [eLst D.bl xs] h = .ok (.bl (xs.any id)) h := by simp [primN, anyD_bl]
@[simp] theorem n_isinst (t : Ty) (a : D) : primN (.isinst t) [a] h = ro (isTy h a t) fun b => .ok (.bl b) h := opt_ro _ _
@[simp] theorem isTy_bl (b : Bool) (t : Ty) : isTy h (.bl b) t = some (t == .bool || t == .int) := rfl
@[simp] theorem isTy_eTup (e : α → D) (xs) (t : Ty) : isTy h (eTup e xs) t = some (t == .tup) := rfl
@[simp] theorem isTy_eLst (e : α → D) (xs) (t : Ty) : isTy h (eLst e xs) t = some (t == .lst) := rfl
@[simp] theorem isTy_e2 (a : α → D) (b : β → D) (p) (t : Ty) : isTy h (e2 a b p) t = some (t == .tup) := rfl
@[simp] theorem isTy_e3 (a : α → D) (b : β → D) (c : γ → D) (p) (t : Ty) : isTy h (e3 a b c p) t = some (t == .tup) := rfl
@[simp] theorem isTy_e4 (a : α → D) (b : β → D) (c : γ → D) (d : δ → D) (p) (t : Ty) : isTy h (e4 a b c d p) t = some (t == .tup) := rfl
theorem ty_beq (a b : Ty) : (a == b) = decide (a = b) := rfl
/-- sorting -/
def insL (lt : α → α → Bool) (x : α) : List α → List α
  | [] => [x]
  | y :: ys => if lt y x then y :: insL lt x ys else x :: y :: ys
def sortL (lt : α → α → Bool) : List α → List α
  | [] => []
  | x :: xs => insL lt x (sortL lt xs)
theorem insD_map {e : α → D} {lt : α → α → Bool} (hl : ∀ x y, ltB (e x) (e y) = lt x y) (x : α) : ∀ ys : List α, insD (e x) (ys.map e) = (insL lt x ys).map e
  | [] => rfl
  | y :: ys => by
    simp only [List.map_cons, insD, insL, hl, insD_map hl x ys]
    split <;> rfl
theorem sortD_map {e : α → D} {lt : α → α → Bool} (hl : ∀ x y, ltB (e x) (e y) = lt x y) : ∀ xs : List α, sortD (xs.map e) = (sortL lt xs).map e
  | [] => rfl
  | x :: xs => by simp only [List.map_cons, sortD, sortD_map hl xs, insD_map hl, sortL]
def ltI (a b : Int) : Bool := decide (a < b)
def ltII (a b : Int × Int) : Bool := decide (a.1 < b.1 ∨ (a.1 = b.1 ∧ a.2 < b.2))
def ltI4 (a b : Int × Int × Int × Int) : Bool := decide (a.1 < b.1 ∨ (a.1 = b.1 ∧ (a.2.1 < b.2.1 ∨ (a.2.1 = b.2.1 ∧ (a.2.2.1 < b.2.2.1 ∨ (a.2.2.1 = b.2.2.1 ∧ a.2.2.2 < b.2.2.2))))))
def ltLI : List Int → List Int → Bool
  | _, [] => false
  | [], _ :: _ => true
  | x :: xs, y :: ys => if x = y then ltLI xs ys else decide (x < y)
theorem lt_int (a b : Int) : ltB (.int a) (.int b) = ltI a b := rfl
theorem lt_e2 (a b : Int × Int) : ltB (e2 D.int D.int a) (e2 D.int D.int b) = ltII a b := by
  unfold ltB e2 dLt
  simp only [dLts, dLt, D.int.injEq]
  obtain ⟨a1, a2⟩ := a
  obtain ⟨b1, b2⟩ := b
  unfold ltII
  simp only
  by_cases h1 : a1 = b1
  · subst h1
    by_cases h2 : a2 = b2
    · subst h2
      simp
    · simp [h2]
  · simp [h1]
theorem lt_e4 (a b : Int × Int × Int × Int) : ltB (e4 D.int D.int D.int D.int a) (e4 D.int D.int D.int D.int b) = ltI4 a b := by
  unfold ltB e4 dLt
  simp only [dLts, dLt, D.int.injEq]
  obtain ⟨a1, a2, a3, a4⟩ := a
  obtain ⟨b1, b2, b3, b4⟩ := b
  unfold ltI4
  simp only
  by_cases h1 : a1 = b1
  · subst h1
    by_cases h2 : a2 = b2
    · subst h2
      by_cases h3 : a3 = b3
      · subst h3
        by_cases h4 : a4 = b4
        · subst h4
          simp
        · simp [h4]
      · simp [h3]
    · simp [h2]
  · simp [h1]
theorem dLts_LI : ∀ (a b : List Int), dLts (a.map D.int) (b.map D.int) = some (ltLI a b)
  | a, [] => by cases a <;> simp [dLts, ltLI]
  | [], _ :: _ => by simp [dLts, ltLI]
  | x :: xs, y :: ys => by
    simp only [List.map_cons, dLts, ltLI, D.int.injEq, dLts_LI xs ys]
    split <;> simp [dLt]
theorem lt_eTup (a b : List Int) : ltB (eTup D.int a) (eTup D.int b) = ltLI a b := by
  unfold ltB eTup
  rw [dLt, dLts_LI]
  rfl
theorem isInts_mp : ∀ xs : List Int, isInts (xs.map D.int) = true
  | [] => rfl
  | x :: xs => by simp [isInts, isInts_mp xs]
theorem isTI_e2 : ∀ xs : List (Int × Int), isTupInts (xs.map (e2 D.int D.int)) = true
  | [] => rfl
  | x :: xs => by simp [isTupInts, e2, isInts]; simpa [e2] using isTI_e2 xs
theorem isTI_e4 : ∀ xs : List (Int × Int × Int × Int), isTupInts (xs.map (e4 D.int D.int D.int D.int)) = true
  | [] => rfl
  | x :: xs => by simp [isTupInts, e4, isInts]; simpa [e4] using isTI_e4 xs
@[simp] theorem n_sortI (xs : List Int) : primN (.sorted true) [eLst D.int xs] h = .ok (eLst D.int (sortL ltI xs)) h := by simp [primN, isInts_mp, newL, eLst, sortD_map lt_int]
@[simp] theorem n_sortIT (xs : List Int) : primN (.sorted true) [eTup D.int xs] h = .ok (eLst D.int (sortL ltI xs)) h := by simp [primN, isInts_mp, newL, eLst, sortD_map lt_int]
@[simp] theorem n_sort2 (xs : List (Int × Int)) : primN (.sorted true) [eLst (e2 D.int D.int) xs] h = .ok (eLst (e2 D.int D.int) (sortL ltII xs)) h := by simp [primN, isTI_e2, newL, eLst, sortD_map lt_e2]
@[simp] theorem n_sort4 (xs : List (Int × Int × Int × Int)) : primN (.sorted true) [eLst (e4 D.int D.int D.int D.int) xs] h = .ok (eLst (e4 D.int D.int D.int D.int) (sortL ltI4 xs)) h := by simp [primN, isTI_e4, newL, eLst, sortD_map lt_e4]
@[simp] theorem p_lt2 (a b : Int × Int) : prim2 .lt (e2 D.int D.int a) (e2 D.int D.int b) h = .ok (.bl (ltII a b)) h := by
  have e1 : prim2 .lt (e2 D.int D.int a) (e2 D.int D.int b) h = Q.opt (dLts [.int a.1, .int a.2] [.int b.1, .int b.2]) fun r => .ok (.bl r) h := rfl
  have e2' := lt_e2 a b
  unfold ltB e2 dLt at e2'
  rw [e1]
  have : ∃ r, dLts [D.int a.1, .int a.2] [.int b.1, .int b.2] = some r := by
    simp only [dLts, dLt]
    split
    · split <;> exact ⟨_, rfl⟩
    · exact ⟨_, rfl⟩
  obtain ⟨r, hr⟩ := this
  rw [hr] at e2' ⊢
  rw [Q.opt_some, ← e2']
  rfl
/-- slices -/
def cutLoI (n : Nat) (v : Int) : Nat := if v < 0 then (v + n).toNat else min v.toNat n
@[simp] theorem isPart_int (i : Int) : isPart (.int i) = true := rfl
@[simp] theorem isPart_non : isPart .non = true := rfl
def cutL (xs : List α) (l u : Option Int) : List α := (xs.drop (match l with
  | none => 0
  | some v => cutLoI xs.length v)).take ((match u with
  | none => xs.length
  | some v => cutLoI xs.length v) - (match l with
  | none => 0
  | some v => cutLoI xs.length v))
@[simp] theorem sl_T00 (fr : Bool) (e : α → D) (xs : List α) : sliceP fr (eTup e xs) .non .non h = .ok (eTup e (cutL xs none none)) h := by simp [sliceP, cutD, cutLo, cutHi, cutL, eTup, ← List.map_take]
@[simp] theorem sl_T01 (fr : Bool) (e : α → D) (xs : List α) (v : Int) : sliceP fr (eTup e xs) .non (.int v) h = .ok (eTup e (cutL xs none (some v))) h := by simp [sliceP, cutD, cutLo, cutHi, cutL, cutLoI, eTup]
@[simp] theorem sl_T10 (fr : Bool) (e : α → D) (xs : List α) (v : Int) : sliceP fr (eTup e xs) (.int v) .non h = .ok (eTup e (cutL xs (some v) none)) h := by simp [sliceP, cutD, cutLo, cutHi, cutL, cutLoI, eTup]
@[simp] theorem sl_T11 (fr : Bool) (e : α → D) (xs : List α) (v w : Int) : sliceP fr (eTup e xs) (.int v) (.int w) h = .ok (eTup e (cutL xs (some v) (some w))) h := by simp [sliceP, cutD, cutLo, cutHi, cutL, cutLoI, eTup]
@[simp] theorem sl_L00 (e : α → D) (xs : List α) : sliceP true (eLst e xs) .non .non h = .ok (eLst e (cutL xs none none)) h := by simp [sliceP, cutD, cutLo, cutHi, cutL, eLst, newL, ← List.map_take]
@[simp] theorem sl_L01 (e : α → D) (xs : List α) (v : Int) : sliceP true (eLst e xs) .non (.int v) h = .ok (eLst e (cutL xs none (some v))) h := by simp [sliceP, cutD, cutLo, cutHi, cutL, cutLoI, eLst, newL]
@[simp] theorem sl_L10 (e : α → D) (xs : List α) (v : Int) : sliceP true (eLst e xs) (.int v) .non h = .ok (eLst e (cutL xs (some v) none)) h := by simp [sliceP, cutD, cutLo, cutHi, cutL, cutLoI, eLst, newL]
@[simp] theorem sl_L11 (e : α → D) (xs : List α) (v w : Int) : sliceP true (eLst e xs) (.int v) (.int w) h = .ok (eLst e (cutL xs (some v) (some w))) h := by simp [sliceP, cutD, cutLo, cutHi, cutL, cutLoI, eLst, newL]
@[simp] theorem rv_T (fr : Bool) (e : α → D) (xs : List α) : revP fr (eTup e xs) h = .ok (eTup e xs.reverse) h := by simp [revP, eTup]
@[simp] theorem rv_L (e : α → D) (xs : List α) : revP true (eLst e xs) h = .ok (eLst e xs.reverse) h := by simp [revP, eLst, newL]
/-! ### what is walked -/
@[simp] theorem w_seqT (e : α → D) (xs : List α) : walkOf .seq [eTup e xs] h = some ⟨mapD e xs, []⟩ := rfl
@[simp] theorem w_seqL (e : α → D) (xs : List α) : walkOf .seq [eLst e xs] h = some ⟨mapD e xs, []⟩ := rfl
def rangeI (i j : Int) : List Int := (List.range (j - i).toNat).map fun (k : Nat) => i + (k : Int)
theorem w_rng1 (j : Int) : walkOf .rng1 [.int j] h = if inR j then some ⟨mapD D.int (rangeI 0 j), []⟩ else none := by
  simp [walkOf, rangeD, rangeI, mapD]
  rfl
theorem w_rng2 (i j : Int) : walkOf .rng2 [.int i, .int j] h = if inR i ∧ inR j then some ⟨mapD D.int (rangeI i j), []⟩ else none := by
  simp [walkOf, rangeD, rangeI, mapD]
  rfl
/-- a range that is served -/
noncomputable def rng (i j : Int) : Option (List Int) := if inR i ∧ inR j then some (rangeI i j) else none
theorem inR_0 : inR 0 := ⟨by decide, by decide⟩
@[simp] theorem wk_rng1S (j : Int) (f : Wk → S) : wkS (walkOf .rng1 [.int j] h) f = so (rng 0 j) fun l => f ⟨mapD D.int l, []⟩ := by
  rw [w_rng1]
  unfold rng
  by_cases h : inR j
  · rw [if_pos h, if_pos ⟨inR_0, h⟩]
    rfl
  · rw [if_neg h, if_neg fun z => h z.2]
    rfl
@[simp] theorem wk_rng1R (j : Int) (f : Wk → R β) : wkR (walkOf .rng1 [.int j] h) f = ro (rng 0 j) fun l => f ⟨mapD D.int l, []⟩ := by
  rw [w_rng1]
  unfold rng
  by_cases h : inR j
  · rw [if_pos h, if_pos ⟨inR_0, h⟩]
    rfl
  · rw [if_neg h, if_neg fun z => h z.2]
    rfl
@[simp] theorem wk_rng2S (i j : Int) (f : Wk → S) : wkS (walkOf .rng2 [.int i, .int j] h) f = so (rng i j) fun l => f ⟨mapD D.int l, []⟩ := by
  rw [w_rng2]
  unfold rng
  by_cases h : inR i ∧ inR j
  · rw [if_pos h, if_pos h]
    rfl
  · rw [if_neg h, if_neg h]
    rfl
@[simp] theorem wk_rng2R (i j : Int) (f : Wk → R β) : wkR (walkOf .rng2 [.int i, .int j] h) f = ro (rng i j) fun l => f ⟨mapD D.int l, []⟩ := by
  rw [w_rng2]
  unfold rng
  by_cases h : inR i ∧ inR j
  · rw [if_pos h, if_pos h]
    rfl
  · rw [if_neg h, if_neg h]
    rfl
def enumL (i : Nat) : List α → List (Int × α)
  | [] => []
  | x :: xs => ((i : Int), x) :: enumL (i + 1) xs
theorem enumD_map (e : α → D) : ∀ (i : Nat) (xs : List α), enumD i (xs.map e) = (enumL i xs).map (e2 D.int e)
  | _, [] => rfl
  | i, x :: xs => by simp [enumD, enumL, enumD_map e (i + 1) xs, e2]
@[simp] theorem w_enumT (e : α → D) (xs : List α) : walkOf .enum [eTup e xs] h = some ⟨mapD (e2 D.int e) (enumL 0 xs), []⟩ := by simp [walkOf, walkSeq, eTup, enumD_map, mapD]
@[simp] theorem w_enumL (e : α → D) (xs : List α) : walkOf .enum [eLst e xs] h = some ⟨mapD (e2 D.int e) (enumL 0 xs), []⟩ := by simp [walkOf, walkSeq, eLst, enumD_map, mapD]
theorem zipD_map (e : α → D) (f : β → D) : ∀ (xs : List α) (ys : List β), zipD (xs.map e) (ys.map f) = (xs.zip ys).map (e2 e f)
  | [], _ => by cases ‹List β› <;> rfl
  | _ :: _, [] => rfl
  | x :: xs, y :: ys => by simp [zipD, zipD_map e f xs ys, e2]
@[simp] theorem w_zipTT (e : α → D) (f : β → D) (xs : List α) (ys : List β) : walkOf .zip [eTup e xs, eTup f ys] h = some ⟨mapD (e2 e f) (xs.zip ys), []⟩ := by simp [walkOf, walkSeq, eTup, zipD_map, isListD, mapD]
@[simp] theorem w_zipLL (e : α → D) (f : β → D) (xs : List α) (ys : List β) : walkOf .zip [eLst e xs, eLst f ys] h = some ⟨mapD (e2 e f) (xs.zip ys), []⟩ := by simp [walkOf, walkSeq, eLst, zipD_map, isListD, mapD]
end
end Q

/-! XD: objects of the clean heap. -/
namespace Q
open PySem
/-! ### places -/
section
variable (h L : Hc) (o o' : O) (p j : Nat)
@[simp] theorem get_app : (h ++ L)[h.length + j]? = L[j]? := by
  rw [List.getElem?_append_right (by omega)]
  congr 1
  omega
@[simp] theorem get_app0 : (h ++ L)[h.length]? = L[0]? := get_app h L 0
@[simp] theorem set_app : (h ++ L).set (h.length + j) o = h ++ L.set j o := by
  rw [List.set_append_right _ _ (by omega)]
  congr 2
  omega
@[simp] theorem set_app0 : (h ++ L).set h.length o = h ++ L.set 0 o := set_app h L o 0
@[simp] theorem get_sapp : (h.set p o ++ L)[h.length + j]? = L[j]? := by
  have := get_app (h.set p o) L j
  rwa [List.length_set] at this
@[simp] theorem get_sapp0 : (h.set p o ++ L)[h.length]? = L[0]? := get_sapp h L o p 0
@[simp] theorem set_sapp : (h.set p o ++ L).set (h.length + j) o' = h.set p o ++ L.set j o' := by
  have := set_app (h.set p o) L o' j
  rwa [List.length_set] at this
@[simp] theorem set_sapp0 : (h.set p o ++ L).set h.length o' = h.set p o ++ L.set 0 o' := set_sapp h L o o' p 0
end
section
variable {h L : Hc} {o o' : O} {p : Nat}
theorem get_pen (hp : p < h.length) : (h.set p o)[p]? = some o := by simp [hp]
theorem get_penL (hp : p < h.length) : (h.set p o ++ L)[p]? = some o := by rw [List.getElem?_append_left (by simpa using hp)]; simp [hp]
theorem set_penL (hp : p < h.length) : (h.set p o ++ L).set p o' = h.set p o' ++ L := by rw [List.set_append_left _ _ (by simpa using hp), List.set_set]
theorem set_pen : (h.set p o).set p o' = h.set p o' := List.set_set _
theorem ref_pen (hp : p < h.length) (k : Nat) : p < h.length + k := by omega
end
@[simp] theorem set_c0 {α : Type} (x y : α) (l : List α) : (x :: l).set 0 y = y :: l := rfl
@[simp] theorem set_c1 {α : Type} (a x y : α) (l : List α) : (a :: x :: l).set 1 y = a :: y :: l := rfl
@[simp] theorem set_c2 {α : Type} (a b x y : α) (l : List α) : (a :: b :: x :: l).set 2 y = a :: b :: y :: l := rfl
@[simp] theorem set_c3 {α : Type} (a b c x y : α) (l : List α) : (a :: b :: c :: x :: l).set 3 y = a :: b :: c :: y :: l := rfl
/-! ### keys -/
section
variable {α β κ : Type}
class KK (ke : κ → D) where
  kk : κ → Key
  key : ∀ k, keyK (ke k) = some (kk k)
  inj : ∀ a b, kk a = kk b → a = b
  back : ∀ k, dK (kk k) = ke k
class KT (ke : κ → D) where
  kt : κ → List Key
  key : ∀ k, keyT (ke k) = some (kt k)
  inj : ∀ a b, kt a = kt b → a = b
  back : ∀ k, dT (kt k) = ke k
instance : KK D.int := ⟨.inl, fun _ => rfl, fun _ _ h => Sum.inl.inj h, fun _ => rfl⟩
instance : KK D.str := ⟨.inr, fun _ => rfl, fun _ _ h => Sum.inr.inj h, fun _ => rfl⟩
instance : KT (e2 D.int D.int) := ⟨fun p => [.inl p.1, .inl p.2], fun _ => rfl, fun a b h => by
  simp only [List.cons.injEq, Sum.inl.injEq, and_true] at h
  exact Prod.ext h.1 h.2, fun _ => rfl⟩
theorem keysK_ints : ∀ xs : List Int, keysK (xs.map D.int) = some (xs.map Sum.inl)
  | [] => rfl
  | x :: xs => by simp [keysK, keyK, keysK_ints xs]
instance : KT (eTup D.int) := ⟨fun xs => xs.map .inl, fun xs => keysK_ints xs, fun a b h => (List.map_inj_right (fun _ _ h => Sum.inl.inj h)).mp h, fun xs => by simp [dT, dK, eTup]⟩
def getA [DecidableEq κ] (kvs : List (κ × α)) (k : κ) : Option α := (kvs.find? fun kv => decide (kv.1 = k)).map (·.2)
def putA [DecidableEq κ] (kvs : List (κ × α)) (k : κ) (v : α) : List (κ × α) :=
  if (kvs.any fun kv => decide (kv.1 = k)) = true then kvs.map (fun kv => if kv.1 = k then (kv.1, v) else kv) else kvs ++ [(k, v)]
theorem getP_map [DecidableEq κ] {χ : Type} [DecidableEq χ] (f : κ → χ) (hf : ∀ a b, f a = f b → a = b) (e : α → D) (k : κ) : ∀ kvs : List (κ × α), getP (kvs.map fun p => (f p.1, e p.2)) (f k) = (getA kvs k).map e
  | [] => rfl
  | p :: kvs => by
    have ih := getP_map f hf e k kvs
    unfold getP getA at ih ⊢
    rw [List.map_cons, List.find?_cons, List.find?_cons]
    by_cases h : p.1 = k
    · simp [h]
    · have : ¬ f p.1 = f k := fun q => h (hf _ _ q)
      simp only [decide_eq_false h, decide_eq_false this]
      exact ih
theorem any_map_key [DecidableEq κ] {χ : Type} [DecidableEq χ] (f : κ → χ) (hf : ∀ a b, f a = f b → a = b) (e : α → D) (k : κ) (kvs : List (κ × α)) : ((kvs.map fun p => (f p.1, e p.2)).any fun kv => decide (kv.1 = f k)) = kvs.any fun kv => decide (kv.1 = k) := by
  rw [List.any_map]
  congr 1
  funext p
  simp only [Function.comp]
  by_cases h : p.1 = k
  · simp [h]
  · have : ¬ f p.1 = f k := fun q => h (hf _ _ q)
    simp [h, this]
theorem putP_map [DecidableEq κ] {χ : Type} [DecidableEq χ] (f : κ → χ) (hf : ∀ a b, f a = f b → a = b) (e : α → D) (k : κ) (v : α) (kvs : List (κ × α)) : putP (kvs.map fun p => (f p.1, e p.2)) (f k) (e v) = (putA kvs k v).map fun p => (f p.1, e p.2) := by
  unfold putP putA
  rw [any_map_key f hf]
  split
  · rw [List.map_map, List.map_map]
    refine List.map_congr_left fun p _ => ?_
    simp only [Function.comp]
    by_cases h : p.1 = k
    · rw [if_pos h, if_pos (by rw [h])]
    · have : ¬ f p.1 = f k := fun q => h (hf _ _ q)
      rw [if_neg h, if_neg this]
  · simp
/-- dicts by ints or texts; by tuples of such -/
def oMk (ke : κ → D) [KK ke] (e : α → D) (kvs : List (κ × α)) : O := .dk (kvs.map fun p => (KK.kk ke p.1, e p.2))
def oMt (ke : κ → D) [KT ke] (e : α → D) (kvs : List (κ × α)) : O := .dt (kvs.map fun p => (KT.kt ke p.1, e p.2))
@[simp] theorem oflat_oMk (ke : κ → D) [KK ke] (e : α → D) [Cod e] (kvs) : (oMk ke e kvs).flat = true := by
  have : (kvs.map fun p : κ × α => (KK.kk ke p.1, e p.2)).map (·.2) = (kvs.map (·.2)).map e := by simp
  unfold oMk O.flat
  simp only [this, flats_map]
@[simp] theorem oflat_oMt (ke : κ → D) [KT ke] (e : α → D) [Cod e] (kvs) : (oMt ke e kvs).flat = true := by
  have : (kvs.map fun p : κ × α => (KT.kt ke p.1, e p.2)).map (·.2) = (kvs.map (·.2)).map e := by simp
  unfold oMt O.flat
  simp only [this, flats_map]
/-! ### readings by what stands at a place -/
def apO (o : Option O) (v : D) (k : O → R D) : R D := match o with
  | some (.lst xs) => if xs.length < sizeLine then k (.lst (xs ++ [v])) else .bad
  | _ => .bad
theorem m_append' (n : Nat) (v : D) (H : Hc) : primM .append (.ref n) [v] H = apO H[n]? v fun o => .ok .non (H.set n o) := by
  unfold apO
  simp only [primM]
  all_goals (split <;> simp_all)
@[simp] theorem apO_l (e : α → D) (xs : List α) (x : α) (k : O → R D) : apO (some (oLst e xs)) (e x) k = if xs.length < sizeLine then k (oLst e (xs ++ [x])) else .bad := by simp [apO, oLst]
def isLO : Option O → Bool
  | some (.lst _) => true
  | _ => false
@[simp] theorem isLO_l (e : α → D) (xs : List α) : isLO (some (oLst e xs)) = true := rfl
@[simp] theorem isLO_p (s) : isLO (some (oPen s)) = true := rfl
def isDO : Option O → Bool
  | some (.dk _) => true
  | some (.dt _) => true
  | some (.wk _) => true
  | some (.wt _) => true
  | _ => false
@[simp] theorem isDO_k (ke : κ → D) [KK ke] (e : α → D) (kvs) : isDO (some (oMk ke e kvs)) = true := rfl
@[simp] theorem isDO_t (ke : κ → D) [KT ke] (e : α → D) (kvs) : isDO (some (oMt ke e kvs)) = true := rfl
theorem isLst_ref (n : Nat) (H : Hc) : recv.isLst H (.ref n) = isLO H[n]? := by
  unfold recv.isLst
  rw [look_ref]
  cases H[n]? with
  | none => rfl
  | some o => cases o <;> rfl
theorem isDct_ref (n : Nat) (H : Hc) : recv.isDct H (.ref n) = isDO H[n]? := by
  show (match H[n]? with
    | some (.dk _) => true
    | some (.dt _) => true
    | some (.wk _) => true
    | some (.wt _) => true
    | _ => false) = isDO H[n]?
  unfold isDO
  cases H[n]? with
  | none => rfl
  | some o => cases o <;> rfl
@[simp] theorem rcv_append (n : Nat) (H : Hc) (f : R D) : rcv .append (.ref n) H f = if isLO H[n]? = true then f else .bad := by rw [rcv, recv, isLst_ref]
@[simp] theorem rcv_pop0 (n : Nat) (H : Hc) (f : R D) : rcv .pop0 (.ref n) H f = if isLO H[n]? = true then f else .bad := by rw [rcv, recv, isLst_ref]
@[simp] theorem rcv_pop1 (n : Nat) (H : Hc) (f : R D) : rcv .pop1 (.ref n) H f = if isLO H[n]? = true then f else .bad := by rw [rcv, recv, isLst_ref]
@[simp] theorem rcv_get1 (n : Nat) (H : Hc) (f : R D) : rcv .get1 (.ref n) H f = if isDO H[n]? = true then f else .bad := by rw [rcv, recv, isDct_ref]
@[simp] theorem rcv_get2 (n : Nat) (H : Hc) (f : R D) : rcv .get2 (.ref n) H f = if isDO H[n]? = true then f else .bad := by rw [rcv, recv, isDct_ref]
@[simp] theorem rcv_update (n : Nat) (H : Hc) (f : R D) : rcv .update1 (.ref n) H f = if isDO H[n]? = true then f else .bad := by rw [rcv, recv, isDct_ref]
@[simp] theorem rcv_indexR (n : Nat) (H : Hc) (f : R D) : rcv .index (.ref n) H f = if isLO H[n]? = true then f else .bad := by rw [rcv, recv, isLst_ref]
@[simp] theorem rcv_indexL (e : α → D) (xs : List α) (H : Hc) (f : R D) : rcv .index (eLst e xs) H f = f := rfl
@[simp] theorem rcv_countL (e : α → D) (xs : List α) (H : Hc) (f : R D) : rcv .count (eLst e xs) H f = f := rfl
/-- stores -/
def stO (o : Option O) (i v : D) (k : O → S) : S := match o with
  | some (.lst xs) => (match i with
    | .int i => so (ixD xs.length i) fun j => k (.lst (xs.set j v))
    | _ => .bad)
  | some (.dk kvs) => if kvs.length < sizeLine then so (keyK i) fun q => k (.dk (putP kvs q v)) else .bad
  | some (.dt kvs) => if kvs.length < sizeLine then so (keyT i) fun q => k (.dt (putP kvs q v)) else .bad
  | _ => .bad
theorem setS_map {α : Type} (o : Option α) (f : α → Hc) (ρ : Env) : setS (o.map f) ρ = so o fun a => .nx ρ (f a) := by cases o <;> rfl
theorem seti_ref (n : Nat) (i v : D) (H : Hc) (ρ : Env) : setS (setItem (.ref n) i v H) ρ = stO H[n]? i v fun o => .nx ρ (H.set n o) := by
  unfold setItem stO
  simp only [dPut]
  cases hn : H[n]? with
  | none => cases i <;> rfl
  | some o =>
    cases o with
    | lst xs => cases i <;> first | rfl | exact setS_map _ _ _
    | dk kvs =>
      cases i <;> (simp only; split <;> first | rfl | exact setS_map _ _ _)
    | dt kvs =>
      cases i <;> (simp only; split <;> first | rfl | exact setS_map _ _ _)
    | _ => cases i <;> rfl
def setL (xs : List α) (i : Int) (v : α) : Option (List α) := (ixD xs.length i).map fun k => xs.set k v
@[simp] theorem stO_l (e : α → D) (xs : List α) (i : Int) (v : α) (k : O → S) : stO (some (oLst e xs)) (.int i) (e v) k = so (setL xs i v) fun ys => k (oLst e ys) := by
  simp only [stO, oLst, List.length_map, setL, so_map, List.map_set]
@[simp] theorem stO_k [DecidableEq κ] (ke : κ → D) [KK ke] (e : α → D) (kvs : List (κ × α)) (q : κ) (v : α) (k : O → S) : stO (some (oMk ke e kvs)) (ke q) (e v) k = if kvs.length < sizeLine then k (oMk ke e (putA kvs q v)) else .bad := by
  simp only [stO, oMk, List.length_map, KK.key, so_some, putP_map (KK.kk ke) (KK.inj (ke := ke))]
@[simp] theorem stO_t [DecidableEq κ] (ke : κ → D) [KT ke] (e : α → D) (kvs : List (κ × α)) (q : κ) (v : α) (k : O → S) : stO (some (oMt ke e kvs)) (ke q) (e v) k = if kvs.length < sizeLine then k (oMt ke e (putA kvs q v)) else .bad := by
  simp only [stO, oMt, List.length_map, KT.key, so_some, putP_map (KT.kt ke) (KT.inj (ke := ke))]
/-- items -/
def idO (o : Option O) (i : D) (k : D → R D) : R D := match o with
  | some (.lst xs) => (match i with
    | .int i => ro ((ixD xs.length i).bind fun j => xs[j]?) k
    | _ => .bad)
  | some (.dk kvs) => ro (keyK i) fun q => ro (getP kvs q) k
  | some (.wk kvs) => ro (keyK i) fun q => ro (getP kvs q) k
  | some (.dt kvs) => ro (keyT i) fun q => ro (getP kvs q) k
  | some (.wt kvs) => ro (keyT i) fun q => ro (getP kvs q) k
  | _ => .bad
theorem idx_ref (n : Nat) (i : D) (H : Hc) : prim2 .idx (.ref n) i H = idO H[n]? i fun v => .ok v H := by
  unfold idO
  simp only [prim2, lookT_ref]
  cases hn : H[n]? with
  | none => simp [thawO, dGet, hn]
  | some o => cases o <;> (cases i <;> simp [thawO, dGet, hn])
@[simp] theorem idO_l (e : α → D) (xs : List α) (i : Int) (k : D → R D) : idO (some (oLst e xs)) (.int i) k = ro (ixL xs i) fun v => k (e v) := by
  simp only [idO, oLst, ixL_map, ro_map]
@[simp] theorem idO_k [DecidableEq κ] (ke : κ → D) [KK ke] (e : α → D) (kvs : List (κ × α)) (q : κ) (k : D → R D) : idO (some (oMk ke e kvs)) (ke q) k = ro (getA kvs q) fun v => k (e v) := by
  simp only [idO, oMk, KK.key, ro_some, getP_map (KK.kk ke) (KK.inj (ke := ke)), ro_map]
@[simp] theorem idO_t [DecidableEq κ] (ke : κ → D) [KT ke] (e : α → D) (kvs : List (κ × α)) (q : κ) (k : D → R D) : idO (some (oMt ke e kvs)) (ke q) k = ro (getA kvs q) fun v => k (e v) := by
  simp only [idO, oMt, KT.key, ro_some, getP_map (KT.kt ke) (KT.inj (ke := ke)), ro_map]
/-- in -/
def inO (o : Option O) (H : Hc) (x : D) (k : Bool → R D) : R D := match o with
  | some (.lst xs) => ro (dIn H xs x) k
  | some (.dk kvs) => ro (keyK x) fun q => k (getP kvs q).isSome
  | some (.wk kvs) => ro (keyK x) fun q => k (getP kvs q).isSome
  | some (.dt kvs) => ro (keyT x) fun q => k (getP kvs q).isSome
  | some (.wt kvs) => ro (keyT x) fun q => k (getP kvs q).isSome
  | _ => .bad
theorem in_ref (n : Nat) (x : D) (H : Hc) : prim2 .isin x (.ref n) H = inO H[n]? H x fun b => .ok (.bl b) H := by
  unfold inO
  simp only [prim2, lookT_ref]
  cases hn : H[n]? with
  | none => simp [thawO, dGet, hn]
  | some o => cases o <;> simp [thawO, dGet, hn]
theorem notin_ref (n : Nat) (x : D) (H : Hc) : prim2 .notin x (.ref n) H = inO H[n]? H x fun b => .ok (.bl !b) H := by
  unfold inO
  simp only [prim2, lookT_ref]
  cases hn : H[n]? with
  | none => simp [thawO, dGet, hn]
  | some o => cases o <;> simp [thawO, dGet, hn]
@[simp] theorem inO_lI (H : Hc) (xs : List Int) (x : Int) (k : Bool → R D) : inO (some (oLst D.int xs)) H (.int x) k = k (memB x xs) := by
  simp only [inO, oLst]
  rw [dIn_e (by decide), ro_some]
@[simp] theorem inO_lT (H : Hc) (xs : List (List Int)) (x : List Int) (k : Bool → R D) : inO (some (oLst (eTup D.int) xs)) H (eTup D.int x) k = k (memB x xs) := by
  simp only [inO, oLst]
  rw [dIn_e (by decide), ro_some]
@[simp] theorem inO_k [DecidableEq κ] (ke : κ → D) [KK ke] (e : α → D) (kvs : List (κ × α)) (H : Hc) (q : κ) (k : Bool → R D) : inO (some (oMk ke e kvs)) H (ke q) k = k (getA kvs q).isSome := by
  simp only [inO, oMk, KK.key, ro_some, getP_map (KK.kk ke) (KK.inj (ke := ke)), Option.isSome_map]
@[simp] theorem inO_t [DecidableEq κ] (ke : κ → D) [KT ke] (e : α → D) (kvs : List (κ × α)) (H : Hc) (q : κ) (k : Bool → R D) : inO (some (oMt ke e kvs)) H (ke q) k = k (getA kvs q).isSome := by
  simp only [inO, oMt, KT.key, ro_some, getP_map (KT.kt ke) (KT.inj (ke := ke)), Option.isSome_map]
/-- len -/
def lnO (o : Option O) (k : Int → R D) : R D := match o with
  | some (.lst xs) => k xs.length
  | some (.dk kvs) => k kvs.length
  | some (.dt kvs) => k kvs.length
  | _ => .bad
theorem len_ref (n : Nat) (H : Hc) : primN .len [.ref n] H = lnO H[n]? fun i => .ok (.int i) H := by
  unfold lnO
  simp only [primN, lookT_ref]
  cases hn : H[n]? with
  | none => simp [thawO]
  | some o => cases o <;> simp [thawO]
@[simp] theorem lnO_l (e : α → D) (xs : List α) (k : Int → R D) : lnO (some (oLst e xs)) k = k xs.length := by simp [lnO, oLst]
@[simp] theorem lnO_k (ke : κ → D) [KK ke] (e : α → D) (kvs) (k : Int → R D) : lnO (some (oMk ke e kvs)) k = k kvs.length := by simp [lnO, oMk]
@[simp] theorem lnO_t (ke : κ → D) [KT ke] (e : α → D) (kvs) (k : Int → R D) : lnO (some (oMt ke e kvs)) k = k kvs.length := by simp [lnO, oMt]
/-- tuple(..), sorted(..) of a list at a place -/
def asL (o : Option O) (n : Nat) : D := match o with
  | some (.lst xs) => .lst xs
  | _ => .ref n
@[simp] theorem asL_l (e : α → D) (xs : List α) (n : Nat) : asL (some (oLst e xs)) n = eLst e xs := rfl
def tpO (o : Option O) (fz : Bool) (k : D → R D) : R D := match o with
  | some (.lst xs) => k (if fz then .ftp xs else .tup xs)
  | _ => .bad
theorem toTup_ref (n : Nat) (fz : Bool) (H : Hc) : primN (.toTup fz) [.ref n] H = tpO H[n]? fz fun d => .ok d H := by
  unfold tpO
  simp only [primN, look_ref]
  cases hn : H[n]? with
  | none => simp [thawO]
  | some o => cases o <;> simp [thawO]
@[simp] theorem tpO_l (e : α → D) (xs : List α) (k : D → R D) : tpO (some (oLst e xs)) false k = k (eTup e xs) := by simp [tpO, oLst, eTup]
def srO (o : Option O) (k : D → R D) : R D := match o with
  | some (.lst xs) => if isInts xs || isTupInts xs then k (.lst (sortD xs)) else .bad
  | some (.dk kvs) => if isInts (kvs.map fun kv => dK kv.1) || isTupInts (kvs.map fun kv => dK kv.1) then k (.lst (sortD (kvs.map fun kv => dK kv.1))) else .bad
  | some (.dt kvs) => if isInts (kvs.map fun kv => dT kv.1) || isTupInts (kvs.map fun kv => dT kv.1) then k (.lst (sortD (kvs.map fun kv => dT kv.1))) else .bad
  | some (.wk kvs) => if isInts (kvs.map fun kv => dK kv.1) || isTupInts (kvs.map fun kv => dK kv.1) then k (.lst (sortD (kvs.map fun kv => dK kv.1))) else .bad
  | some (.wt kvs) => if isInts (kvs.map fun kv => dT kv.1) || isTupInts (kvs.map fun kv => dT kv.1) then k (.lst (sortD (kvs.map fun kv => dT kv.1))) else .bad
  | _ => .bad
theorem sorted_ref (n : Nat) (H : Hc) : primN (.sorted true) [.ref n] H = srO H[n]? fun d => .ok d H := by
  unfold srO
  simp only [primN, lookT_ref]
  cases hn : H[n]? with
  | none => simp [thawO, dKeys, hn]
  | some o => cases o <;> simp [thawO, dKeys, hn, newL]
@[simp] theorem srO_lI (xs : List Int) (k : D → R D) : srO (some (oLst D.int xs)) k = k (eLst D.int (sortL ltI xs)) := by
  simp [srO, oLst, isInts_mp, sortD_map lt_int, eLst]
@[simp] theorem srO_l2 (xs : List (Int × Int)) (k : D → R D) : srO (some (oLst (e2 D.int D.int) xs)) k = k (eLst (e2 D.int D.int) (sortL ltII xs)) := by
  simp [srO, oLst, isTI_e2, sortD_map lt_e2, eLst]
@[simp] theorem srO_l4 (xs : List (Int × Int × Int × Int)) (k : D → R D) : srO (some (oLst (e4 D.int D.int D.int D.int) xs)) k = k (eLst (e4 D.int D.int D.int D.int) (sortL ltI4 xs)) := by
  simp [srO, oLst, isTI_e4, sortD_map lt_e4, eLst]
@[simp] theorem srO_k (e : α → D) (kvs : List (Int × α)) (k : D → R D) : srO (some (oMk D.int e kvs)) k = k (eLst D.int (sortL ltI (kvs.map (·.1)))) := by
  have : (kvs.map fun p : Int × α => (KK.kk D.int p.1, e p.2)).map (fun kv => dK kv.1) = (kvs.map (·.1)).map D.int := by
    rw [List.map_map, List.map_map]
    rfl
  simp only [srO, oMk, this, isInts_mp, sortD_map lt_int, eLst, Bool.true_or, if_true]
@[simp] theorem srO_t (e : α → D) (kvs : List ((Int × Int) × α)) (k : D → R D) : srO (some (oMt (e2 D.int D.int) e kvs)) k = k (eLst (e2 D.int D.int) (sortL ltII (kvs.map (·.1)))) := by
  have : (kvs.map fun p : (Int × Int) × α => (KT.kt (e2 D.int D.int) p.1, e p.2)).map (fun kv => dT kv.1) = (kvs.map (·.1)).map (e2 D.int D.int) := by
    rw [List.map_map, List.map_map]
    rfl
  simp only [srO, oMt, this, isTI_e2, sortD_map lt_e2, eLst, Bool.or_true, if_true]
/-- what is walked at a place -/
theorem w_seqR (n : Nat) (H : Hc) (e : α → D) (xs : List α) (hn : H[n]? = some (oLst e xs)) : walkOf .seq [.ref n] H = some ⟨mapD e xs, [(n, oLst e xs)]⟩ := by
  simp only [walkOf, walkSeq, hn, oLst, mapD]
theorem w_enumR (n : Nat) (H : Hc) (e : α → D) (xs : List α) (hn : H[n]? = some (oLst e xs)) : walkOf .enum [.ref n] H = some ⟨mapD (e2 D.int e) (enumL 0 xs), [(n, oLst e xs)]⟩ := by
  simp [walkOf, walkSeq, hn, oLst, enumD_map, mapD]
/-- get -/
def gtO (o : Option O) (i : D) (k : Option D → R D) : R D := match o with
  | some (.dk kvs) => ro (keyK i) fun q => k (getP kvs q)
  | some (.wk kvs) => ro (keyK i) fun q => k (getP kvs q)
  | some (.dt kvs) => ro (keyT i) fun q => k (getP kvs q)
  | some (.wt kvs) => ro (keyT i) fun q => k (getP kvs q)
  | _ => .bad
theorem get1_ref (n : Nat) (i : D) (H : Hc) : primM .get1 (.ref n) [i] H = gtO H[n]? i fun r => .ok (r.getD .non) H := by
  unfold gtO
  simp only [primM, dGet]
  cases hn : H[n]? with
  | none => simp
  | some o => cases o <;> simp
theorem get2_ref (n : Nat) (i v : D) (H : Hc) : primM .get2 (.ref n) [i, v] H = gtO H[n]? i fun r => .ok (r.getD v) H := by
  unfold gtO
  simp only [primM, dGet]
  cases hn : H[n]? with
  | none => simp
  | some o => cases o <;> simp
@[simp] theorem gtO_k [DecidableEq κ] (ke : κ → D) [KK ke] (e : α → D) (kvs : List (κ × α)) (q : κ) (k : Option D → R D) : gtO (some (oMk ke e kvs)) (ke q) k = k ((getA kvs q).map e) := by
  simp only [gtO, oMk, KK.key, ro_some, getP_map (KK.kk ke) (KK.inj (ke := ke))]
@[simp] theorem gtO_t [DecidableEq κ] (ke : κ → D) [KT ke] (e : α → D) (kvs : List (κ × α)) (q : κ) (k : Option D → R D) : gtO (some (oMt ke e kvs)) (ke q) k = k ((getA kvs q).map e) := by
  simp only [gtO, oMt, KT.key, ro_some, getP_map (KT.kt ke) (KT.inj (ke := ke))]
@[simp] theorem getD_map_e (o : Option α) (e : α → D) (x : α) : (o.map e).getD (e x) = e (o.getD x) := by cases o <;> rfl
theorem getD_map_o (o : Option α) (e : α → D) : (o.map e).getD .non = eOpt e o := by cases o <;> rfl
/-- update by a dict made for it -/
def upO (o m : Option O) (ne : Prop) [Decidable ne] (k : O → R D) : R D := match o, m with
  | some (.dk kvs), some (.dk more) => if ne ∧ kvs.length + more.length ≤ sizeLine then k (.dk (more.foldl (fun acc kv => putP acc kv.1 kv.2) kvs)) else .bad
  | _, _ => .bad
theorem update_ref (n m : Nat) (H : Hc) : primM .update1 (.ref n) [.ref m] H = upO H[n]? H[m]? (n ≠ m) fun o => .ok .non (H.set n o) := by
  unfold upO
  simp only [primM]
  all_goals (
    cases hn : H[n]? with
    | none => simp
    | some o =>
      cases hm : H[m]? with
      | none => cases o <;> simp
      | some o' => cases o <;> cases o' <;> simp)
theorem foldl_putP [DecidableEq κ] {χ : Type} [DecidableEq χ] (f : κ → χ) (hf : ∀ a b, f a = f b → a = b) (e : α → D) : ∀ (more kvs : List (κ × α)), (more.map fun p => (f p.1, e p.2)).foldl (fun acc kv => putP acc kv.1 kv.2) (kvs.map fun p => (f p.1, e p.2)) = (more.foldl (fun acc kv => putA acc kv.1 kv.2) kvs).map fun p => (f p.1, e p.2)
  | [], _ => rfl
  | p :: more, kvs => by
    rw [List.map_cons, List.foldl_cons, List.foldl_cons, putP_map f hf]
    exact foldl_putP f hf e more _
@[simp] theorem upO_k [DecidableEq κ] (ke : κ → D) [KK ke] (e : α → D) (kvs more : List (κ × α)) (ne : Prop) [Decidable ne] (k : O → R D) : upO (some (oMk ke e kvs)) (some (oMk ke e more)) ne k = if ne ∧ kvs.length + more.length ≤ sizeLine then k (oMk ke e (more.foldl (fun acc kv => putA acc kv.1 kv.2) kvs)) else .bad := by
  simp only [upO, oMk, List.length_map, foldl_putP (KK.kk ke) (KK.inj (ke := ke))]
end
/-! ### pens -/
abbrev Pen := Int × Int × Int
def penO : Option O → Pen
  | some (.lst [.int a, .int b, .int c]) => (a, b, c)
  | _ => (0, 0, 0)
def isPen : Option O → Bool
  | some (.lst [.int _, .int _, .int _]) => true
  | _ => false
@[simp] theorem penO_pen (s : Pen) : penO (some (oPen s)) = s := rfl
@[simp] theorem isPen_pen (s : Pen) : isPen (some (oPen s)) = true := rfl
theorem isPen_some {o : Option O} (h : isPen o = true) : o = some (oPen (penO o)) := by
  unfold isPen at h
  split at h
  · rfl
  · cases h
/-- a stateful callee: from its form at a heap where the pen stands -/
theorem pen_call {α : Type} {T : Tab} {n f : Nat} {e : α → D} {rest : List D} {g : Pen → X Pen (α × Pen)} (core : ∀ (h : Hc) (p : Nat) (s : Pen), p < h.length → runF T n f (.ref p :: rest) (h.set p (oPen s)) = rx (g s) (fun s => h.set p (oPen s)) fun r => .ok (e r.1) (h.set p (oPen r.2)))
    (H : Hc) (p : Nat) (hp : isPen H[p]? = true) : runF T n f (.ref p :: rest) H = rx (g (penO H[p]?)) (fun s => H.set p (oPen s)) fun r => .ok (e r.1) (H.set p (oPen r.2)) := by
  have h1 := isPen_some hp
  obtain ⟨h2, h3⟩ := List.getElem?_eq_some_iff.mp h1
  have := core H p (penO H[p]?) h2
  have e1 : H.set p (oPen (penO H[p]?)) = H := by
    rw [← h3]
    exact List.set_getElem_self h2
  rwa [e1] at this
end Q

/-! XE: shallow operations. -/
namespace Q
open PySem
namespace X
variable {ε α κ : Type}
def mulI (i j : Int) : X ε Int := if small i j then .ok (i * j) else .bad
def fdivI (i j : Int) : X ε Int := if 0 < j ∧ j < 2 ^ 8000 then .ok (i / j) else .bad
def modI (i j : Int) : X ε Int := if 0 < j then .ok (i % j) else .bad
def powI (i j : Int) : X ε Int := if 0 ≤ j ∧ j ≤ 1000 ∧ i.natAbs < 2 ^ 64 then .ok (i ^ j.toNat) else .bad
def addL (xs ys : List α) : X ε (List α) := if xs.length + ys.length ≤ sizeLine then .ok (xs ++ ys) else .bad
def mulL (xs : List α) (k : Int) : X ε (List α) := if k ≤ 1000 ∧ xs.length ≤ 1000 ∧ -1000 ≤ k then .ok (List.replicate k.toNat xs).flatten else .bad
def push (xs : List α) (x : α) : X ε (List α) := if xs.length < sizeLine then .ok (xs ++ [x]) else .bad
def put [DecidableEq κ] (kvs : List (κ × α)) (k : κ) (v : α) : X ε (List (κ × α)) := if kvs.length < sizeLine then .ok (putA kvs k v) else .bad
def upd [DecidableEq κ] (kvs more : List (κ × α)) : X ε (List (κ × α)) := if kvs.length + more.length ≤ sizeLine then .ok (more.foldl (fun acc kv => putA acc kv.1 kv.2) kvs) else .bad
def addS (x y : PySem.Str) : X ε PySem.Str := if x.length + y.length ≤ sizeLine then .ok (x ++ y) else .bad
/-- the number of unlike items -/
def onceI : List Int → List Int → List Int
  | acc, [] => acc
  | acc, x :: xs => if x ∈ acc then onceI acc xs else onceI (acc ++ [x]) xs
def lenSet (xs : List Int) : X ε Int := if xs.length ≤ 4000 then .ok (onceI [] xs).length else .bad
end X
section
variable {ε α β γ δ κ : Type} (hx : ε → Hc)
@[simp] theorem rx_mulI (i j : Int) (k : Int → R β) : rx (X.mulI i j) hx k = if small i j then k (i * j) else .bad := by unfold X.mulI; split <;> rfl
@[simp] theorem sx_mulI (i j : Int) (k : Int → S) : sx (X.mulI i j) hx k = if small i j then k (i * j) else .bad := by unfold X.mulI; split <;> rfl
@[simp] theorem rx_fdivI (i j : Int) (k : Int → R β) : rx (X.fdivI i j) hx k = if 0 < j ∧ j < 2 ^ 8000 then k (i / j) else .bad := by unfold X.fdivI; split <;> rfl
@[simp] theorem sx_fdivI (i j : Int) (k : Int → S) : sx (X.fdivI i j) hx k = if 0 < j ∧ j < 2 ^ 8000 then k (i / j) else .bad := by unfold X.fdivI; split <;> rfl
@[simp] theorem rx_modI (i j : Int) (k : Int → R β) : rx (X.modI i j) hx k = if 0 < j then k (i % j) else .bad := by unfold X.modI; split <;> rfl
@[simp] theorem sx_modI (i j : Int) (k : Int → S) : sx (X.modI i j) hx k = if 0 < j then k (i % j) else .bad := by unfold X.modI; split <;> rfl
@[simp] theorem rx_powI (i j : Int) (k : Int → R β) : rx (X.powI i j) hx k = if 0 ≤ j ∧ j ≤ 1000 ∧ i.natAbs < 2 ^ 64 then k (i ^ j.toNat) else .bad := by unfold X.powI; split <;> rfl
@[simp] theorem sx_powI (i j : Int) (k : Int → S) : sx (X.powI i j) hx k = if 0 ≤ j ∧ j ≤ 1000 ∧ i.natAbs < 2 ^ 64 then k (i ^ j.toNat) else .bad := by unfold X.powI; split <;> rfl
@[simp] theorem p_pow (h : Hc) (i j : Int) : prim2 .pow (.int i) (.int j) h = if 0 ≤ j ∧ j ≤ 1000 ∧ i.natAbs < 2 ^ 64 then .ok (.int (i ^ j.toNat)) h else .bad := rfl
@[simp] theorem rx_addL (xs ys : List α) (k : List α → R β) : rx (X.addL xs ys) hx k = if xs.length + ys.length ≤ sizeLine then k (xs ++ ys) else .bad := by unfold X.addL; split <;> rfl
@[simp] theorem sx_addL (xs ys : List α) (k : List α → S) : sx (X.addL xs ys) hx k = if xs.length + ys.length ≤ sizeLine then k (xs ++ ys) else .bad := by unfold X.addL; split <;> rfl
@[simp] theorem rx_mulL (xs : List α) (i : Int) (k : List α → R β) : rx (X.mulL xs i) hx k = if i ≤ 1000 ∧ xs.length ≤ 1000 ∧ -1000 ≤ i then k (List.replicate i.toNat xs).flatten else .bad := by unfold X.mulL; split <;> rfl
@[simp] theorem sx_mulL (xs : List α) (i : Int) (k : List α → S) : sx (X.mulL xs i) hx k = if i ≤ 1000 ∧ xs.length ≤ 1000 ∧ -1000 ≤ i then k (List.replicate i.toNat xs).flatten else .bad := by unfold X.mulL; split <;> rfl
@[simp] theorem rx_push (xs : List α) (x : α) (k : List α → R β) : rx (X.push xs x) hx k = if xs.length < sizeLine then k (xs ++ [x]) else .bad := by unfold X.push; split <;> rfl
@[simp] theorem sx_push (xs : List α) (x : α) (k : List α → S) : sx (X.push xs x) hx k = if xs.length < sizeLine then k (xs ++ [x]) else .bad := by unfold X.push; split <;> rfl
@[simp] theorem rx_put [DecidableEq κ] (kvs : List (κ × α)) (q : κ) (v : α) (k : List (κ × α) → R β) : rx (X.put kvs q v) hx k = if kvs.length < sizeLine then k (putA kvs q v) else .bad := by unfold X.put; split <;> rfl
@[simp] theorem sx_put [DecidableEq κ] (kvs : List (κ × α)) (q : κ) (v : α) (k : List (κ × α) → S) : sx (X.put kvs q v) hx k = if kvs.length < sizeLine then k (putA kvs q v) else .bad := by unfold X.put; split <;> rfl
@[simp] theorem rx_upd [DecidableEq κ] (kvs more : List (κ × α)) (k : List (κ × α) → R β) : rx (X.upd kvs more) hx k = if kvs.length + more.length ≤ sizeLine then k (more.foldl (fun acc kv => putA acc kv.1 kv.2) kvs) else .bad := by unfold X.upd; split <;> rfl
@[simp] theorem sx_upd [DecidableEq κ] (kvs more : List (κ × α)) (k : List (κ × α) → S) : sx (X.upd kvs more) hx k = if kvs.length + more.length ≤ sizeLine then k (more.foldl (fun acc kv => putA acc kv.1 kv.2) kvs) else .bad := by unfold X.upd; split <;> rfl
@[simp] theorem rx_addS (x y : PySem.Str) (k : PySem.Str → R β) : rx (X.addS x y) hx k = if x.length + y.length ≤ sizeLine then k (x ++ y) else .bad := by unfold X.addS; split <;> rfl
@[simp] theorem sx_addS (x y : PySem.Str) (k : PySem.Str → S) : sx (X.addS x y) hx k = if x.length + y.length ≤ sizeLine then k (x ++ y) else .bad := by unfold X.addS; split <;> rfl
@[simp] theorem p_addS (h : Hc) (fr : Bool) (x y : PySem.Str) : prim2 (.add fr) (.str x) (.str y) h = if x.length + y.length ≤ sizeLine then .ok (.str (x ++ y)) h else .bad := rfl
@[simp] theorem rx_lenSet (xs : List Int) (k : Int → R β) : rx (X.lenSet xs) hx k = if xs.length ≤ 4000 then k (X.onceI [] xs).length else .bad := by unfold X.lenSet; split <;> rfl
@[simp] theorem sx_lenSet (xs : List Int) (k : Int → S) : sx (X.lenSet xs) hx k = if xs.length ≤ 4000 then k (X.onceI [] xs).length else .bad := by unfold X.lenSet; split <;> rfl
theorem onceD_I : ∀ (xs acc : List Int), onceD (acc.map D.int) (xs.map D.int) = (X.onceI acc xs).map D.int
  | [], _ => rfl
  | x :: xs, acc => by
    have hm : (D.int x ∈ acc.map D.int) ↔ x ∈ acc := by simp
    simp only [List.map_cons, onceD, X.onceI]
    by_cases h : x ∈ acc
    · rw [if_pos h, if_pos (hm.mpr h)]
      exact onceD_I xs acc
    · rw [if_neg h, if_neg fun q => h (hm.mp q)]
      have := onceD_I xs (acc ++ [x])
      rwa [List.map_append] at this
@[simp] theorem n_lenSetT (h : Hc) (xs : List Int) : primN .lenSet [eTup D.int xs] h = if xs.length ≤ 4000 then .ok (.int (X.onceI [] xs).length) h else .bad := by
  have := onceD_I xs []
  rw [List.map_nil] at this
  simp [primN, isInts_mp, this]
@[simp] theorem n_lenSetL (h : Hc) (xs : List Int) : primN .lenSet [eLst D.int xs] h = if xs.length ≤ 4000 then .ok (.int (X.onceI [] xs).length) h else .bad := by
  have := onceD_I xs []
  rw [List.map_nil] at this
  simp [primN, isInts_mp, this]
theorem mkK_step {κ α : Type} [DecidableEq κ] (ke : κ → D) [KK ke] (e : α → D) (k : κ) (v : α) (r : List D) (acc : List (κ × α)) : mkK (ke k :: e v :: r) (acc.map fun p => (KK.kk ke p.1, e p.2)) = mkK r ((putA acc k v).map fun p => (KK.kk ke p.1, e p.2)) := by
  rw [mkK, KK.key, Option.bind_some, putP_map (KK.kk ke) (KK.inj (ke := ke))]
theorem dicO_1 {κ α : Type} [DecidableEq κ] (ke : κ → D) [KK ke] (e : α → D) (a : κ) (x : α) (k : O → R D) : dicO (some (.dk [])) [ke a, e x] k = k (oMk ke e (putA [] a x)) := by
  have h1 := mkK_step ke e a x [] []
  rw [List.map_nil] at h1
  unfold dicO
  rw [h1]
  simp only [mkK, ro_some]
  rfl
theorem dicO_2 {κ α : Type} [DecidableEq κ] (ke : κ → D) [KK ke] (e : α → D) (a : κ) (x : α) (b : κ) (y : α) (k : O → R D) : dicO (some (.dk [])) [ke a, e x, ke b, e y] k = k (oMk ke e (putA (putA [] a x) b y)) := by
  have h1 := mkK_step ke e a x [ke b, e y] []
  have h2 := mkK_step ke e b y [] (putA [] a x)
  rw [List.map_nil] at h1
  unfold dicO
  rw [h1, h2]
  simp only [mkK, ro_some]
  rfl
/-! ### values of both ways -/
section
variable (p : Prop) [Decidable p] (h : Hc)
@[simp] theorem j_int (a b : Int) : (if p then R.ok (D.int a) h else R.ok (D.int b) h) = R.ok (.int (if p then a else b)) h := by split <;> rfl
@[simp] theorem j_bl (a b : Bool) : (if p then R.ok (D.bl a) h else R.ok (D.bl b) h) = R.ok (.bl (if p then a else b)) h := by split <;> rfl
@[simp] theorem j_str (a b : PySem.Str) : (if p then R.ok (D.str a) h else R.ok (D.str b) h) = R.ok (.str (if p then a else b)) h := by split <;> rfl
@[simp] theorem j_tup (e : α → D) (a b : List α) : (if p then R.ok (eTup e a) h else R.ok (eTup e b) h) = R.ok (eTup e (if p then a else b)) h := by split <;> rfl
@[simp] theorem j_lst (e : α → D) (a b : List α) : (if p then R.ok (eLst e a) h else R.ok (eLst e b) h) = R.ok (eLst e (if p then a else b)) h := by split <;> rfl
@[simp] theorem j_e2 (e : α → D) (f : β → D) (a b) : (if p then R.ok (e2 e f a) h else R.ok (e2 e f b) h) = R.ok (e2 e f (if p then a else b)) h := by split <;> rfl
@[simp] theorem j_e3 (e : α → D) (f : β → D) (g : γ → D) (a b) : (if p then R.ok (e3 e f g a) h else R.ok (e3 e f g b) h) = R.ok (e3 e f g (if p then a else b)) h := by split <;> rfl
@[simp] theorem j_e4 (e : α → D) (f : β → D) (g : γ → D) (i : δ → D) (a b) : (if p then R.ok (e4 e f g i a) h else R.ok (e4 e f g i b) h) = R.ok (e4 e f g i (if p then a else b)) h := by split <;> rfl
end
@[simp] theorem eN_def (u : Unit) : eN u = .non := rfl
@[simp] theorem eOpt_none (e : α → D) : eOpt e none = .non := rfl
@[simp] theorem eOpt_some (e : α → D) (a : α) : eOpt e (some a) = e a := rfl
theorem p_isN_opt (h : Hc) (o : Option Int) : prim1 .isN (eOpt D.int o) h = .ok (.bl o.isNone) h := by cases o <;> rfl
theorem p_isntN_opt (h : Hc) (o : Option Int) : prim1 .isntN (eOpt D.int o) h = .ok (.bl !o.isNone) h := by cases o <;> rfl
theorem p_isN_optT (h : Hc) (e : α → D) (o : Option (List α)) : prim1 .isN (eOpt (eTup e) o) h = .ok (.bl o.isNone) h := by cases o <;> simp [prim1, eTup]
theorem p_isntN_optT (h : Hc) (e : α → D) (o : Option (List α)) : prim1 .isntN (eOpt (eTup e) o) h = .ok (.bl !o.isNone) h := by cases o <;> simp [prim1, eTup]
@[simp] theorem take_hk (h L : Hc) (k : Nat) : (h ++ L).take (h.length + k) = h ++ L.take k := List.take_length_add_append _
@[simp] theorem take_hsk (h L : Hc) (p : Nat) (o : O) (k : Nat) : (h.set p o ++ L).take (h.length + k) = h.set p o ++ L.take k := by
  have := take_hk (h.set p o) L k
  rwa [List.length_set] at this
@[simp] theorem take_hs0 (h : Hc) (p : Nat) (o : O) : (h.set p o).take h.length = h.set p o := take_s0 h p o
/-- a slot of no reference -/
def flatW : Option D → Bool
  | none => true
  | some d => d.flat
@[simp] theorem flatW_none : flatW none = true := rfl
@[simp] theorem flatW_some (d : D) : flatW (some d) = d.flat := rfl
theorem envOld_w {w : Option D} (hw : flatW w = true) (m : Nat) (ρ : Env) : envOld m (w :: ρ) = envOld m ρ := by
  cases w with
  | none => rfl
  | some d => rw [envOld_some, D.flat_old m d hw, Bool.true_and]
/-! ### ends -/
@[simp] theorem compEnd_t (e : α → D) [Cod e] (h h2 : Hc) (xs : List α) (hk : kept h h2 = true) : compEnd true h h2 (xs.map e) = .ok (eLst e xs) (h2.take h.length) := by
  unfold compEnd
  rw [if_pos ⟨rfl, hk, olds_map _ e xs⟩]
  rfl
@[simp] theorem compEnd_f (e : α → D) (h h2 : Hc) (xs : List α) : compEnd false h h2 (xs.map e) = .ok (.ref h.length) (h2.set h.length (oLst e xs)) := by
  unfold compEnd
  rw [if_neg (by simp)]
  rfl
@[simp] theorem leave_pp (fz : Bool) (h h' : Hc) (d : D) (hk : kept h h' = true) (hd : d.flat = true) : leave fz h h' d = .ok d (h'.take h.length) := leave_at hk hd
def lvO (o : Option O) (h h' : Hc) (k : D → R D) : R D := match o with
  | some (.lst xs) => if D.flats xs = true then k (.lst xs) else .bad
  | some (.dk kvs) => if D.flats (kvs.map (·.2)) = true then k (.dk (kvs.map (·.1)) (kvs.map (·.2))) else .bad
  | some (.dt kvs) => if D.flats (kvs.map (·.2)) = true then k (.dt (kvs.map (·.1)) (kvs.map (·.2))) else .bad
  | _ => .bad
theorem leave_lst (h L : Hc) (n : Nat) (e : α → D) [Cod e] (xs : List α) (hn : h.length ≤ n) (hL : (h ++ L)[n]? = some (oLst e xs)) : leave true h (h ++ L) (.ref n) = .ok (eLst e xs) h := by
  have hf : frost (h ++ L) h.length 3 (.ref n) = eLst e xs := by
    have h2 : ∀ x : α, frost (h ++ L) h.length 2 (e x) = e x := fun x => frost_flat 2 (Cod.flat x)
    show (if n < h.length then D.ref n else thawF (frost (h ++ L) h.length 2) (h ++ L)[n]? n) = _
    rw [if_neg (by omega), hL]
    simp only [thawF, oLst, eLst, List.map_map]
    congr 1
    exact List.map_congr_left fun x _ => h2 x
  unfold leave
  rw [if_pos rfl, hf, if_pos ⟨kept_app h L, old_eLst _ e xs⟩, List.take_left]
@[simp] theorem leave_lst0 (h : Hc) (e : α → D) [Cod e] (xs : List α) (L : Hc) : leave true h (h ++ oLst e xs :: L) (.ref h.length) = .ok (eLst e xs) h := leave_lst h _ _ e xs (Nat.le_refl _) (by simp)
@[simp] theorem leave_lst1 (h : Hc) (o : O) (e : α → D) [Cod e] (xs : List α) (L : Hc) : leave true h (h ++ o :: oLst e xs :: L) (.ref (h.length + 1)) = .ok (eLst e xs) h := leave_lst h _ _ e xs (by omega) (by simp)
@[simp] theorem leave_new (h : Hc) (o : O) : leave false h (h ++ [o]) (.ref h.length) = .ok (.ref h.length) (h ++ [o]) := by
  unfold leave
  rw [if_neg Bool.false_ne_true, if_neg]
  rintro ⟨_, h2⟩
  simp at h2
@[simp] theorem exH_ssL (h L : Hc) (p : Nat) (s s' : Int × Int × Int) (hf : oflats L = true) : exH (h.set p (oPen s)) (h.set p (oPen s') ++ L) = h.set p (oPen s') := by
  rw [exH_ok (kept_ss1 h L p _ _ (oflat_oPen _) hf)]
  have : (h.set p (oPen s)).length = (h.set p (oPen s')).length := by simp
  rw [this, List.take_left]
@[simp] theorem take_ss (h : Hc) (p : Nat) (o o' : O) : (h.set p o').take (h.set p o).length = h.set p o' := by
  have : (h.set p o).length = (h.set p o').length := by simp
  rw [this, List.take_length]
end
/-- by cases -/
def oc {α : Type} {γ : Sort _} (o : Option α) (a : γ) (f : α → γ) : γ := match o with
  | none => a
  | some y => f y
section
variable {ε α β γ ζ : Type}
@[simp] theorem oc_none {δ : Sort _} (a : δ) (f : α → δ) : oc none a f = a := rfl
@[simp] theorem oc_some {δ : Sort _} (y : α) (a : δ) (f : α → δ) : oc (some y) a f = f y := rfl
@[simp] theorem rx_oc (o : Option ζ) (x : X ε α) (f : ζ → X ε α) (hx : ε → Hc) (k : α → R β) : rx (oc o x f) hx k = oc o (rx x hx k) fun y => rx (f y) hx k := by cases o <;> rfl
@[simp] theorem sx_oc (o : Option ζ) (x : X ε α) (f : ζ → X ε α) (hx : ε → Hc) (k : α → S) : sx (oc o x f) hx k = oc o (sx x hx k) fun y => sx (f y) hx k := by cases o <;> rfl
@[simp] theorem bind_oc (o : Option ζ) (x : R α) (f : ζ → R α) (g : α → Hc → R γ) : (oc o x f).bind g = oc o (x.bind g) fun y => (f y).bind g := by cases o <;> rfl
@[simp] theorem stM_oc (b0 : Hc) (o : Option ζ) (x : R α) (f : ζ → R α) (g : α → Hc → S) : (oc o x f).stM b0 g = oc o (x.stM b0 g) fun y => (f y).stM b0 g := by cases o <;> rfl
@[simp] theorem truthR_oc (o : Option ζ) (x : R D) (f : ζ → R D) : truthR (oc o x f) = oc o (truthR x) fun y => truthR (f y) := by cases o <;> rfl
@[simp] theorem then_oc (o : Option ζ) (x : S) (f : ζ → S) (g : Env → Hc → S) : (oc o x f).andThen g = oc o (x.andThen g) fun y => (f y).andThen g := by cases o <;> rfl
@[simp] theorem tidy_oc (own : List Nat) (h : Hc) (o : Option ζ) (x : S) (f : ζ → S) : tidyS own h (oc o x f) = oc o (tidyS own h x) fun y => tidyS own h (f y) := by cases o <;> rfl
@[simp] theorem fin_oc (fz : Bool) (h : Hc) (o : Option ζ) (x : S) (f : ζ → S) : fin fz h (oc o x f) = oc o (fin fz h x) fun y => fin fz h (f y) := by cases o <;> rfl
@[simp] theorem andR_oc (a : Bool) (o : Option ζ) (x : R D) (f : ζ → R D) (h : Hc) : andR a (oc o x f) (.bl a) h = if a = true then oc o x f else .ok (.bl false) h := by cases a <;> rfl
@[simp] theorem orR_oc (a : Bool) (o : Option ζ) (x : R D) (f : ζ → R D) (h : Hc) : orR a (.bl a) h (oc o x f) = if a = true then .ok (.bl true) h else oc o x f := by cases a <;> rfl
theorem eOpt_oc (e : α → D) (o : Option α) (h : Hc) : R.ok (eOpt e o) h = oc o (.ok .non h) fun y => .ok (e y) h := by cases o <;> rfl
theorem getD_oc (o : Option α) (e : α → D) (h : Hc) : R.ok ((o.map e).getD .non) h = oc o (.ok .non h) fun y => .ok (e y) h := by cases o <;> rfl
end
theorem eqv_nil (e : α → D) {d : Nat} [Pyd e d] (xs : List α) : PyData.eqvAll (xs.map (Pyd.dat e)) [] = decide (xs = []) := by cases xs <;> simp [PyData.eqvAll]
@[simp] theorem dEq_nilT (e : α → D) {d : Nat} [Cod e] [Pyd e d] (hd : d + 2 ≤ 64) (h : Hc) (xs : List α) : dEq h (eTup e xs) (.tup []) = some (decide (xs = [])) := by
  have h1 := Pyd.depth (e := eTup e) xs
  unfold dEq
  rw [thaw_flat 3 (Cod.flat xs), thaw_flat 3 (show (D.tup []).flat = true by simp), Pyd.py]
  have e0 : (D.tup []).py = some (.tuple []) := rfl
  have e1 : shp (.tuple []) = true := by simp [shp, PyData.plain, PyData.plainAll, PyData.depth, PyData.depthAll]
  rw [e0]
  simp only [shp, Pyd.plain, decide_eq_true (Nat.le_trans h1 hd), Bool.and_self, if_true]
  have e2 : (PyData.tuple []).plain = true := by simp [PyData.plain, PyData.plainAll]
  have e3 : (PyData.tuple []).depth ≤ 64 := by simp [PyData.depth, PyData.depthAll]
  rw [e2, decide_eq_true e3]
  show some (PyData.eqv (.tuple (xs.map (Pyd.dat e))) (.tuple [])) = _
  simp only [PyData.eqv, eqv_nil]
@[simp] theorem dEq_nilL (e : α → D) {d : Nat} [Cod e] [Pyd e d] (hd : d + 2 ≤ 64) (h : Hc) (xs : List α) : dEq h (eLst e xs) (.lst []) = some (decide (xs = [])) := by
  have h1 := Pyd.depth (e := eLst e) xs
  unfold dEq
  rw [thaw_flat 3 (Cod.flat xs), thaw_flat 3 (show (D.lst []).flat = true by simp), Pyd.py]
  have e0 : (D.lst []).py = some (.list []) := rfl
  rw [e0]
  simp only [shp, Pyd.plain, decide_eq_true (Nat.le_trans h1 hd), Bool.and_self, if_true]
  have e2 : (PyData.list []).plain = true := by simp [PyData.plain, PyData.plainAll]
  have e3 : (PyData.list []).depth ≤ 64 := by simp [PyData.depth, PyData.depthAll]
  rw [e2, decide_eq_true e3]
  show some (PyData.eqv (.list (xs.map (Pyd.dat e))) (.list [])) = _
  simp only [PyData.eqv, eqv_nil]
@[simp] theorem andR_true (x : R D) (d : D) (h : Hc) : andR true x d h = x := rfl
@[simp] theorem andR_false (x : R D) (d : D) (h : Hc) : andR false x d h = .ok d h := rfl
@[simp] theorem orR_true (x : R D) (d : D) (h : Hc) : orR true d h x = .ok d h := rfl
@[simp] theorem orR_false (x : R D) (d : D) (h : Hc) : orR false d h x = x := rfl
@[simp] theorem p_isN_non (h : Hc) : prim1 .isN .non h = .ok (.bl true) h := rfl
@[simp] theorem p_isntN_non (h : Hc) : prim1 .isntN .non h = .ok (.bl false) h := rfl
theorem isN_ne {d : D} (hd : d ≠ .non) (h : Hc) : prim1 .isN d h = .ok (.bl false) h := by simp [prim1, hd]
theorem isntN_ne {d : D} (hd : d ≠ .non) (h : Hc) : prim1 .isntN d h = .ok (.bl true) h := by simp [prim1, hd]
section
variable {α β γ δ : Type}
@[simp] theorem p_isN_int (h : Hc) (i : Int) : prim1 .isN (.int i) h = .ok (.bl false) h := isN_ne (by simp) h
@[simp] theorem p_isntN_int (h : Hc) (i : Int) : prim1 .isntN (.int i) h = .ok (.bl true) h := isntN_ne (by simp) h
@[simp] theorem p_isN_tup (h : Hc) (e : α → D) (x) : prim1 .isN (eTup e x) h = .ok (.bl false) h := isN_ne (by simp [eTup]) h
@[simp] theorem p_isntN_tup (h : Hc) (e : α → D) (x) : prim1 .isntN (eTup e x) h = .ok (.bl true) h := isntN_ne (by simp [eTup]) h
@[simp] theorem p_isN_e2 (h : Hc) (a : α → D) (b : β → D) (x) : prim1 .isN (e2 a b x) h = .ok (.bl false) h := isN_ne (by simp [e2]) h
@[simp] theorem p_isntN_e2 (h : Hc) (a : α → D) (b : β → D) (x) : prim1 .isntN (e2 a b x) h = .ok (.bl true) h := isntN_ne (by simp [e2]) h
@[simp] theorem p_isN_e3 (h : Hc) (a : α → D) (b : β → D) (c : γ → D) (x) : prim1 .isN (e3 a b c x) h = .ok (.bl false) h := isN_ne (by simp [e3]) h
@[simp] theorem p_isntN_e3 (h : Hc) (a : α → D) (b : β → D) (c : γ → D) (x) : prim1 .isntN (e3 a b c x) h = .ok (.bl true) h := isntN_ne (by simp [e3]) h
@[simp] theorem p_isB (h : Hc) (b c : Bool) : prim1 (.isB b) (.bl c) h = .ok (.bl (c == b)) h := by cases b <;> cases c <;> rfl
@[simp] theorem p_isntB (h : Hc) (b c : Bool) : prim1 (.isntB b) (.bl c) h = .ok (.bl !(c == b)) h := by cases b <;> cases c <;> rfl
/-- a list at a place and one more -/
def adR (fr : Bool) (o : Option O) (b : D) (H : Hc) : R D := match o, b with
  | some (.lst xs), .lst ys => if xs.length + ys.length ≤ sizeLine then newL fr (xs ++ ys) H else .bad
  | _, _ => .bad
theorem add_refL (n : Nat) (fr : Bool) (H : Hc) (e : α → D) (ys : List α) : prim2 (.add fr) (.ref n) (eLst e ys) H = adR fr H[n]? (eLst e ys) H := by
  unfold adR
  simp only [prim2, look_ref]
  cases hn : H[n]? with
  | none => simp [thawO, look, eLst]
  | some o => cases o <;> simp [thawO, look, eLst]
@[simp] theorem adR_t (e : α → D) (xs ys : List α) (H : Hc) : adR true (some (oLst e xs)) (eLst e ys) H = if xs.length + ys.length ≤ sizeLine then .ok (eLst e (xs ++ ys)) H else .bad := by simp [adR, oLst, eLst, newL]
@[simp] theorem adR_f (e : α → D) (xs ys : List α) (H : Hc) : adR false (some (oLst e xs)) (eLst e ys) H = if xs.length + ys.length ≤ sizeLine then .ok (.ref H.length) (H ++ [oLst e (xs ++ ys)]) else .bad := by simp [adR, oLst, eLst, newL]
@[simp] theorem newL_t (e : α → D) (xs : List α) (H : Hc) : newL true (xs.map e) H = .ok (eLst e xs) H := rfl
@[simp] theorem newL_f (e : α → D) (xs : List α) (H : Hc) : newL false (xs.map e) H = .ok (.ref H.length) (H ++ [oLst e xs]) := rfl
@[simp] theorem p_addLf (h : Hc) (e : α → D) (xs ys : List α) : prim2 (.add false) (eLst e xs) (eLst e ys) h = if xs.length + ys.length ≤ sizeLine then .ok (.ref h.length) (h ++ [oLst e (xs ++ ys)]) else .bad := by simp [prim2, eLst, newL, oLst]
end
/-- no exception is served -/
def noxR {β : Type} (r : R β) : R β := match r with
  | .ok a h => .ok a h
  | .ex _ _ => .bad
  | .bad => .bad
def rn {ε α β : Type} (x : X ε α) (k : α → R β) : R β := match x with
  | .ok a => k a
  | .ex _ _ => .bad
  | .bad => .bad
section
variable {ε α β σ ζ : Type}
@[simp] theorem noxR_ok (a : α) (h : Hc) : noxR (.ok a h) = .ok a h := rfl
@[simp] theorem noxR_bad : noxR (.bad : R α) = .bad := rfl
@[simp] theorem noxR_rx (x : X ε α) (hx : ε → Hc) (k : α → R β) : noxR (rx x hx k) = rn x fun a => noxR (k a) := by cases x <;> rfl
@[simp] theorem noxR_rn (x : X ε α) (k : α → R β) : noxR (rn x k) = rn x fun a => noxR (k a) := by cases x <;> rfl
@[simp] theorem noxR_ro (o : Option α) (k : α → R β) : noxR (ro o k) = ro o fun a => noxR (k a) := by cases o <;> rfl
@[simp] theorem noxR_ite (c : Prop) [Decidable c] (x y : R β) : noxR (if c then x else y) = if c then noxR x else noxR y := by split <;> rfl
@[simp] theorem noxR_oc (o : Option ζ) (x : R β) (f : ζ → R β) : noxR (oc o x f) = oc o (noxR x) fun y => noxR (f y) := by cases o <;> rfl
@[simp] theorem noxR_cas (r : Le ζ σ) (f : σ → R β) (q : ζ → σ → R β) : noxR (r.cas f q) = r.cas (fun s => noxR (f s)) (fun b s => noxR (q b s)) := by cases r <;> rfl
@[simp] theorem rx_nox (x : X ε α) (hx : ζ → Hc) (k : α → R β) : rx (x.nox : X ζ α) hx k = rn x k := by cases x <;> rfl
@[simp] theorem bind_rn {γ : Type} (x : X ε α) (k : α → R β) (g : β → Hc → R γ) : (rn x k).bind g = rn x fun a => (k a).bind g := by cases x <;> rfl
def sn (x : X ε α) (k : α → S) : S := match x with
  | .ok a => k a
  | .ex _ _ => .bad
  | .bad => .bad
@[simp] theorem sx_nox (x : X ε α) (hx : ζ → Hc) (k : α → S) : sx (x.nox : X ζ α) hx k = sn x k := by cases x <;> rfl
@[simp] theorem stM_rn (b0 : Hc) (x : X ε α) (k : α → R β) (g : β → Hc → S) : (rn x k).stM b0 g = sn x fun a => (k a).stM b0 g := by cases x <;> rfl
@[simp] theorem then_sn (x : X ε α) (k : α → S) (g : Env → Hc → S) : (sn x k).andThen g = sn x fun a => (k a).andThen g := by cases x <;> rfl
@[simp] theorem tidy_sn (own : List Nat) (h : Hc) (x : X ε α) (k : α → S) : tidyS own h (sn x k) = sn x fun a => tidyS own h (k a) := by cases x <;> rfl
@[simp] theorem fin_sn (fz : Bool) (h : Hc) (x : X ε α) (k : α → S) : fin fz h (sn x k) = rn x fun a => fin fz h (k a) := by cases x <;> rfl
@[simp] theorem truthR_rn (x : X ε α) (k : α → R D) : truthR (rn x k) = rn x fun a => truthR (k a) := by cases x <;> rfl
@[simp] theorem andR_rn (a : Bool) (x : X ε α) (k : α → R D) (h : Hc) : andR a (rn x k) (.bl a) h = if a = true then rn x k else .ok (.bl false) h := by cases a <;> rfl
@[simp] theorem orR_rn (a : Bool) (x : X ε α) (k : α → R D) (h : Hc) : orR a (.bl a) h (rn x k) = if a = true then .ok (.bl true) h else rn x k := by cases a <;> rfl
/-- a comprehension with a state -/
theorem comp_stN {tg : CT} {g : List (Nat × O)} {n : Nat} {ρ : Env} {c : Env → Hc → R Bool} {e : Env → Hc → R D} {ie : α → D} {oe : β → D} (hp : σ → List D → Hc) (body : α → σ → X ε (Option β × σ)) (hget : ∀ s acc, (hp s acc)[n]? = some (.hl acc)) (hset : ∀ s acc acc', (hp s acc).set n (.hl acc') = hp s acc') (hg : ∀ s acc, stays (hp s acc) g = true)
    (hb : ∀ a s acc, noxR (cmB (bindT tg (ie a) ρ) (fun ρ' => (c ρ' (hp s acc)).bind fun t h => if t = true then (e ρ' h).bind fun x h => .ok (some x) h else .ok none h)) = rn (body a s) fun r => .ok (r.1.map oe) (hp r.2 acc)) : ∀ (as : List α) (acc : List β) (s : σ),
    compL tg g n ρ c e (mapD ie as) (hp s (acc.map oe)) = rn (compX body as acc s) fun r => .ok (r.1.map oe) (hp r.2 (r.1.map oe))
  | [], acc, s => by
    simp [compL, compX, hg, hget, mapD, rn]
  | a :: as, acc, s => by
    have h2 := hb a s (acc.map oe)
    rw [mapD, List.map_cons, compL, compX]
    cases hbt : bindT tg (ie a) ρ with
    | none =>
      rw [hbt] at h2
      simp only [hg, if_true]
      cases hbd : body a s <;> rw [hbd] at h2 <;> simp [cmB, rn] at h2 <;> rfl
    | some ρ' =>
    rw [hbt] at h2
    simp only [cmB] at h2
    simp only [hg, if_true]
    cases hc : c ρ' (hp s (acc.map oe)) with
    | bad =>
      rw [hc] at h2
      cases hbd : body a s <;> rw [hbd] at h2 <;> simp [rn] at h2 <;> rfl
    | ex k hh =>
      rw [hc] at h2
      cases hbd : body a s <;> rw [hbd] at h2 <;> simp [rn, noxR] at h2 <;> rfl
    | ok t hh =>
      rw [hc] at h2
      cases t with
      | false =>
        simp only [R.bind_ok, Bool.false_eq_true, if_false, noxR_ok] at h2
        cases hbd : body a s with
        | bad => rw [hbd] at h2; simp [rn] at h2
        | ex k hh => rw [hbd] at h2; simp [rn] at h2
        | ok r =>
          rw [hbd] at h2
          simp only [rn, R.ok.injEq] at h2
          obtain ⟨o, s1⟩ := r
          have ho : o = none := by
            cases o with
            | none => rfl
            | some b => simp at h2
          subst ho
          simp only [X.bind_ok, h2.2]
          exact comp_stN hp body hget hset hg hb as acc s1
      | true =>
        simp only [R.bind_ok, if_true] at h2
        cases he : e ρ' hh with
        | bad =>
          rw [he] at h2
          cases hbd : body a s <;> rw [hbd] at h2 <;> simp [rn] at h2 <;> simp only [he] <;> rfl
        | ex k hh =>
          rw [he] at h2
          cases hbd : body a s <;> rw [hbd] at h2 <;> simp [rn, noxR] at h2 <;> simp only [he] <;> rfl
        | ok x hh2 =>
          rw [he] at h2
          cases hbd : body a s with
          | bad => rw [hbd] at h2; simp [rn] at h2
          | ex k hh => rw [hbd] at h2; simp [rn] at h2
          | ok r =>
            rw [hbd] at h2
            simp only [rn, R.bind_ok, noxR_ok, R.ok.injEq] at h2
            obtain ⟨o, s1⟩ := r
            cases o with
            | none => simp at h2
            | some b =>
              obtain ⟨h3, h4⟩ := h2
              simp only [Option.map_some, Option.some.injEq] at h3
              subst h3 h4
              have hs : (hp s1 (acc.map oe)).set n (.hl (acc.map oe ++ [oe b])) = hp s1 ((acc ++ [b]).map oe) := by rw [hset]; simp
              simp only [he, hget, X.bind_ok, List.length_map, hs]
              by_cases hz : acc.length < sizeLine
              · simp only [if_pos hz]
                exact comp_stN hp body hget hset hg hb as (acc ++ [b]) s1
              · simp only [if_neg hz]
                rfl
theorem comp_st {tg : CT} {g : List (Nat × O)} {n : Nat} {ρ : Env} {c : Env → Hc → R Bool} {e : Env → Hc → R D} {ie : α → D} {oe : β → D} (hp : σ → List D → Hc) (body : α → σ → X ε (Option β × σ)) (hget : ∀ s acc, (hp s acc)[n]? = some (.hl acc)) (hset : ∀ s acc acc', (hp s acc).set n (.hl acc') = hp s acc') (hg : ∀ s acc, stays (hp s acc) g = true)
    (hb : ∀ a s acc, noxR (cmB (bindT tg (ie a) ρ) (fun ρ' => (c ρ' (hp s acc)).bind fun t h => if t = true then (e ρ' h).bind fun x h => .ok (some x) h else .ok none h)) = noxR (rx (body a s) (fun _ => []) fun r => .ok (r.1.map oe) (hp r.2 acc))) (as : List α) (s : σ) :
    compL tg g n ρ c e (mapD ie as) (hp s []) = rn (compX body as [] s) fun r => .ok (r.1.map oe) (hp r.2 (r.1.map oe)) := by
  have := comp_stN hp body hget hset hg (fun a s acc => by rw [hb, noxR_rx]; rfl) as [] s
  rwa [List.map_nil] at this
theorem comp_pu {tg : CT} {g : List (Nat × O)} {n : Nat} {ρ : Env} {c : Env → Hc → R Bool} {e : Env → Hc → R D} {ie : α → D} {oe : β → D} (hp : List D → Hc) (body : α → X ε (Option β)) (hget : ∀ acc, (hp acc)[n]? = some (.hl acc)) (hset : ∀ acc acc', (hp acc).set n (.hl acc') = hp acc') (hg : ∀ acc, stays (hp acc) g = true)
    (hb : ∀ a acc, noxR (cmB (bindT tg (ie a) ρ) (fun ρ' => (c ρ' (hp acc)).bind fun t h => if t = true then (e ρ' h).bind fun x h => .ok (some x) h else .ok none h)) = noxR (rx (body a) (fun _ => []) fun r => .ok (r.map oe) (hp acc))) (as : List α) :
    compL tg g n ρ c e (mapD ie as) (hp []) = rn (compP body as []) fun r => .ok (r.map oe) (hp (r.map oe)) := by
  have := comp_stN (σ := Unit) (fun _ => hp) (fun a (u : Unit) => (body a).bind fun r => .ok (r, u)) (fun _ => hget) (fun _ => hset) (fun _ => hg) (fun a s acc => by
    rw [hb a acc, noxR_rx]
    cases body a <;> rfl) as [] ()
  rw [compX_P, List.map_nil] at this
  rw [this]
  cases compP body as [] <;> rfl
end
end Q

/-! XF: dicts as values, walks over dicts, while. -/
namespace Q
open PySem
section
variable {α β κ : Type}
/-- dicts as values -/
def eDk (ke : κ → D) [KK ke] (e : α → D) (kvs : List (κ × α)) : D := .dk (kvs.map fun p => KK.kk ke p.1) (kvs.map fun p => e p.2)
def eDt (ke : κ → D) [KT ke] (e : α → D) (kvs : List (κ × α)) : D := .dt (kvs.map fun p => KT.kt ke p.1) (kvs.map fun p => e p.2)
theorem flats_map2 (e : α → D) [Cod e] (kvs : List (κ × α)) : D.flats (kvs.map fun p => e p.2) = true := by
  have : (kvs.map fun p => e p.2) = (kvs.map (·.2)).map e := by simp
  rw [this, flats_map]
instance (ke : κ → D) [KK ke] (e : α → D) [Cod e] : Cod (eDk ke e) := ⟨fun x => flats_map2 e x⟩
instance (ke : κ → D) [KT ke] (e : α → D) [Cod e] : Cod (eDt ke e) := ⟨fun x => flats_map2 e x⟩
@[simp] theorem flat_eDk (ke : κ → D) [KK ke] (e : α → D) [Cod e] (x) : (eDk ke e x).flat = true := Cod.flat _
@[simp] theorem flat_eDt (ke : κ → D) [KT ke] (e : α → D) [Cod e] (x) : (eDt ke e x).flat = true := Cod.flat _
@[simp] theorem old_eDk (m : Nat) (ke : κ → D) [KK ke] (e : α → D) [Cod e] (x) : D.old m (eDk ke e x) = true := D.flat_old m _ (Cod.flat _)
@[simp] theorem old_eDt (m : Nat) (ke : κ → D) [KT ke] (e : α → D) [Cod e] (x) : D.old m (eDt ke e x) = true := D.flat_old m _ (Cod.flat _)
@[simp] theorem rtN_eDk (ke : κ → D) [KK ke] (e : α → D) [Cod e] (b0 : Hc) (x) (h : Hc) : rtN b0 (eDk ke e x) h = .rt (eDk ke e x) (exH b0 h) := rtN_flat (Cod.flat _)
@[simp] theorem rtN_eDt (ke : κ → D) [KT ke] (e : α → D) [Cod e] (b0 : Hc) (x) (h : Hc) : rtN b0 (eDt ke e x) h = .rt (eDt ke e x) (exH b0 h) := rtN_flat (Cod.flat _)
/-- dicts that were walked -/
def oWk (ke : κ → D) [KK ke] (e : α → D) (kvs : List (κ × α)) : O := .wk (kvs.map fun p => (KK.kk ke p.1, e p.2))
def oWt (ke : κ → D) [KT ke] (e : α → D) (kvs : List (κ × α)) : O := .wt (kvs.map fun p => (KT.kt ke p.1, e p.2))
@[simp] theorem oflat_oWk (ke : κ → D) [KK ke] (e : α → D) [Cod e] (kvs) : (oWk ke e kvs).flat = true := by
  have : (kvs.map fun p : κ × α => (KK.kk ke p.1, e p.2)).map (·.2) = (kvs.map (·.2)).map e := by simp
  unfold oWk O.flat
  simp only [this, flats_map]
@[simp] theorem oflat_oWt (ke : κ → D) [KT ke] (e : α → D) [Cod e] (kvs) : (oWt ke e kvs).flat = true := by
  have : (kvs.map fun p : κ × α => (KT.kt ke p.1, e p.2)).map (·.2) = (kvs.map (·.2)).map e := by simp
  unfold oWt O.flat
  simp only [this, flats_map]
@[simp] theorem isDO_wk (ke : κ → D) [KK ke] (e : α → D) (kvs) : isDO (some (oWk ke e kvs)) = true := rfl
@[simp] theorem isDO_wt (ke : κ → D) [KT ke] (e : α → D) (kvs) : isDO (some (oWt ke e kvs)) = true := rfl
@[simp] theorem gtO_wk [DecidableEq κ] (ke : κ → D) [KK ke] (e : α → D) (kvs : List (κ × α)) (q : κ) (k : Option D → R D) : gtO (some (oWk ke e kvs)) (ke q) k = k ((getA kvs q).map e) := by
  simp only [gtO, oWk, KK.key, ro_some, getP_map (KK.kk ke) (KK.inj (ke := ke))]
@[simp] theorem gtO_wt [DecidableEq κ] (ke : κ → D) [KT ke] (e : α → D) (kvs : List (κ × α)) (q : κ) (k : Option D → R D) : gtO (some (oWt ke e kvs)) (ke q) k = k ((getA kvs q).map e) := by
  simp only [gtO, oWt, KT.key, ro_some, getP_map (KT.kt ke) (KT.inj (ke := ke))]
theorem zip_kv {χ : Type} (f : κ → χ) (e : α → D) (kvs : List (κ × α)) : (kvs.map fun p => f p.1).zip (kvs.map fun p => e p.2) = kvs.map fun p => (f p.1, e p.2) := by
  induction kvs with
  | nil => rfl
  | cons p kvs ih => simp [ih]
theorem dGet_dk [DecidableEq κ] (h : Hc) (ke : κ → D) [KK ke] (e : α → D) (kvs : List (κ × α)) (k : κ) : dGet h (eDk ke e kvs) (ke k) = some ((getA kvs k).map e) := by
  unfold dGet eDk
  simp only [KK.key, Option.map_some, zip_kv, getP_map (KK.kk ke) (KK.inj (ke := ke))]
theorem dGet_dt [DecidableEq κ] (h : Hc) (ke : κ → D) [KT ke] (e : α → D) (kvs : List (κ × α)) (k : κ) : dGet h (eDt ke e kvs) (ke k) = some ((getA kvs k).map e) := by
  unfold dGet eDt
  simp only [KT.key, Option.map_some, zip_kv, getP_map (KT.kt ke) (KT.inj (ke := ke))]
@[simp] theorem p_idxDk [DecidableEq κ] (h : Hc) (ke : κ → D) [KK ke] (e : α → D) (kvs : List (κ × α)) (k : κ) : prim2 .idx (eDk ke e kvs) (ke k) h = ro (getA kvs k) fun v => .ok (e v) h := by
  have h1 : prim2 .idx (eDk ke e kvs) (ke k) h = opt (dGet h (eDk ke e kvs) (ke k)) fun r => opt r fun v => .ok v h := by
    unfold prim2
    cases hk : ke k <;> rfl
  rw [h1, dGet_dk]
  cases getA kvs k <;> rfl
@[simp] theorem p_idxDt [DecidableEq κ] (h : Hc) (ke : κ → D) [KT ke] (e : α → D) (kvs : List (κ × α)) (k : κ) : prim2 .idx (eDt ke e kvs) (ke k) h = ro (getA kvs k) fun v => .ok (e v) h := by
  have h1 : prim2 .idx (eDt ke e kvs) (ke k) h = opt (dGet h (eDt ke e kvs) (ke k)) fun r => opt r fun v => .ok v h := by
    unfold prim2
    cases hk : ke k <;> rfl
  rw [h1, dGet_dt]
  cases getA kvs k <;> rfl
@[simp] theorem rcv_get1Dk (ke : κ → D) [KK ke] (e : α → D) (kvs : List (κ × α)) (H : Hc) (f : R D) : rcv .get1 (eDk ke e kvs) H f = f := rfl
@[simp] theorem rcv_get2Dk (ke : κ → D) [KK ke] (e : α → D) (kvs : List (κ × α)) (H : Hc) (f : R D) : rcv .get2 (eDk ke e kvs) H f = f := rfl
@[simp] theorem rcv_get1Dt (ke : κ → D) [KT ke] (e : α → D) (kvs : List (κ × α)) (H : Hc) (f : R D) : rcv .get1 (eDt ke e kvs) H f = f := rfl
@[simp] theorem rcv_get2Dt (ke : κ → D) [KT ke] (e : α → D) (kvs : List (κ × α)) (H : Hc) (f : R D) : rcv .get2 (eDt ke e kvs) H f = f := rfl
@[simp] theorem m_get2Dk [DecidableEq κ] (h : Hc) (ke : κ → D) [KK ke] (e : α → D) (kvs : List (κ × α)) (k : κ) (v : α) : primM .get2 (eDk ke e kvs) [ke k, e v] h = .ok (e ((getA kvs k).getD v)) h := by
  simp only [primM, dGet_dk, opt_some, getD_map_e]
@[simp] theorem m_get2Dt [DecidableEq κ] (h : Hc) (ke : κ → D) [KT ke] (e : α → D) (kvs : List (κ × α)) (k : κ) (v : α) : primM .get2 (eDt ke e kvs) [ke k, e v] h = .ok (e ((getA kvs k).getD v)) h := by
  simp only [primM, dGet_dt, opt_some, getD_map_e]
@[simp] theorem m_get1Dk [DecidableEq κ] (h : Hc) (ke : κ → D) [KK ke] (e : α → D) (kvs : List (κ × α)) (k : κ) : primM .get1 (eDk ke e kvs) [ke k] h = oc (getA kvs k) (.ok .non h) fun y => .ok (e y) h := by
  simp only [primM, dGet_dk, opt_some, getD_oc]
@[simp] theorem p_inDk [DecidableEq κ] (h : Hc) (ke : κ → D) [KK ke] (e : α → D) (kvs : List (κ × α)) (k : κ) : prim2 .isin (ke k) (eDk ke e kvs) h = .ok (.bl (getA kvs k).isSome) h := by
  have h1 : prim2 .isin (ke k) (eDk ke e kvs) h = opt (dGet h (eDk ke e kvs) (ke k)) fun r => .ok (.bl r.isSome) h := by
    unfold prim2
    rfl
  rw [h1, dGet_dk]
  simp
@[simp] theorem p_notinDk [DecidableEq κ] (h : Hc) (ke : κ → D) [KK ke] (e : α → D) (kvs : List (κ × α)) (k : κ) : prim2 .notin (ke k) (eDk ke e kvs) h = .ok (.bl !(getA kvs k).isSome) h := by
  have h1 : prim2 .notin (ke k) (eDk ke e kvs) h = opt (dGet h (eDk ke e kvs) (ke k)) fun r => .ok (.bl !r.isSome) h := by
    unfold prim2
    rfl
  rw [h1, dGet_dk]
  simp
@[simp] theorem p_inDt [DecidableEq κ] (h : Hc) (ke : κ → D) [KT ke] (e : α → D) (kvs : List (κ × α)) (k : κ) : prim2 .isin (ke k) (eDt ke e kvs) h = .ok (.bl (getA kvs k).isSome) h := by
  have h1 : prim2 .isin (ke k) (eDt ke e kvs) h = opt (dGet h (eDt ke e kvs) (ke k)) fun r => .ok (.bl r.isSome) h := by
    unfold prim2
    rfl
  rw [h1, dGet_dt]
  simp
@[simp] theorem p_notinDt [DecidableEq κ] (h : Hc) (ke : κ → D) [KT ke] (e : α → D) (kvs : List (κ × α)) (k : κ) : prim2 .notin (ke k) (eDt ke e kvs) h = .ok (.bl !(getA kvs k).isSome) h := by
  have h1 : prim2 .notin (ke k) (eDt ke e kvs) h = opt (dGet h (eDt ke e kvs) (ke k)) fun r => .ok (.bl !r.isSome) h := by
    unfold prim2
    rfl
  rw [h1, dGet_dt]
  simp
@[simp] theorem n_lenDk (h : Hc) (ke : κ → D) [KK ke] (e : α → D) (kvs : List (κ × α)) : primN .len [eDk ke e kvs] h = .ok (.int kvs.length) h := by simp [primN, lookT, look, eDk]
@[simp] theorem n_lenDt (h : Hc) (ke : κ → D) [KT ke] (e : α → D) (kvs : List (κ × α)) : primN .len [eDt ke e kvs] h = .ok (.int kvs.length) h := by simp [primN, lookT, look, eDt]
/-! ### walks -/
theorem rowsK_map (ke : κ → D) [KK ke] (e : α → D) (kvs : List (κ × α)) : (kvs.map fun p => (KK.kk ke p.1, e p.2)).map (fun p : Key × D => (dK p.1, p.2)) = kvs.map fun p => (ke p.1, e p.2) := by
  rw [List.map_map]
  refine List.map_congr_left fun p _ => ?_
  simp [KK.back]
theorem rowsT_map (ke : κ → D) [KT ke] (e : α → D) (kvs : List (κ × α)) : (kvs.map fun p => (KT.kt ke p.1, e p.2)).map (fun p : List Key × D => (dT p.1, p.2)) = kvs.map fun p => (ke p.1, e p.2) := by
  rw [List.map_map]
  refine List.map_congr_left fun p _ => ?_
  simp [KT.back]
theorem dRows_dk (h : Hc) (ke : κ → D) [KK ke] (e : α → D) (kvs : List (κ × α)) : dRows h (eDk ke e kvs) = some (kvs.map fun p => (ke p.1, e p.2), []) := by
  unfold dRows eDk
  have := zip_kv (fun k => dK (KK.kk ke k)) e kvs
  simp only [KK.back] at this
  have e1 : (kvs.map fun p => KK.kk ke p.1).map dK = kvs.map fun p => ke p.1 := by
    rw [List.map_map]
    exact List.map_congr_left fun p _ => KK.back p.1
  simp only [e1, this]
theorem dRows_dt (h : Hc) (ke : κ → D) [KT ke] (e : α → D) (kvs : List (κ × α)) : dRows h (eDt ke e kvs) = some (kvs.map fun p => (ke p.1, e p.2), []) := by
  unfold dRows eDt
  have := zip_kv (fun k => dT (KT.kt ke k)) e kvs
  simp only [KT.back] at this
  have e1 : (kvs.map fun p => KT.kt ke p.1).map dT = kvs.map fun p => ke p.1 := by
    rw [List.map_map]
    exact List.map_congr_left fun p _ => KT.back p.1
  simp only [e1, this]
theorem items_map (ke : κ → D) (e : α → D) (kvs : List (κ × α)) : (kvs.map fun p => (ke p.1, e p.2)).map (fun p : D × D => D.tup [p.1, p.2]) = mapD (e2 ke e) kvs := by
  rw [List.map_map]; rfl
theorem values_map (ke : κ → D) (e : α → D) (kvs : List (κ × α)) : (kvs.map fun p => (ke p.1, e p.2)).map (fun p : D × D => p.2) = mapD e (kvs.map (·.2)) := by
  rw [List.map_map, mapD, List.map_map]; rfl
theorem keys_map (ke : κ → D) (e : α → D) (kvs : List (κ × α)) : (kvs.map fun p => (ke p.1, e p.2)).map (fun p : D × D => p.1) = mapD ke (kvs.map (·.1)) := by
  rw [List.map_map, mapD, List.map_map]; rfl
@[simp] theorem w_itemsDk (h : Hc) (ke : κ → D) [KK ke] (e : α → D) (kvs : List (κ × α)) : walkOf .items [eDk ke e kvs] h = some ⟨mapD (e2 ke e) kvs, []⟩ := by
  show walkD h _ _ = _
  unfold walkD
  rw [dRows_dk, Option.map_some, items_map]
@[simp] theorem w_itemsDt (h : Hc) (ke : κ → D) [KT ke] (e : α → D) (kvs : List (κ × α)) : walkOf .items [eDt ke e kvs] h = some ⟨mapD (e2 ke e) kvs, []⟩ := by
  show walkD h _ _ = _
  unfold walkD
  rw [dRows_dt, Option.map_some, items_map]
@[simp] theorem w_valuesDk (h : Hc) (ke : κ → D) [KK ke] (e : α → D) (kvs : List (κ × α)) : walkOf .values [eDk ke e kvs] h = some ⟨mapD e (kvs.map (·.2)), []⟩ := by
  show walkD h _ _ = _
  unfold walkD
  rw [dRows_dk, Option.map_some, values_map]
@[simp] theorem w_valuesDt (h : Hc) (ke : κ → D) [KT ke] (e : α → D) (kvs : List (κ × α)) : walkOf .values [eDt ke e kvs] h = some ⟨mapD e (kvs.map (·.2)), []⟩ := by
  show walkD h _ _ = _
  unfold walkD
  rw [dRows_dt, Option.map_some, values_map]
@[simp] theorem w_keysDk (h : Hc) (ke : κ → D) [KK ke] (e : α → D) (kvs : List (κ × α)) : walkOf .keys [eDk ke e kvs] h = some ⟨mapD ke (kvs.map (·.1)), []⟩ := by
  show walkD h _ _ = _
  unfold walkD
  rw [dRows_dk, Option.map_some, keys_map]
@[simp] theorem w_keysDt (h : Hc) (ke : κ → D) [KT ke] (e : α → D) (kvs : List (κ × α)) : walkOf .keys [eDt ke e kvs] h = some ⟨mapD ke (kvs.map (·.1)), []⟩ := by
  show walkD h _ _ = _
  unfold walkD
  rw [dRows_dt, Option.map_some, keys_map]
section
variable (h : Hc)
@[simp] theorem lockH_iDk (ke : κ → D) [KK ke] (e : α → D) (kvs) : lockH .items [eDk ke e kvs] h = h := rfl
@[simp] theorem lockH_vDk (ke : κ → D) [KK ke] (e : α → D) (kvs) : lockH .values [eDk ke e kvs] h = h := rfl
@[simp] theorem lockH_kDk (ke : κ → D) [KK ke] (e : α → D) (kvs) : lockH .keys [eDk ke e kvs] h = h := rfl
@[simp] theorem lockH_iDt (ke : κ → D) [KT ke] (e : α → D) (kvs) : lockH .items [eDt ke e kvs] h = h := rfl
@[simp] theorem lockH_vDt (ke : κ → D) [KT ke] (e : α → D) (kvs) : lockH .values [eDt ke e kvs] h = h := rfl
@[simp] theorem lockH_kDt (ke : κ → D) [KT ke] (e : α → D) (kvs) : lockH .keys [eDt ke e kvs] h = h := rfl
end
/-- a dict at a place -/
def itO (o : Option O) (n : Nat) (f : D × D → D) : Option Wk := match o with
  | some (.dk kvs) => some ⟨(kvs.map fun p => (dK p.1, p.2)).map f, [(n, .wk kvs)]⟩
  | some (.wk kvs) => some ⟨(kvs.map fun p => (dK p.1, p.2)).map f, [(n, .wk kvs)]⟩
  | some (.dt kvs) => some ⟨(kvs.map fun p => (dT p.1, p.2)).map f, [(n, .wt kvs)]⟩
  | some (.wt kvs) => some ⟨(kvs.map fun p => (dT p.1, p.2)).map f, [(n, .wt kvs)]⟩
  | _ => none
theorem walkD_ref (n : Nat) (H : Hc) (f : D × D → D) : walkD H f (.ref n) = itO H[n]? n f := by
  rcases hn : H[n]? with _ | o
  · simp [walkD, dRows, itO, hn]
  · cases o <;> simp [walkD, dRows, itO, hn]
@[simp] theorem w_itemsR (n : Nat) (H : Hc) : walkOf .items [.ref n] H = itO H[n]? n (fun p => .tup [p.1, p.2]) := walkD_ref n H _
@[simp] theorem w_valuesR (n : Nat) (H : Hc) : walkOf .values [.ref n] H = itO H[n]? n (·.2) := walkD_ref n H _
@[simp] theorem w_keysR (n : Nat) (H : Hc) : walkOf .keys [.ref n] H = itO H[n]? n (·.1) := walkD_ref n H _
def lkO (o : Option O) (n : Nat) (H : Hc) : Hc := match o with
  | some (.dk kvs) => H.set n (.wk kvs)
  | some (.dt kvs) => H.set n (.wt kvs)
  | _ => H
@[simp] theorem lockH_iR (n : Nat) (H : Hc) : lockH .items [.ref n] H = lkO H[n]? n H := rfl
@[simp] theorem lockH_vR (n : Nat) (H : Hc) : lockH .values [.ref n] H = lkO H[n]? n H := rfl
@[simp] theorem lockH_kR (n : Nat) (H : Hc) : lockH .keys [.ref n] H = lkO H[n]? n H := rfl
@[simp] theorem lkO_k (ke : κ → D) [KK ke] (e : α → D) (kvs) (n : Nat) (H : Hc) : lkO (some (oMk ke e kvs)) n H = H.set n (oWk ke e kvs) := rfl
@[simp] theorem lkO_t (ke : κ → D) [KT ke] (e : α → D) (kvs) (n : Nat) (H : Hc) : lkO (some (oMt ke e kvs)) n H = H.set n (oWt ke e kvs) := rfl
@[simp] theorem lkO_wk (ke : κ → D) [KK ke] (e : α → D) (kvs) (n : Nat) (H : Hc) : lkO (some (oWk ke e kvs)) n H = H := rfl
@[simp] theorem lkO_wt (ke : κ → D) [KT ke] (e : α → D) (kvs) (n : Nat) (H : Hc) : lkO (some (oWt ke e kvs)) n H = H := rfl
@[simp] theorem itO_ki (ke : κ → D) [KK ke] (e : α → D) (kvs : List (κ × α)) (n : Nat) : itO (some (oMk ke e kvs)) n (fun p => .tup [p.1, p.2]) = some ⟨mapD (e2 ke e) kvs, [(n, oWk ke e kvs)]⟩ := by
  unfold itO oMk
  simp only [rowsK_map, items_map]
  rfl
@[simp] theorem itO_kv (ke : κ → D) [KK ke] (e : α → D) (kvs : List (κ × α)) (n : Nat) : itO (some (oMk ke e kvs)) n (·.2) = some ⟨mapD e (kvs.map (·.2)), [(n, oWk ke e kvs)]⟩ := by
  unfold itO oMk
  simp only [rowsK_map, values_map]
  rfl
@[simp] theorem itO_kk (ke : κ → D) [KK ke] (e : α → D) (kvs : List (κ × α)) (n : Nat) : itO (some (oMk ke e kvs)) n (·.1) = some ⟨mapD ke (kvs.map (·.1)), [(n, oWk ke e kvs)]⟩ := by
  unfold itO oMk
  simp only [rowsK_map, keys_map]
  rfl
@[simp] theorem itO_ti (ke : κ → D) [KT ke] (e : α → D) (kvs : List (κ × α)) (n : Nat) : itO (some (oMt ke e kvs)) n (fun p => .tup [p.1, p.2]) = some ⟨mapD (e2 ke e) kvs, [(n, oWt ke e kvs)]⟩ := by
  unfold itO oMt
  simp only [rowsT_map, items_map]
  rfl
@[simp] theorem itO_tv (ke : κ → D) [KT ke] (e : α → D) (kvs : List (κ × α)) (n : Nat) : itO (some (oMt ke e kvs)) n (·.2) = some ⟨mapD e (kvs.map (·.2)), [(n, oWt ke e kvs)]⟩ := by
  unfold itO oMt
  simp only [rowsT_map, values_map]
  rfl
@[simp] theorem itO_tk (ke : κ → D) [KT ke] (e : α → D) (kvs : List (κ × α)) (n : Nat) : itO (some (oMt ke e kvs)) n (·.1) = some ⟨mapD ke (kvs.map (·.1)), [(n, oWt ke e kvs)]⟩ := by
  unfold itO oMt
  simp only [rowsT_map, keys_map]
  rfl
/-- a list at a place -/
def sqO (o : Option O) (n : Nat) (f : List D → List D) : Option Wk := match o with
  | some (.lst xs) => some ⟨f xs, [(n, .lst xs)]⟩
  | _ => none
@[simp] theorem w_seqRf (n : Nat) (H : Hc) : walkOf .seq [.ref n] H = sqO H[n]? n id := by
  show walkSeq H (.ref n) = _
  rcases hn : H[n]? with _ | o
  · simp [walkSeq, sqO, hn]
  · cases o <;> simp [walkSeq, sqO, hn]
@[simp] theorem w_enumRf (n : Nat) (H : Hc) : walkOf .enum [.ref n] H = sqO H[n]? n (enumD 0) := by
  show (walkSeq H (.ref n)).map _ = _
  rcases hn : H[n]? with _ | o
  · simp [walkSeq, sqO, hn]
  · cases o <;> simp [walkSeq, sqO, hn]
@[simp] theorem sqO_s (e : α → D) (xs : List α) (n : Nat) : sqO (some (oLst e xs)) n id = some ⟨mapD e xs, [(n, oLst e xs)]⟩ := rfl
@[simp] theorem sqO_e (e : α → D) (xs : List α) (n : Nat) : sqO (some (oLst e xs)) n (enumD 0) = some ⟨mapD (e2 D.int e) (enumL 0 xs), [(n, oLst e xs)]⟩ := by
  simp only [sqO, oLst, enumD_map, mapD]
@[simp] theorem bindT_eTup (ts : List CT) (e : α → D) (xs : List α) (ρ : Env) : bindT (.t ts) (eTup e xs) ρ = bindTs ts (xs.map e) ρ := rfl
/-! ### built-in functions -/
def extL (lt : Int → Int → Bool) : List Int → Option Int
  | [] => none
  | x :: xs => some (xs.foldl (fun a y => if lt y a = true then y else a) x)
theorem extI_map (lt : Int → Int → Bool) : ∀ (m : Int) (xs : List Int), extI lt m (xs.map D.int) = some (xs.foldl (fun a y => if lt y a = true then y else a) m)
  | _, [] => rfl
  | m, x :: xs => by
    rw [List.map_cons, extI, List.foldl_cons]
    exact extI_map lt _ xs
theorem extD_map (lt : Int → Int → Bool) (xs : List Int) : extD lt (xs.map D.int) = extL lt xs := by
  cases xs with
  | nil => rfl
  | cons x xs => exact extI_map lt x xs
def minI := extL fun a b => decide (a < b)
def maxI := extL fun a b => decide (b < a)
@[simp] theorem n_minLT (h : Hc) (xs : List Int) : primN .minL [eTup D.int xs] h = ro (minI xs) fun s => .ok (.int s) h := by
  simp only [primN, look, eTup, extD_map, opt_ro]
  rfl
@[simp] theorem n_minLL (h : Hc) (xs : List Int) : primN .minL [eLst D.int xs] h = ro (minI xs) fun s => .ok (.int s) h := by
  simp only [primN, look, eLst, extD_map, opt_ro]
  rfl
@[simp] theorem n_maxLT (h : Hc) (xs : List Int) : primN .maxL [eTup D.int xs] h = ro (maxI xs) fun s => .ok (.int s) h := by
  simp only [primN, look, eTup, extD_map, opt_ro]
  rfl
@[simp] theorem n_maxLL (h : Hc) (xs : List Int) : primN .maxL [eLst D.int xs] h = ro (maxI xs) fun s => .ok (.int s) h := by
  simp only [primN, look, eLst, extD_map, opt_ro]
  rfl
noncomputable def rngS (j : Int) : Option (List Int) := if inS j then some (rangeI 0 j) else none
theorem rangeD_int (j : Int) : rangeD 0 j.toNat = (rangeI 0 j).map D.int := by simp [rangeD, rangeI]
@[simp] theorem n_rngLt (h : Hc) (j : Int) : primN (.rngL true) [.int j] h = ro (rngS j) fun l => .ok (eLst D.int l) h := by
  simp only [primN, rngS]
  split
  · simp [newL, rangeD_int, eLst]
  · rfl
@[simp] theorem n_rngLf (h : Hc) (j : Int) : primN (.rngL false) [.int j] h = ro (rngS j) fun l => .ok (.ref h.length) (h ++ [oLst D.int l]) := by
  simp only [primN, rngS]
  split
  · simp [newL, rangeD_int, oLst]
  · rfl
theorem erase_map (e : α → β) : ∀ (xs : List α) (j : Nat), (xs.map e).eraseIdx j = (xs.eraseIdx j).map e
  | [], _ => rfl
  | _ :: _, 0 => rfl
  | x :: xs, j + 1 => by simp [erase_map e xs j]
/-- pop -/
noncomputable def popL (xs : List α) (i : Int) : Option (α × List α) := if inP i then (ixD xs.length i).bind fun k => xs[k]?.map fun v => (v, xs.eraseIdx k) else none
noncomputable def popO (o : Option O) (i : Int) (k : D → O → R D) : R D := match o with
  | some (.lst xs) => if inP i then ro ((ixD xs.length i).bind fun k => xs[k]?.map fun v => (k, v)) fun p => k p.2 (.lst (xs.eraseIdx p.1)) else .bad
  | _ => .bad
theorem pop1_ref (n : Nat) (i : Int) (H : Hc) : primM .pop1 (.ref n) [.int i] H = popO H[n]? i fun v o => .ok v (H.set n o) := by
  unfold popO
  simp only [primM, opt_ro]
  all_goals (split <;> simp_all)
@[simp] theorem popO_l (e : α → D) (xs : List α) (i : Int) (k : D → O → R D) : popO (some (oLst e xs)) i k = ro (popL xs i) fun p => k (e p.1) (oLst e p.2) := by
  unfold popO popL oLst
  simp only [List.length_map]
  split
  · cases ixD xs.length i with
    | none => rfl
    | some j =>
      simp only [Option.bind_some, List.getElem?_map]
      cases hj : xs[j]? with
      | none => rfl
      | some v => simp [erase_map]
  · rfl
/-! ### ends -/
theorem leave_gen {b h' L : Hc} {n : Nat} {d : D} (hl : b.length = h'.length) (hk : kept b (h' ++ L) = true) (hf : frost (h' ++ L) b.length 3 (.ref n) = d) (hd : d.flat = true) : leave true b (h' ++ L) (.ref n) = .ok d h' := by
  unfold leave
  rw [if_pos rfl, hf, if_pos ⟨hk, D.flat_old _ d hd⟩, hl, List.take_left]
theorem frost_lst {H : Hc} {m n : Nat} (e : α → D) [Cod e] (xs : List α) (hn : m ≤ n) (hL : H[n]? = some (oLst e xs)) : frost H m 3 (.ref n) = eLst e xs := by
  have h2 : ∀ x : α, frost H m 2 (e x) = e x := fun x => frost_flat 2 (Cod.flat x)
  show (if n < m then D.ref n else thawF (frost H m 2) H[n]? n) = _
  rw [if_neg (by omega), hL]
  simp only [thawF, oLst, eLst, List.map_map]
  congr 1
  exact List.map_congr_left fun x _ => h2 x
theorem frost_dk {H : Hc} {m n : Nat} (ke : κ → D) [KK ke] (e : α → D) [Cod e] (kvs : List (κ × α)) (hn : m ≤ n) (hL : H[n]? = some (oMk ke e kvs) ∨ H[n]? = some (oWk ke e kvs)) : frost H m 3 (.ref n) = eDk ke e kvs := by
  have h2 : ∀ x : α, frost H m 2 (e x) = e x := fun x => frost_flat 2 (Cod.flat x)
  show (if n < m then D.ref n else thawF (frost H m 2) H[n]? n) = _
  rw [if_neg (by omega)]
  rcases hL with hL | hL <;> (
    rw [hL]
    simp only [thawF, oMk, oWk, eDk, List.map_map]
    congr 1
    exact List.map_congr_left fun x _ => h2 x.2)
theorem frost_dt {H : Hc} {m n : Nat} (ke : κ → D) [KT ke] (e : α → D) [Cod e] (kvs : List (κ × α)) (hn : m ≤ n) (hL : H[n]? = some (oMt ke e kvs) ∨ H[n]? = some (oWt ke e kvs)) : frost H m 3 (.ref n) = eDt ke e kvs := by
  have h2 : ∀ x : α, frost H m 2 (e x) = e x := fun x => frost_flat 2 (Cod.flat x)
  show (if n < m then D.ref n else thawF (frost H m 2) H[n]? n) = _
  rw [if_neg (by omega)]
  rcases hL with hL | hL <;> (
    rw [hL]
    simp only [thawF, oMt, oWt, eDt, List.map_map]
    congr 1
    exact List.map_congr_left fun x _ => h2 x.2)
def leave0 (h h' : Hc) (d : D) : R D := leave true h h' d
def lvR (o : Option O) (k : D → R D) (els : R D) : R D := match o with
  | some (.lst xs) => if D.flats xs = true then k (.lst xs) else els
  | some (.dk kvs) => if D.flats (kvs.map (·.2)) = true then k (.dk (kvs.map (·.1)) (kvs.map (·.2))) else els
  | some (.wk kvs) => if D.flats (kvs.map (·.2)) = true then k (.dk (kvs.map (·.1)) (kvs.map (·.2))) else els
  | some (.dt kvs) => if D.flats (kvs.map (·.2)) = true then k (.dt (kvs.map (·.1)) (kvs.map (·.2))) else els
  | some (.wt kvs) => if D.flats (kvs.map (·.2)) = true then k (.dt (kvs.map (·.1)) (kvs.map (·.2))) else els
  | _ => els
theorem flats_frost {H : Hc} {m k : Nat} : ∀ {xs : List D}, D.flats xs = true → xs.map (frost H m k) = xs
  | [], _ => rfl
  | x :: xs, h => by
    simp only [D.flats, Bool.and_eq_true] at h
    rw [List.map_cons, frost_flat k h.1, flats_frost h.2]
theorem flats_frost2 {H : Hc} {m k : Nat} {χ : Type} {kvs : List (χ × D)} (h : D.flats (kvs.map (·.2)) = true) : (kvs.map fun p => frost H m k p.2) = kvs.map (·.2) := by
  have := flats_frost (H := H) (m := m) (k := k) h
  rwa [List.map_map] at this
theorem leave_ref {b h' L : Hc} {n : Nat} (hl : b.length = h'.length) (hn : b.length ≤ n) (hk : kept b (h' ++ L) = true) : leave true b (h' ++ L) (.ref n) = lvR (h' ++ L)[n]? (fun d => .ok d h') (leave0 b (h' ++ L) (.ref n)) := by
  have hf : frost (h' ++ L) b.length 3 (.ref n) = thawF (frost (h' ++ L) b.length 2) (h' ++ L)[n]? n := by
    show (if n < b.length then D.ref n else thawF (frost (h' ++ L) b.length 2) (h' ++ L)[n]? n) = _
    rw [if_neg (by omega)]
  unfold lvR
  split <;> try rfl
  all_goals
    rename_i xs e
    split
    · rename_i hx
      refine leave_gen hl hk ?_ hx
      rw [hf, e]
      first | (simp only [thawF, flats_frost2 hx]; done) | (simp only [thawF, flats_frost hx]; done)
    · rfl
theorem leave_ref' {b h' L : Hc} {n : Nat} (hl : b.length = h'.length) (hn : b.length ≤ n) (hk : oflats L = true → kept b (h' ++ L) = true) : leave true b (h' ++ L) (.ref n) = if oflats L = true then lvR (h' ++ L)[n]? (fun d => .ok d h') (leave0 b (h' ++ L) (.ref n)) else leave0 b (h' ++ L) (.ref n) := by
  split
  · rename_i h
    exact leave_ref hl hn (hk h)
  · rfl
@[simp] theorem leave_rS (h : Hc) (p : Nat) (s s' : Int × Int × Int) (L : Hc) (j : Nat) : leave true (h.set p (oPen s)) (h.set p (oPen s') ++ L) (.ref (h.length + j)) = if oflats L = true then lvR L[j]? (fun d => .ok d (h.set p (oPen s'))) (leave0 (h.set p (oPen s)) (h.set p (oPen s') ++ L) (.ref (h.length + j))) else leave0 (h.set p (oPen s)) (h.set p (oPen s') ++ L) (.ref (h.length + j)) := by
  rw [leave_ref' (by simp) (by simp) (fun hf => kept_ss1 h L p _ _ (oflat_oPen _) hf), get_sapp]
@[simp] theorem leave_rS0 (h : Hc) (p : Nat) (s s' : Int × Int × Int) (L : Hc) : leave true (h.set p (oPen s)) (h.set p (oPen s') ++ L) (.ref h.length) = if oflats L = true then lvR L[0]? (fun d => .ok d (h.set p (oPen s'))) (leave0 (h.set p (oPen s)) (h.set p (oPen s') ++ L) (.ref h.length)) else leave0 (h.set p (oPen s)) (h.set p (oPen s') ++ L) (.ref h.length) := leave_rS h p s s' L 0
@[simp] theorem leave_rP (h : Hc) (L : Hc) (j : Nat) : leave true h (h ++ L) (.ref (h.length + j)) = lvR L[j]? (fun d => .ok d h) (leave0 h (h ++ L) (.ref (h.length + j))) := by
  rw [leave_ref rfl (by simp) (kept_app h L), get_app]
@[simp] theorem leave_rP0 (h : Hc) (L : Hc) : leave true h (h ++ L) (.ref h.length) = lvR L[0]? (fun d => .ok d h) (leave0 h (h ++ L) (.ref h.length)) := leave_rP h L 0
section
variable (k : D → R D) (els : R D)
@[simp] theorem lvR_lst (e : α → D) [Cod e] (xs : List α) : lvR (some (oLst e xs)) k els = k (eLst e xs) := by simp [lvR, oLst, eLst]
@[simp] theorem lvR_k (ke : κ → D) [KK ke] (e : α → D) [Cod e] (kvs : List (κ × α)) : lvR (some (oMk ke e kvs)) k els = k (eDk ke e kvs) := by
  have h := oflat_oMk ke e kvs
  unfold oMk at h ⊢
  unfold lvR
  simp only
  refine (if_pos h).trans ?_
  simp [eDk, Function.comp_def]
@[simp] theorem lvR_t (ke : κ → D) [KT ke] (e : α → D) [Cod e] (kvs : List (κ × α)) : lvR (some (oMt ke e kvs)) k els = k (eDt ke e kvs) := by
  have h := oflat_oMt ke e kvs
  unfold oMt at h ⊢
  unfold lvR
  simp only
  refine (if_pos h).trans ?_
  simp [eDt, Function.comp_def]
@[simp] theorem lvR_wk (ke : κ → D) [KK ke] (e : α → D) [Cod e] (kvs : List (κ × α)) : lvR (some (oWk ke e kvs)) k els = k (eDk ke e kvs) := by
  have h := oflat_oWk ke e kvs
  unfold oWk at h ⊢
  unfold lvR
  simp only
  refine (if_pos h).trans ?_
  simp [eDk, Function.comp_def]
@[simp] theorem lvR_wt (ke : κ → D) [KT ke] (e : α → D) [Cod e] (kvs : List (κ × α)) : lvR (some (oWt ke e kvs)) k els = k (eDt ke e kvs) := by
  have h := oflat_oWt ke e kvs
  unfold oWt at h ⊢
  unfold lvR
  simp only
  refine (if_pos h).trans ?_
  simp [eDt, Function.comp_def]
end
/-! ### tuples whose object is known -/
def eFtp (e : α → D) (xs : List α) : D := .ftp (xs.map e)
instance (e : α → D) [Cod e] : Cod (eFtp e) := ⟨fun x => flats_map e x⟩
instance (e : α → D) (d : Nat) [Pyd e d] : Pyd (eFtp e) (d + 2) := ⟨Pyd.dat (eTup e), fun xs => Pyd.py (e := eTup e) xs, Pyd.plain (e := eTup e), Pyd.depth (e := eTup e), Pyd.lay (e := eTup e), Pyd.eqv (e := eTup e)⟩
section
variable (e : α → D) (xs ys : List α) (h : Hc)
@[simp] theorem flat_eFtp [Cod e] : (eFtp e xs).flat = true := Cod.flat _
@[simp] theorem old_eFtp (m : Nat) [Cod e] : D.old m (eFtp e xs) = true := D.flat_old m _ (Cod.flat _)
@[simp] theorem rtN_eFtp [Cod e] (b0 : Hc) : rtN b0 (eFtp e xs) h = .rt (eFtp e xs) (exH b0 h) := rtN_flat (Cod.flat _)
@[simp] theorem dEq_eFtp [DecidableEq α] {e : α → D} {d : Nat} [Cod e] [Pyd e d] (hd : d + 2 ≤ 64) (h : Hc) (x y : List α) : dEq h (eFtp e x) (eFtp e y) = some (decide (x = y)) := dEq_e (e := eFtp e) hd h x y
@[simp] theorem dRepr_eFtp {e : α → D} {d : Nat} [Cod e] [Pyd e d] (hd : d + 2 ≤ 64) (h : Hc) (x : List α) : dRepr h (eFtp e x) = rpr (eFtp e) x := dRepr_e (e := eFtp e) hd h x
theorem rpr_eFtp {e : α → D} {d : Nat} [Pyd e d] : rpr (eFtp e) = rpr (eTup e) := rfl
@[simp] theorem lookT_eFtp : lookT h (eFtp e xs) = .tup (xs.map e) := rfl
@[simp] theorem p_idxF (i : Int) : prim2 .idx (eFtp e xs) (.int i) h = ro (ixL xs i) fun v => .ok (e v) h := p_idxT h e xs i
@[simp] theorem p_isinI_F (x : Int) (xs : List Int) : prim2 .isin (.int x) (eFtp D.int xs) h = .ok (.bl (memB x xs)) h := p_isinI_T h x xs
@[simp] theorem p_notinI_F (x : Int) (xs : List Int) : prim2 .notin (.int x) (eFtp D.int xs) h = .ok (.bl !(memB x xs)) h := p_notinI_T h x xs
@[simp] theorem n_lenF : primN .len [eFtp e xs] h = .ok (.int xs.length) h := n_lenT h e xs
@[simp] theorem n_toTupF (fz : Bool) : primN (.toTup fz) [eFtp e xs] h = .ok (eFtp e xs) h := rfl
@[simp] theorem n_toTupLF : primN (.toTup true) [eLst e xs] h = .ok (eFtp e xs) h := by simp [primN, eFtp]
@[simp] theorem isTy_eFtp (t : Ty) : isTy h (eFtp e xs) t = some (t == .tup) := rfl
@[simp] theorem n_lenSetF (xs : List Int) : primN .lenSet [eFtp D.int xs] h = if xs.length ≤ 4000 then .ok (.int (X.onceI [] xs).length) h else .bad := n_lenSetT h xs
@[simp] theorem w_seqF : walkOf .seq [eFtp e xs] h = some ⟨mapD e xs, []⟩ := rfl
@[simp] theorem w_enumF : walkOf .enum [eFtp e xs] h = some ⟨mapD (e2 D.int e) (enumL 0 xs), []⟩ := by simp [walkOf, walkSeq, eFtp, enumD_map, mapD]
@[simp] theorem w_zipFT (f : β → D) (ys : List β) : walkOf .zip [eFtp e xs, eTup f ys] h = some ⟨mapD (e2 e f) (xs.zip ys), []⟩ := by simp [walkOf, walkSeq, eFtp, eTup, zipD_map, isListD, mapD]
@[simp] theorem w_zipTF (f : β → D) (ys : List β) : walkOf .zip [eTup e xs, eFtp f ys] h = some ⟨mapD (e2 e f) (xs.zip ys), []⟩ := by simp [walkOf, walkSeq, eFtp, eTup, zipD_map, isListD, mapD]
@[simp] theorem w_zipFF (f : β → D) (ys : List β) : walkOf .zip [eFtp e xs, eFtp f ys] h = some ⟨mapD (e2 e f) (xs.zip ys), []⟩ := by simp [walkOf, walkSeq, eFtp, zipD_map, isListD, mapD]
@[simp] theorem rcv_indexF (f : R D) : rcv .indexT (eFtp e xs) h f = f := rfl
@[simp] theorem m_indexF {e : α → D} [DecidableEq α] {d : Nat} [Cod e] [Pyd e d] (hd : d + 2 ≤ 64) (x : α) (xs : List α) : primM .indexT (eFtp e xs) [e x] h = ro (idxF x xs) fun k => .ok (.int k) h := by
  simp only [primM, eFtp, dIndex_e hd, opt_ro]
@[simp] theorem m_indexFi (x : Int) (xs : List Int) : primM .indexT (eFtp D.int xs) [.int x] h = ro (idxF x xs) fun k => .ok (.int k) h := m_indexF h (by decide) x xs
@[simp] theorem j_ftp (p : Prop) [Decidable p] (a b : List α) : (if p then R.ok (eFtp e a) h else R.ok (eFtp e b) h) = R.ok (eFtp e (if p then a else b)) h := by split <;> rfl
end
end
section
variable {α κ : Type} [DecidableEq κ] (ke : κ → D) [KK ke] (e : α → D)
theorem dicO_3 (a : κ) (x : α) (b : κ) (y : α) (c : κ) (z : α) (k : O → R D) : dicO (some (.dk [])) [ke a, e x, ke b, e y, ke c, e z] k = k (oMk ke e (putA (putA (putA [] a x) b y) c z)) := by
  have h1 := mkK_step ke e a x [ke b, e y, ke c, e z] []
  have h2 := mkK_step ke e b y [ke c, e z] (putA [] a x)
  have h3 := mkK_step ke e c z [] (putA (putA [] a x) b y)
  rw [List.map_nil] at h1
  unfold dicO
  rw [h1, h2, h3]
  simp only [mkK, ro_some]
  rfl
theorem dicO_4 (a : κ) (x : α) (b : κ) (y : α) (c : κ) (z : α) (d : κ) (w : α) (k : O → R D) : dicO (some (.dk [])) [ke a, e x, ke b, e y, ke c, e z, ke d, e w] k = k (oMk ke e (putA (putA (putA (putA [] a x) b y) c z) d w)) := by
  have h1 := mkK_step ke e a x [ke b, e y, ke c, e z, ke d, e w] []
  have h2 := mkK_step ke e b y [ke c, e z, ke d, e w] (putA [] a x)
  have h3 := mkK_step ke e c z [ke d, e w] (putA (putA [] a x) b y)
  have h4 := mkK_step ke e d w [] (putA (putA (putA [] a x) b y) c z)
  rw [List.map_nil] at h1
  unfold dicO
  rw [h1, h2, h3, h4]
  simp only [mkK, ro_some]
  rfl
end
/-! ### while -/
section
variable {ε β σ : Type}
def turnsX (f : σ → X ε (Lp β σ)) : Nat → σ → Option (X ε (Le β σ))
  | 0, _ => none
  | k + 1, s => match f s with
    | .ok (.nx s) => turnsX f k s
    | .ok (.bk s) => some (.ok (.nx s))
    | .ok (.rt b s) => some (.ok (.rt b s))
    | .ex c e => some (.ex c e)
    | .bad => some .bad
open Classical in
/-- a loop that runs until it ends -/
noncomputable def whileX (f : σ → X ε (Lp β σ)) (s : σ) : X ε (Le β σ) := if p : ∃ k r, turnsX f k s = some r then p.choose_spec.choose else .bad
theorem turnsX_mono (f : σ → X ε (Lp β σ)) : ∀ (k m : Nat) (s : σ) (r : X ε (Le β σ)), turnsX f k s = some r → k ≤ m → turnsX f m s = some r
  | 0, _, _, _, h, _ => by simp [turnsX] at h
  | k + 1, 0, _, _, _, hm => by omega
  | k + 1, m + 1, s, r, h, hm => by
    rw [turnsX] at h ⊢
    split at h
    · exact turnsX_mono f k m _ r h (by omega)
    all_goals (rename_i e; exact h)
theorem whileX_eq {f : σ → X ε (Lp β σ)} {s : σ} {k : Nat} {r : X ε (Le β σ)} (h : turnsX f k s = some r) : whileX f s = r := by
  have p : ∃ k r, turnsX f k s = some r := ⟨k, r, h⟩
  unfold whileX
  rw [dif_pos p]
  have h2 := p.choose_spec.choose_spec
  have h3 := turnsX_mono f _ (max k p.choose) s _ h2 (by omega)
  have h4 := turnsX_mono f _ (max k p.choose) s _ h (by omega)
  rw [h3] at h4
  exact Option.some.inj h4
/-- one turn of a loop -/
theorem whileX_step (f : σ → X ε (Lp β σ)) (s : σ) : whileX f s = (f s).bind fun r => match r with
    | .nx s => whileX f s
    | .bk s => .ok (.nx s)
    | .rt b s => .ok (.rt b s) := by
  cases hf : f s with
  | bad => exact whileX_eq (k := 1) (by rw [turnsX, hf]; rfl)
  | ex c e => exact whileX_eq (k := 1) (by rw [turnsX, hf]; rfl)
  | ok r =>
    cases r with
    | bk s1 => exact whileX_eq (k := 1) (by rw [turnsX, hf]; rfl)
    | rt b s1 => exact whileX_eq (k := 1) (by rw [turnsX, hf]; rfl)
    | nx s1 =>
      simp only [X.bind_ok]
      by_cases p : ∃ k r, turnsX f k s1 = some r
      · obtain ⟨k, r, h⟩ := p
        rw [whileX_eq h]
        exact whileX_eq (k := k + 1) (by rw [turnsX, hf]; exact h)
      · have p2 : ¬ ∃ k r, turnsX f k s = some r := by
          rintro ⟨k, r, h⟩
          cases k with
          | zero => simp [turnsX] at h
          | succ k =>
            rw [turnsX, hf] at h
            exact p ⟨k, r, h⟩
        unfold whileX
        rw [dif_neg p, dif_neg p2]
theorem turns_mono (c : Env → Hc → R Bool) (b : Env → Hc → S) : ∀ (k m : Nat) (ρ : Env) (h : Hc) (r : S), turns c b k ρ h = some r → k ≤ m → turns c b m ρ h = some r
  | 0, _, _, _, _, h, _ => by simp [turns] at h
  | k + 1, 0, _, _, _, _, hm => by omega
  | k + 1, m + 1, ρ, hh, r, h, hm => by
    rw [turns] at h ⊢
    split at h
    · split at h
      · exact turns_mono c b k m _ _ r h (by omega)
      · exact turns_mono c b k m _ _ r h (by omega)
      all_goals exact h
    all_goals exact h
theorem whilL_eq {c : Env → Hc → R Bool} {b : Env → Hc → S} {ρ : Env} {h : Hc} {k : Nat} {r : S} (e : turns c b k ρ h = some r) : whilL c b ρ h = r := by
  have p : ∃ k r, turns c b k ρ h = some r := ⟨k, r, e⟩
  unfold whilL
  rw [dif_pos p]
  have h2 := p.choose_spec.choose_spec
  have h3 := turns_mono c b _ (max k p.choose) ρ h _ h2 (by omega)
  have h4 := turns_mono c b _ (max k p.choose) ρ h _ e (by omega)
  rw [h3] at h4
  exact Option.some.inj h4
theorem while_loop {b0 : Hc} {F : Nat → List D → Hc → R D} {c : CE} {b : List CS} (env : σ → Env) (hp : σ → Hc) (hx : ε → Hc) (rtf : β → σ → S) (hrt : ∀ v s ρ h c, rtf v s ≠ .nx ρ h ∧ rtf v s ≠ .bk ρ h ∧ rtf v s ≠ .ct ρ h ∧ rtf v s ≠ .ex c ρ h) (body : σ → X ε (Lp β σ))
    (hb : ∀ s, (truthR (ev F c (env s) (hp s))).stM b0 (fun t h => if t = true then bodyN b0 F b (env s) h else .bk (env s) h) = sx (body s) hx fun r => match r with
      | .nx s => .nx (env s) (hp s)
      | .bk s => .bk (env s) (hp s)
      | .rt v s => rtf v s) (s : σ) :
    exeN b0 F (.whil c b) (env s) (hp s) = sx (whileX body s) hx fun r => r.cas (fun s => .nx (env s) (hp s)) rtf := by
  have key : ∀ (k : Nat) (s : σ), (turns (fun ρ h => truthR (ev F c ρ h)) (exes F b) k (env s) (hp s)).map (nrm b0) = (turnsX body k s).map fun x => sx x hx fun r => r.cas (fun s => .nx (env s) (hp s)) rtf := by
    intro k
    induction k with
    | zero => intro s; rfl
    | succ k ih =>
      intro s
      have h1 := hb s
      rw [turns, turnsX]
      cases ht : truthR (ev F c (env s) (hp s)) with
      | bad =>
        rw [ht] at h1
        cases hbd : body s with
        | bad => rfl
        | ex cc e => rw [hbd] at h1; simp at h1
        | ok r =>
          rw [hbd] at h1
          cases r with
          | nx s1 => simp at h1
          | bk s1 => simp at h1
          | rt v s1 => exact congrArg some h1
      | ex cc hh =>
        rw [ht] at h1
        cases hbd : body s with
        | bad => rw [hbd] at h1; simp at h1
        | ex cc e => rw [hbd] at h1; simpa [nrm] using h1
        | ok r =>
          rw [hbd] at h1
          cases r with
          | nx s1 => simp at h1
          | bk s1 => simp at h1
          | rt v s1 => exact absurd h1.symm (hrt _ _ _ _ _).2.2.2
      | ok t hh =>
        rw [ht, stM_ok] at h1
        cases t with
        | false =>
          simp only [Bool.false_eq_true, if_false] at h1
          cases hbd : body s with
          | bad => rw [hbd] at h1; simp at h1
          | ex cc e => rw [hbd] at h1; simp at h1
          | ok r =>
            rw [hbd] at h1
            cases r with
            | nx s1 => simp at h1
            | rt v s1 => exact absurd h1.symm (hrt _ _ _ _ 0).2.1
            | bk s1 =>
              simp only [sx_ok, S.bk.injEq] at h1
              simp [nrm, h1.1, h1.2]
        | true =>
          simp only [if_true] at h1
          unfold bodyN at h1
          rw [← nrm_exes] at h1
          simp only
          cases he : exes F b (env s) hh with
          | bad =>
            rw [he] at h1
            cases hbd : body s with
            | bad => rfl
            | ex cc e => rw [hbd] at h1; simp [nrm] at h1
            | ok r =>
              rw [hbd] at h1
              cases r with
              | nx s1 => simp [nrm] at h1
              | bk s1 => simp [nrm] at h1
              | rt v s1 => exact congrArg some h1
          | nx ρ2 h2 =>
            rw [he] at h1
            cases hbd : body s with
            | bad => rw [hbd] at h1; simp [nrm] at h1
            | ex cc e => rw [hbd] at h1; simp [nrm] at h1
            | ok r =>
              rw [hbd] at h1
              cases r with
              | nx s1 =>
                simp only [nrm, sx_ok, S.nx.injEq] at h1
                simp only [h1.1, h1.2]
                exact ih s1
              | bk s1 => simp [nrm] at h1
              | rt v s1 => exact absurd h1.symm (hrt _ _ _ _ 0).1
          | ct ρ2 h2 =>
            rw [he] at h1
            cases hbd : body s with
            | bad => rw [hbd] at h1; simp [nrm] at h1
            | ex cc e => rw [hbd] at h1; simp [nrm] at h1
            | ok r =>
              rw [hbd] at h1
              cases r with
              | nx s1 => simp [nrm] at h1
              | bk s1 => simp [nrm] at h1
              | rt v s1 => exact absurd h1.symm (hrt _ _ _ _ 0).2.2.1
          | bk ρ2 h2 =>
            rw [he] at h1
            cases hbd : body s with
            | bad => rw [hbd] at h1; simp [nrm] at h1
            | ex cc e => rw [hbd] at h1; simp [nrm] at h1
            | ok r =>
              rw [hbd] at h1
              cases r with
              | nx s1 => simp [nrm] at h1
              | bk s1 =>
                simp only [nrm, sx_ok, S.bk.injEq] at h1
                simp [nrm, h1.1, h1.2]
              | rt v s1 => exact absurd h1.symm (hrt _ _ _ _ 0).2.1
          | ex cc ρ2 h2 =>
            rw [he] at h1
            cases hbd : body s with
            | bad => rw [hbd] at h1; simp [nrm] at h1
            | ex cc e => rw [hbd] at h1; simpa using h1
            | ok r =>
              rw [hbd] at h1
              cases r with
              | nx s1 => simp [nrm] at h1
              | bk s1 => simp [nrm] at h1
              | rt v s1 => exact absurd h1.symm (hrt _ _ _ _ _).2.2.2
          | rt d h2 =>
            rw [he] at h1
            have hrt : ∃ d' h', nrm b0 (.rt d h2) = .rt d' h' := by
              rw [nrm_rt]
              unfold rtN
              split <;> exact ⟨_, _, rfl⟩
            obtain ⟨d', h', hrt⟩ := hrt
            cases hbd : body s with
            | bad => rw [hbd, hrt] at h1; simp at h1
            | ex cc e => rw [hbd, hrt] at h1; simp at h1
            | ok r =>
              rw [hbd] at h1
              cases r with
              | nx s1 => rw [hrt] at h1; simp at h1
              | bk s1 => rw [hrt] at h1; simp at h1
              | rt v s1 =>
                simp only [Option.map_some]
                rw [h1]
                rfl
  rw [exeN]
  by_cases p : ∃ k r, turnsX body k s = some r
  · obtain ⟨k, r, hk⟩ := p
    have h1 := key k s
    rw [hk, Option.map_some] at h1
    obtain ⟨r', hr', e⟩ := Option.map_eq_some_iff.mp h1
    rw [whilL_eq hr', whileX_eq hk, e]
  · have p2 : ¬ ∃ k r, turns (fun ρ h => truthR (ev F c ρ h)) (exes F b) k (env s) (hp s) = some r := by
      rintro ⟨k, r, hk⟩
      have h1 := key k s
      rw [hk, Option.map_some] at h1
      obtain ⟨r', hr', _⟩ := Option.map_eq_some_iff.mp h1.symm
      exact p ⟨k, r', hr'⟩
    have e1 : whilL (fun ρ h => truthR (ev F c ρ h)) (exes F b) (env s) (hp s) = .bad := by
      unfold whilL
      rw [dif_neg p2]
    have e2 : whileX body s = .bad := by
      unfold whileX
      rw [dif_neg p]
    rw [e1, e2]
    rfl
theorem x_whil {b0 : Hc} {F : Nat → List D → Hc → R D} {c : CE} {b : List CS} {ρ : Env} {h : Hc} : exeN b0 F (.whil c b) ρ h = nrm b0 (whilL (fun ρ h => truthR (ev F c ρ h)) (exes F b) ρ h) := by rw [exeN]
/-! lists of texts compared -/
theorem pys_str : ∀ xs : List PySem.Str, D.pys (xs.map D.str) = some (xs.map PyData.str)
  | [] => rfl
  | x :: xs => by simp [D.pys, D.py, pys_str xs]
theorem plain_str : ∀ xs : List PySem.Str, PyData.plainAll (xs.map PyData.str) = true
  | [] => by simp [PyData.plainAll]
  | x :: xs => by simp [PyData.plainAll, PyData.plain, plain_str xs]
theorem depth_str : ∀ xs : List PySem.Str, PyData.depthAll (xs.map PyData.str) ≤ 1
  | [] => by simp [PyData.depthAll]
  | x :: xs => by
    have h1 := depth_str xs
    simp only [List.map_cons, PyData.depthAll, PyData.depth]
    omega
theorem eqv_str : ∀ xs ys : List PySem.Str, PyData.eqvAll (xs.map PyData.str) (ys.map PyData.str) = decide (xs = ys)
  | [], [] => by simp [PyData.eqvAll]
  | [], _ :: _ => by simp [PyData.eqvAll]
  | _ :: _, [] => by simp [PyData.eqvAll]
  | x :: xs, y :: ys => by
    rw [Bool.eq_iff_iff]
    simp [PyData.eqvAll, PyData.eqv, eqv_str xs ys]
@[simp] theorem dEq_strs (h : Hc) (xs ys : List PySem.Str) : dEq h (eLst D.str xs) (eLst D.str ys) = some (decide (xs = ys)) := by
  have h1 : (PyData.list (xs.map PyData.str)).depth ≤ 64 := by
    have := depth_str xs
    simp only [PyData.depth]
    omega
  have h2 : (PyData.list (ys.map PyData.str)).depth ≤ 64 := by
    have := depth_str ys
    simp only [PyData.depth]
    omega
  unfold dEq
  rw [thaw_flat 3 (Cod.flat xs), thaw_flat 3 (Cod.flat ys)]
  simp only [eLst, D.py, pys_str, Option.map_some, shp, decide_eq_true h1, decide_eq_true h2, Bool.and_true]
  simp only [PyData.plain, plain_str, PyData.eqv, eqv_str]
  rfl
instance : Pyd (eOpt D.int) 0 := ⟨fun x => x.elim .none .int, fun x => by cases x <;> rfl, fun x => by cases x <;> simp [PyData.plain], fun x => by cases x <;> simp [PyData.depth], fun x => by cases x <;> simp [PyData.canLay0], fun x y => by cases x <;> cases y <;> simp [PyData.eqv]⟩
@[simp] theorem dRepr_eOptI (h : Hc) (x : Option Int) : dRepr h (eOpt D.int x) = rpr (eOpt D.int) x := dRepr_e (e := eOpt D.int) (by decide) h x
@[simp] theorem dRepr_bl (h : Hc) (x : Bool) : dRepr h (.bl x) = rpr D.bl x := dRepr_e (e := D.bl) (by decide) h x
@[simp] theorem rpr_none : rpr (eOpt D.int) none = rpr eN () := rfl
@[simp] theorem rpr_some (x : Int) : rpr (eOpt D.int) (some x) = rpr D.int x := rfl
@[simp] theorem dRepr_non (h : Hc) : dRepr h .non = rpr eN () := dRepr_e (e := eN) (by decide) h ()
@[simp] theorem p_add_non (fr : Bool) (i : Int) (h : Hc) : prim2 (.add fr) .non (.int i) h = .bad := by cases fr <;> rfl
end
end Q

namespace Q
open PySem PySem.Spec PyProof.Rows L2
/-- _law_pen -/
def b__law_pen_202 : List CS := [
    .ret (.lst false [(.bi .max2 [(.c (.int 0)), (.bin .sub (.v 0) (.bin .pow (.c (.int 10)) (.c (.int 18))))]), (.bin .mod (.v 0) (.c (.int 1000000007))), (.c (.int 0))])]
def f__law_pen_202 : Fn := ⟨1, 1, false, b__law_pen_202⟩

/-- _law_cell -/
def b__law_cell_45 : List CS := [
    .ife (.cmp .lt (.v 1) (.bi .len [(.v 0)])) [
      .ret (.idx (.v 0) (.v 1))] [],
    .ret (.c (.int 0))]
def f__law_cell_45 : Fn := ⟨2, 2, true, b__law_cell_45⟩

/-- _law_draw -/
def b__law_draw_58 : List CS := [
    .ife (.cmp .gt (.idx (.v 0) (.c (.int 0))) (.c (.int 0))) [
      .asg (.n 3) (.bin .mod (.idx (.v 0) (.c (.int 0))) (.v 1)),
      .seti (.v 0) (.c (.int 0)) (.bin .fdiv (.idx (.v 0) (.c (.int 0))) (.v 1)),
      .ret (.v 3)] [],
    .seti (.v 0) (.c (.int 2)) (.bin (.add true) (.idx (.v 0) (.c (.int 2))) (.c (.int 1))),
    .asg (.n 2) (.bin .mod (.bin (.mul true) (.bin (.add true) (.idx (.v 0) (.c (.int 1))) (.bin (.mul true) (.c (.int 17)) (.idx (.v 0) (.c (.int 2))))) (.bin (.add true) (.c (.int 69621)) (.bin (.mul true) (.c (.int 2)) (.idx (.v 0) (.c (.int 2)))))) (.c (.int 2147483647))),
    .asg (.n 2) (.bin .mod (.bin (.add true) (.bin (.add true) (.bin (.mul true) (.v 2) (.v 2)) (.bin (.mul true) (.c (.int 40503)) (.idx (.v 0) (.c (.int 2))))) (.c (.int 5))) (.c (.int 2147483629))),
    .ret (.bin .mod (.bin .fdiv (.bin .mod (.bin (.mul true) (.v 2) (.c (.int 48271))) (.c (.int 2147483647))) (.c (.int 32))) (.v 1))]
def f__law_draw_58 : Fn := ⟨2, 4, true, b__law_draw_58⟩

/-- _law_pick -/
def b__law_pick_204 : List CS := [
    .ret (.idx (.v 1) (.call 58 [(.v 0), (.bi .len [(.v 1)])]))]
def f__law_pick_204 : Fn := ⟨2, 2, true, b__law_pick_204⟩

/-- _law_net -/
def b__law_net_157 : List CS := [
    .asg (.t [(.n 5), (.n 6)]) (.tup [(.bin (.add true) (.c (.int 1)) (.call 58 [(.v 0), (.v 1)])), (.dnew true)]),
    .asg (.n 2) (.comp false .rng2 [(.c (.int 1)), (.v 5)] (.n 8) [] (.tup [(.call 58 [(.v 0), (.v 8)]), (.v 8)]) [8]),
    .for .rng1 [(.bin (.mul true) (.call 58 [(.v 0), (.c (.int 3))]) (.bi .toInt [(.cmp .gt (.v 5) (.c (.int 2)))]))] (.n 3) [.blk [3, 7] [
      .asg (.n 7) (.call 58 [(.v 0), (.bin .sub (.v 5) (.c (.int 1)))]),
      .ex (.mt .append (.v 2) [(.tup [(.v 7), (.bin (.add true) (.bin (.add true) (.v 7) (.c (.int 1))) (.call 58 [(.v 0), (.bin .sub (.bin .sub (.v 5) (.c (.int 1))) (.v 7))]))])])]],
    .for .seq [(.v 2)] (.n 4) [.blk [4] [
      .seti (.v 6) (.v 4) (.call 204 [(.v 0), (.bin (.add true) (.bin (.mul true) (.lst true [(.tup [(.c (.int 1)), (.c (.int 1))])]) (.c (.int 6))) (.lst true [(.tup [(.c (.int 1)), (.c (.int 2))]), (.tup [(.c (.int 2)), (.c (.int 1))]), (.tup [(.c (.int 1)), (.c (.int 3))]), (.tup [(.c (.int 3)), (.c (.int 1))])]))])]],
    .ret (.tup [(.v 5), (.bi (.toTup false) [(.bi (.sorted true) [(.comp true .items [(.v 6)] (.t [(.n 4), (.n 9)]) [] (.bin (.add true) (.v 4) (.v 9)) [4, 9])])])])]
def f__law_net_157 : Fn := ⟨2, 10, true, b__law_net_157⟩

/-- _law_row -/
def b__law_row_258 : List CS := [
    .asg (.n 3) (.tup []),
    .for .rng1 [(.call 58 [(.v 0), (.bin (.add true) (.v 2) (.c (.int 1)))])] (.n 4) [.blk [4, 5] [
      .asg (.n 5) (.ite (.and (.cmp .gt (.bi .len [(.v 3)]) (.c (.int 1))) (.cmp .eq (.call 58 [(.v 0), (.c (.int 3))]) (.c (.int 0)))) (.idx (.v 3) (.un .neg (.c (.int 2)))) (.call 58 [(.v 0), (.idx (.v 1) (.c (.int 0)))])),
      .asg (.n 3) (.bin (.add true) (.v 3) (.tup [(.v 5)]))]],
    .ret (.v 3)]
def f__law_row_258 : Fn := ⟨3, 6, true, b__law_row_258⟩

/-- _law_gives -/
def b__law_gives_96 : List CS := [
    .asg (.n 1) (.comp false .rng1 [(.idx (.v 0) (.c (.int 0)))] (.n 6) [] (.dnew false) [6]),
    .for .seq [(.idx (.v 0) (.c (.int 1)))] (.t [(.n 2), (.n 3), (.n 4), (.n 5)]) [.blk [2, 3, 4, 5] [
      .seti (.idx (.v 1) (.v 2)) (.v 3) (.v 4),
      .seti (.idx (.v 1) (.v 3)) (.v 2) (.v 5)]],
    .ret (.v 1)]
def f__law_gives_96 : Fn := ⟨1, 7, true, b__law_gives_96⟩

/-- _law_unit -/
def b__law_unit_360 : List CS := [
    .ret (.bi (.toTup false) [(.comp true .rng1 [(.v 0)] (.n 2) [] (.bi .toInt [(.cmp .eq (.v 2) (.v 1))]) [2])])]
def f__law_unit_360 : Fn := ⟨2, 3, true, b__law_unit_360⟩

/-- _law_claim -/
def b__law_claim_47 : List CS := [
    .asg (.n 3) (.bi (.toLst false) [(.v 1)]),
    .asg (.n 4) (.comp true .items [(.idx (.v 0) (.v 2))] (.t [(.n 5), (.n 6)]) [] (.bin (.mul true) (.v 6) (.idx (.v 1) (.v 5))) [5, 6]),
    .seti (.v 3) (.v 2) (.bin .sub (.bi .sum [(.v 4)]) (.idx (.v 1) (.v 2))),
    .ret (.bi (.toTup false) [(.v 3)])]
def f__law_claim_47 : Fn := ⟨3, 7, true, b__law_claim_47⟩

/-- _law_begins -/
def b__law_begins_27 : List CS := [
    .asg (.n 2) (.lst false []),
    .for .rng1 [(.bi .len [(.v 0)])] (.n 3) [.blk [3, 4, 5] [
      .asg (.n 4) (.call 360 [(.bi .len [(.v 0)]), (.v 3)]),
      .for .seq [(.v 1)] (.n 5) [.blk [5] [
        .asg (.n 4) (.call 47 [(.v 0), (.v 4), (.v 5)])]],
      .ife (.cmp .lt (.bi .minL [(.v 4)]) (.c (.int 0))) [
        .ex (.mt .append (.v 2) [(.v 3)])] []]],
    .ret (.v 2)]
def f__law_begins_27 : Fn := ⟨2, 6, true, b__law_begins_27⟩

/-- _law_place -/
def b__law_place_206 : List CS := [
    .asg (.n 3) (.call 360 [(.bi .len [(.v 0)]), (.v 2)]),
    .for .enum [(.v 1)] (.t [(.n 4), (.n 5)]) [.blk [4, 5] [
      .ife (.cmp .eq (.v 3) (.call 360 [(.bi .len [(.v 0)]), (.v 5)])) [
        .ret (.v 4)] [],
      .asg (.n 3) (.call 47 [(.v 0), (.v 3), (.v 5)])]],
    .ret (.c .non)]
def f__law_place_206 : Fn := ⟨3, 6, true, b__law_place_206⟩

/-- _law_normal -/
def b__law_normal_180 : List CS := [
    .asg (.t [(.n 2), (.n 3)]) (.tup [(.tup []), (.call 27 [(.v 0), (.v 1)])]),
    .whil (.cmp .ne (.v 3) (.lst true [])) [.blk [4] [
      .asg (.n 4) (.call 206 [(.v 0), (.v 1), (.idx (.v 3) (.c (.int 0)))]),
      .asg (.n 2) (.bin (.add true) (.v 2) (.tup [(.idx (.v 3) (.c (.int 0)))])),
      .asg (.n 1) (.bin (.add true) (.sl true (.v 1) (.c .non) (.v 4)) (.sl true (.v 1) (.bin (.add true) (.v 4) (.c (.int 1))) (.c .non))),
      .asg (.n 3) (.call 27 [(.v 0), (.v 1)])]],
    .ret (.v 2)]
def f__law_normal_180 : Fn := ⟨2, 5, true, b__law_normal_180⟩

/-- hang_together -/
def b_hang_together_422 : List CS := [
    .asg (.n 2) (.dic false [(.c (.int 0)), (.c (.bl true))]),
    .for .rng1 [(.v 0)] (.n 3) [.blk [3, 4, 5, 6, 7] [
      .for .seq [(.v 1)] (.t [(.n 4), (.n 5), (.n 6), (.n 7)]) [.blk [4, 5, 6, 7] [
        .ife (.or (.cmp .isin (.v 4) (.v 2)) (.cmp .isin (.v 5) (.v 2))) [
          .ex (.mt .update1 (.v 2) [(.dic false [(.v 4), (.c (.bl true)), (.v 5), (.c (.bl true))])])] []]]]],
    .ret (.cmp .eq (.bi .len [(.v 2)]) (.v 0))]
def f_hang_together_422 : Fn := ⟨2, 8, true, b_hang_together_422⟩

/-- are_some -/
def b_are_some_389 : List CS := [
    .ret (.and (.bi (.isinst .tup) [(.v 0)]) (.cmp .eq (.bi .len [(.v 0)]) (.v 1)))]
def f_are_some_389 : Fn := ⟨2, 2, true, b_are_some_389⟩

/-- is_whole -/
def b_is_whole_437 : List CS := [
    .ret (.and (.bi (.isinst .int) [(.v 0)]) (.un .not (.bi (.isinst .bool) [(.v 0)])))]
def f_is_whole_437 : Fn := ⟨1, 1, true, b_is_whole_437⟩

/-- is_among -/
def b_is_among_428 : List CS := [
    .ret (.and (.call 437 [(.v 0)]) (.cmp2 .le .le (.v 1) (.v 0) (.v 2)))]
def f_is_among_428 : Fn := ⟨3, 3, true, b_is_among_428⟩

/-- is_street -/
def b_is_street_435 : List CS := [
    .ife (.or (.un .not (.call 389 [(.v 1), (.c (.int 4))])) (.un .not (.bi .all [(.comp true .seq [(.sl true (.v 1) (.c .non) (.c (.int 2)))] (.n 3) [] (.call 428 [(.v 3), (.c (.int 0)), (.bin .sub (.v 0) (.c (.int 1)))]) [3])]))) [
      .ret (.c (.bl false))] [],
    .ife (.un .not (.bi .all [(.comp true .seq [(.sl true (.v 1) (.c (.int 2)) (.c .non))] (.n 2) [] (.call 428 [(.v 2), (.c (.int 1)), (.c (.int 3))]) [2])])) [
      .ret (.c (.bl false))] [],
    .ret (.and (.cmp .lt (.idx (.v 1) (.c (.int 0))) (.idx (.v 1) (.c (.int 1)))) (.cmp .isin (.c (.int 1)) (.sl true (.v 1) (.c (.int 2)) (.c .non))))]
def f_is_street_435 : Fn := ⟨2, 4, true, b_is_street_435⟩

/-- is_net -/
def b_is_net_430 : List CS := [
    .ife (.or (.un .not (.call 389 [(.v 0), (.c (.int 2))])) (.or (.un .not (.call 428 [(.idx (.v 0) (.c (.int 0))), (.c (.int 1)), (.c (.int 6))])) (.un .not (.bi (.isinst .tup) [(.idx (.v 0) (.c (.int 1)))])))) [
      .ret (.c (.bl false))] [],
    .asg (.t [(.n 2), (.n 3)]) (.v 0),
    .ife (.un .not (.bi .all [(.comp true .seq [(.v 3)] (.n 4) [] (.call 435 [(.v 2), (.v 4)]) [4])])) [
      .ret (.c (.bl false))] [],
    .asg (.n 1) (.comp true .seq [(.v 3)] (.n 4) [] (.sl true (.v 4) (.c .non) (.c (.int 2))) [4]),
    .ret (.and (.bi .all [(.comp true .zip [(.v 1), (.sl true (.v 1) (.c (.int 1)) (.c .non))] (.t [(.n 5), (.n 6)]) [] (.cmp .lt (.v 5) (.v 6)) [5, 6])]) (.call 422 [(.v 2), (.v 3)]))]
def f_is_net_430 : Fn := ⟨1, 7, true, b_is_net_430⟩

/-- need_net -/
def b_need_net_562 : List CS := [
    .ife (.un .not (.call 430 [(.v 0)])) [
      .raise 1] []]
def f_need_net_562 : Fn := ⟨1, 1, true, b_need_net_562⟩

/-- is_row_by -/
def b_is_row_by_432 : List CS := [
    .ret (.and (.bi (.isinst .tup) [(.v 1)]) (.bi .all [(.comp true .seq [(.v 1)] (.n 2) [] (.call 428 [(.v 2), (.c (.int 0)), (.bin .sub (.idx (.v 0) (.c (.int 0))) (.c (.int 1)))]) [2])]))]
def f_is_row_by_432 : Fn := ⟨2, 3, true, b_is_row_by_432⟩

/-- need_row_by -/
def b_need_row_by_567 : List CS := [
    .ife (.un .not (.call 432 [(.v 0), (.v 1)])) [
      .raise 5] []]
def f_need_row_by_567 : Fn := ⟨2, 2, true, b_need_row_by_567⟩

/-- need_row -/
def b_need_row_566 : List CS := [
    .ex (.call 562 [(.v 0)]),
    .ex (.call 567 [(.v 0), (.v 1)])]
def f_need_row_566 : Fn := ⟨2, 2, true, b_need_row_566⟩

/-- debts_of -/
def b_debts_of_404 : List CS := [
    .ret (.bi (.toTup false) [(.comp true .enum [(.v 0)] (.t [(.n 1), (.n 2)]) [(.cmp .lt (.v 2) (.c (.int 0)))] (.v 1) [1, 2])])]
def f_debts_of_404 : Fn := ⟨1, 3, true, b_debts_of_404⟩

/-- turned_by -/
def b_turned_by_621 : List CS := [
    .asg (.n 3) (.bi (.toLst false) [(.v 1)]),
    .for .seq [(.idx (.v 0) (.v 2))] (.t [(.n 4), (.n 5)]) [.blk [4, 5] [
      .seti (.v 3) (.v 4) (.bin (.add true) (.idx (.v 3) (.v 4)) (.bin (.mul true) (.v 5) (.idx (.v 1) (.v 2))))]],
    .seti (.v 3) (.v 2) (.bin .sub (.c (.int 0)) (.idx (.v 1) (.v 2))),
    .ret (.bi (.toTup false) [(.v 3)])]
def f_turned_by_621 : Fn := ⟨3, 6, true, b_turned_by_621⟩

/-- played_by -/
def b_played_by_583 : List CS := [
    .for .seq [(.v 2)] (.n 3) [.blk [3] [
      .asg (.n 1) (.call 621 [(.v 0), (.v 1), (.v 3)])]],
    .ret (.v 1)]
def f_played_by_583 : Fn := ⟨3, 4, true, b_played_by_583⟩

/-- gives_of -/
def b_gives_of_420 : List CS := [
    .asg (.n 1) (.comp false .rng1 [(.idx (.v 0) (.c (.int 0)))] (.n 6) [] (.lst false []) [6]),
    .for .seq [(.idx (.v 0) (.c (.int 1)))] (.t [(.n 2), (.n 3), (.n 4), (.n 5)]) [.blk [2, 3, 4, 5] [
      .ex (.mt .append (.idx (.v 1) (.v 2)) [(.tup [(.v 3), (.v 4)])]),
      .ex (.mt .append (.idx (.v 1) (.v 3)) [(.tup [(.v 2), (.v 5)])])]],
    .ret (.comp true .seq [(.v 1)] (.n 7) [] (.bi (.sorted true) [(.v 7)]) [7])]
def f_gives_of_420 : Fn := ⟨1, 8, true, b_gives_of_420⟩

/-- ahead_by -/
def b_ahead_by_384 : List CS := [
    .ret (.call 583 [(.call 420 [(.v 0)]), (.bin (.mul true) (.tup [(.c (.int 1))]) (.idx (.v 0) (.c (.int 0)))), (.rev true (.v 1))])]
def f_ahead_by_384 : Fn := ⟨2, 2, true, b_ahead_by_384⟩

/-- begins -/
def b_begins_392 : List CS := [
    .ex (.call 566 [(.v 0), (.v 1)]),
    .ret (.call 404 [(.call 384 [(.v 0), (.v 1)])])]
def f_begins_392 : Fn := ⟨2, 2, true, b_begins_392⟩

/-- stops -/
def b_stops_613 : List CS := [
    .ex (.call 566 [(.v 0), (.v 1)]),
    .ret (.call 404 [(.call 384 [(.v 0), (.rev true (.v 1))])])]
def f_stops_613 : Fn := ⟨2, 2, true, b_stops_613⟩

/-- law -/
def b_law_465 : List CS := [
    .for .rng1 [(.bi .max2 [(.c (.int 1)), (.bi .min2 [(.bi .len [(.v 0)]), (.c (.int 3))])])] (.n 1) [.blk [1, 2, 3, 4, 5, 6, 7, 8, 9, 10, 11, 12, 13, 14, 15, 16, 17, 18] [
      .asg (.n 2) (.call 202 [(.call 45 [(.v 0), (.v 1)])]),
      .for .rng1 [(.c (.int 2))] (.n 3) [.blk [3, 4, 5, 6, 7, 8, 9, 10, 11, 12, 13, 14, 15, 16, 17, 18] [
        .asg (.n 4) (.call 157 [(.v 2), (.c (.int 5))]),
        .asg (.t [(.n 9), (.n 10)]) (.tup [(.call 96 [(.v 4)]), (.call 258 [(.v 2), (.v 4), (.c (.int 12))])]),
        .asg (.t [(.n 11), (.n 12)]) (.tup [(.call 58 [(.v 2), (.bin (.add true) (.bi .len [(.v 10)]) (.c (.int 1)))]), (.call 58 [(.v 2), (.idx (.v 4) (.c (.int 0)))])]),
        .asg (.n 5) (.call 258 [(.v 2), (.v 4), (.c (.int 14))]),
        .asg (.n 6) (.idx (.lst true [(.bin (.add true) (.bin (.add true) (.v 10) (.v 5)) (.rev true (.v 5))), (.call 258 [(.v 2), (.v 4), (.c (.int 40))])]) (.v 3)),
        .asg (.n 7) (.lst true [(.v 10), (.bin (.add true) (.bin (.add true) (.sl true (.v 10) (.c .non) (.v 11)) (.tup [(.v 12), (.v 12)])) (.sl true (.v 10) (.v 11) (.c .non))), (.rev true (.v 10)), (.tup [])]),
        .for .seq [(.bin (.add true) (.v 7) (.lst true [(.call 180 [(.v 9), (.v 10)]), (.v 6)]))] (.n 8) [.blk [8, 13, 14, 15, 16, 17, 18] [
          .asg (.t [(.n 17), (.n 18)]) (.tup [(.bi .len [(.call 180 [(.v 9), (.v 8)])]), (.bi (.rngL true) [(.idx (.v 4) (.c (.int 0)))])]),
          .asg (.n 13) (.bi .repr [(.tup [(.v 4), (.v 8)])]),
          .asg (.n 14) (.bi (.toTup false) [(.comp true .seq [(.v 18)] (.n 19) [(.cmp .lt (.bi .len [(.call 180 [(.v 9), (.bin (.add true) (.tup [(.v 19)]) (.v 8))])]) (.v 17))] (.v 19) [19])]),
          .asg (.n 15) (.bi (.toTup false) [(.comp true .seq [(.v 18)] (.n 19) [(.cmp .lt (.bi .len [(.call 180 [(.v 9), (.bin (.add true) (.v 8) (.tup [(.v 19)]))])]) (.v 17))] (.v 19) [19])]),
          .for .rng1 [(.c (.int 2))] (.n 16) [.blk [16] [
            .ife (.cmp .ne (.bi .repr [(.lst true [(.call 392 [(.v 4), (.v 8)]), (.call 613 [(.v 4), (.v 8)])])]) (.bi .repr [(.lst true [(.v 14), (.v 15)])])) [
              .ret (.c (.bl false))] []]],
          .ife (.cmp .ne (.bi .repr [(.tup [(.v 4), (.v 8)])]) (.v 13)) [
            .ret (.c (.bl false))] []]]]]]],
    .ret (.c (.bl true))]
def f_law_465 : Fn := ⟨1, 20, true, b_law_465⟩

def top (i : Nat) : Stmt := PySem.Challenge.pw_relieftowns_k35_where_shortest_rows_begi.main.body.getD i (.Pass ⟨0, 0, 0, 0⟩)
def dfs : List Df := ([⟨202, "_law_pen", ["_law_cell_here"], ["_law_cell_here"], f__law_pen_202, top 28⟩, ⟨45, "_law_cell", ["_law_script", "_law_k"], ["_law_script", "_law_k"], f__law_cell_45, top 27⟩, ⟨58, "_law_draw", ["_law_pen_here", "_law_many", "_law_stir", "_law_digit"], ["_law_pen_here", "_law_many"], f__law_draw_58, top 29⟩, ⟨204, "_law_pick", ["_law_pen_here", "_law_things"], ["_law_pen_here", "_law_things"], f__law_pick_204, top 30⟩, ⟨157, "_law_net", ["_law_pen_here", "_law_most", "_law_pairs", "_law_turn", "_law_pair", "_law_many", "_law_found", "_law_one", "_law_town", "_law_given"], ["_law_pen_here", "_law_most"], f__law_net_157, top 31⟩, ⟨258, "_law_row", ["_law_pen_here", "_law_net_here", "_law_most", "_law_found", "_law_turn", "_law_town"], ["_law_pen_here", "_law_net_here", "_law_most"], f__law_row_258, top 32⟩, ⟨96, "_law_gives", ["_law_net_here", "_law_found", "_law_one", "_law_other", "_law_there", "_law_back", "_law_town"], ["_law_net_here"], f__law_gives_96, top 33⟩, ⟨360, "_law_unit", ["_law_many", "_law_town", "_law_other"], ["_law_many", "_law_town"], f__law_unit_360, top 34⟩, ⟨47, "_law_claim", ["_law_gives_here", "_law_claim_here", "_law_town", "_law_found", "_law_carried", "_law_other", "_law_often"], ["_law_gives_here", "_law_claim_here", "_law_town"], f__law_claim_47, top 35⟩, ⟨27, "_law_begins", ["_law_gives_here", "_law_row_here", "_law_found", "_law_town", "_law_claim_here", "_law_other"], ["_law_gives_here", "_law_row_here"], f__law_begins_27, top 36⟩, ⟨206, "_law_place", ["_law_gives_here", "_law_row_here", "_law_town", "_law_claim_here", "_law_place_here", "_law_other"], ["_law_gives_here", "_law_row_here", "_law_town"], f__law_place_206, top 37⟩, ⟨180, "_law_normal", ["_law_gives_here", "_law_row_here", "_law_found", "_law_some", "_law_place_here"], ["_law_gives_here", "_law_row_here"], f__law_normal_180, top 38⟩, ⟨422, "hang_together", ["many", "streets", "found", "lap", "one", "other", "there", "back"], ["many", "streets"], f_hang_together_422, top 11⟩, ⟨389, "are_some", ["thing", "many"], ["thing", "many"], f_are_some_389, top 9⟩, ⟨437, "is_whole", ["thing"], ["thing"], f_is_whole_437, top 7⟩, ⟨428, "is_among", ["thing", "low", "high"], ["thing", "low", "high"], f_is_among_428, top 8⟩, ⟨435, "is_street", ["many", "thing", "given", "town"], ["many", "thing"], f_is_street_435, top 10⟩, ⟨430, "is_net", ["thing", "pairs", "many", "streets", "street", "one", "later"], ["thing"], f_is_net_430, top 12⟩, ⟨562, "need_net", ["thing"], ["thing"], f_need_net_562, top 13⟩, ⟨432, "is_row_by", ["net", "thing", "town"], ["net", "thing"], f_is_row_by_432, top 18⟩, ⟨567, "need_row_by", ["net", "thing"], ["net", "thing"], f_need_row_by_567, top 19⟩, ⟨566, "need_row", ["net", "row"], ["net", "row"], f_need_row_566, top 22⟩, ⟨404, "debts_of", ["purses", "town", "own"], ["purses"], f_debts_of_404, top 20⟩, ⟨621, "turned_by", ["gives", "purses", "town", "found", "other", "often"], ["gives", "purses", "town"], f_turned_by_621, top 16⟩, ⟨583, "played_by", ["gives", "purses", "row", "town"], ["gives", "purses", "row"], f_played_by_583, top 17⟩, ⟨420, "gives_of", ["net", "found", "one", "other", "there", "back", "town", "row"], ["net"], f_gives_of_420, top 14⟩, ⟨384, "ahead_by", ["net", "row"], ["net", "row"], f_ahead_by_384, top 23⟩, ⟨392, "begins", ["net", "row"], ["net", "row"], f_begins_392, top 24⟩, ⟨613, "stops", ["net", "row"], ["net", "row"], f_stops_613, top 25⟩, ⟨465, "law", ["_law_script", "_law_k", "_law_pen_here", "_law_turn", "_law_net_here", "_law_extra", "_law_long", "_law_some", "_law_row_here", "_law_gives_here", "_law_drawn", "_law_at", "_law_town", "_law_kept", "_law_due", "_law_ends", "_law_lap", "_law_many", "_law_towns", "_law_one"], ["_law_script"], f_law_465, top 39⟩] : List Df)
def lw : Lw := ⟨dfs, [("NoNet", 1), ("NoRow", 5)], ["max", "len", "int", "range", "sorted", "tuple", "list", "sum", "min", "enumerate", "isinstance", "bool", "all", "zip", "repr"], [("MOST_GIVEN", .int 3), ("MOST_TOWNS", .int 6)]⟩
noncomputable def s__law_cell_45_x_i (x__law_script : (List Int)) (x__law_k : Int) : X Unit Int := if (decide (x__law_k < (x__law_script.length : Int))) then (X.opt (ixL x__law_script x__law_k) : X Unit _).bind fun v1 => X.ok v1 else X.ok (0 : Int)
theorem c__law_cell_45_x_i (h : Hc) (n : Nat) (x__law_script : (List Int)) (x__law_k : Int) : runF lw.T (n + 1) 45 [D.scr x__law_script, D.int x__law_k] h = rx (s__law_cell_45_x_i x__law_script x__law_k) (fun _ => h) fun v => .ok (D.int v) h := by
  rw [runN (n := n) (F := f__law_cell_45) (by rfl) (by rfl)]
  simp [x_asg, x_seti, x_ex, x_ret, x_retN, x_ife, x_for, x_raise, x_pass, x_brk, x_cont, x_blk, x_nil, x_cons, ev_v, ev_c, ev_tup, ev_lst, ev_dnewT, ev_dnewF, ev_dic, ev_un, ev_bin, ev_cmp, ev_call, ev_bi, ev_idx, ev_rev, evs_nil, evs_cons, evC_nil, evC_one, ev_and, ev_or, ev_cmp2, ev_ite, ev_sl, ev_mt, ev_comp, m_append', idx_ref, in_ref, notin_ref, len_ref, pop1_ref, toTup_ref, sorted_ref, seti_ref, get1_ref, get2_ref, update_ref, getD_oc, add_refL, tidyE_ok, sizeLine_eq, newL, stays, ty_beq, f__law_cell_45, b__law_cell_45, s__law_cell_45_x_i]
noncomputable def s__law_pen_202_i (x__law_cell_here : Int) : X Unit Pen := (X.powI (10 : Int) (18 : Int) : X Unit _).bind fun v1 => (X.modI x__law_cell_here (1000000007 : Int) : X Unit _).bind fun v2 => X.ok ((if (x__law_cell_here - v1) > (0 : Int) then (x__law_cell_here - v1) else (0 : Int)), v2, (0 : Int))
theorem fd__law_pen_202_i_0 : ∀ (a0 a1 a2 : Int), D.lst [D.int a0, D.int a1, D.int a2] = eLst D.int [a0, a1, a2] := by intros; rfl
theorem c__law_pen_202_i (h : Hc) (n : Nat) (x__law_cell_here : Int) : runF lw.T (n + 1) 202 [D.int x__law_cell_here] h = rx (s__law_pen_202_i x__law_cell_here) (fun _ => h) fun v => .ok (.ref h.length) (h ++ [oPen v]) := by
  rw [runN (n := n) (F := f__law_pen_202) (by rfl) (by rfl)]
  simp [x_asg, x_seti, x_ex, x_ret, x_retN, x_ife, x_for, x_raise, x_pass, x_brk, x_cont, x_blk, x_nil, x_cons, ev_v, ev_c, ev_tup, ev_lst, ev_dnewT, ev_dnewF, ev_dic, ev_un, ev_bin, ev_cmp, ev_call, ev_bi, ev_idx, ev_rev, evs_nil, evs_cons, evC_nil, evC_one, ev_and, ev_or, ev_cmp2, ev_ite, ev_sl, ev_mt, ev_comp, m_append', idx_ref, in_ref, notin_ref, len_ref, pop1_ref, toTup_ref, sorted_ref, seti_ref, get1_ref, get2_ref, update_ref, getD_oc, add_refL, tidyE_ok, sizeLine_eq, newL, stays, ty_beq, f__law_pen_202, b__law_pen_202, s__law_pen_202_i, fd__law_pen_202_i_0, oPen, idO, stO, ixD]
noncomputable def s__law_draw_58_p_i (pn : Pen) (x__law_many : Int) : X Pen (Int × Pen) := if (decide ((0 : Int) < pn.1)) then (X.modI pn.1 x__law_many : X Pen _).bind fun v1 => (X.fdivI pn.1 x__law_many : X Pen _).bind fun v2 => X.ok (v1, (v2, pn.2.1, pn.2.2)) else (X.mulI (17 : Int) ((pn.1, pn.2.1, (pn.2.2 + (1 : Int))).2.2) : X Pen _).bind fun v3 => (X.mulI (2 : Int) ((pn.1, pn.2.1, (pn.2.2 + (1 : Int))).2.2) : X Pen _).bind fun v4 => (X.mulI ((pn.1, pn.2.1, (pn.2.2 + (1 : Int))).2.1 + v3) ((69621 : Int) + v4) : X Pen _).bind fun v5 => (X.modI v5 (2147483647 : Int) : X Pen _).bind fun v6 => (X.mulI v6 v6 : X Pen _).bind fun v7 => (X.mulI (40503 : Int) ((pn.1, pn.2.1, (pn.2.2 + (1 : Int))).2.2) : X Pen _).bind fun v8 => (X.modI ((v7 + v8) + (5 : Int)) (2147483629 : Int) : X Pen _).bind fun v9 => (X.mulI v9 (48271 : Int) : X Pen _).bind fun v10 => (X.modI v10 (2147483647 : Int) : X Pen _).bind fun v11 => (X.fdivI v11 (32 : Int) : X Pen _).bind fun v12 => (X.modI v12 x__law_many : X Pen _).bind fun v13 => X.ok (v13, (pn.1, pn.2.1, (pn.2.2 + (1 : Int))))
theorem k__law_draw_58_p_i (h : Hc) (p : Nat) (pn : Pen) (hp : p < h.length) (n : Nat) (x__law_many : Int) : runF lw.T (n + 1) 58 [.ref p, D.int x__law_many] (h.set p (oPen pn)) = rx (s__law_draw_58_p_i pn x__law_many) (fun pn => h.set p (oPen pn)) fun r => .ok (D.int r.1) (h.set p (oPen r.2)) := by
  rw [runN (n := n) (F := f__law_draw_58) (by rfl) (by rfl)]
  simp [x_asg, x_seti, x_ex, x_ret, x_retN, x_ife, x_for, x_raise, x_pass, x_brk, x_cont, x_blk, x_nil, x_cons, ev_v, ev_c, ev_tup, ev_lst, ev_dnewT, ev_dnewF, ev_dic, ev_un, ev_bin, ev_cmp, ev_call, ev_bi, ev_idx, ev_rev, evs_nil, evs_cons, evC_nil, evC_one, ev_and, ev_or, ev_cmp2, ev_ite, ev_sl, ev_mt, ev_comp, m_append', idx_ref, in_ref, notin_ref, len_ref, pop1_ref, toTup_ref, sorted_ref, seti_ref, get1_ref, get2_ref, update_ref, getD_oc, add_refL, tidyE_ok, sizeLine_eq, newL, stays, ty_beq, f__law_draw_58, b__law_draw_58, s__law_draw_58_p_i, get_pen hp, get_penL hp, set_penL hp, ref_pen hp, hp, oPen, idO, stO, ixD]
theorem c__law_draw_58_p_i (H : Hc) (p : Nat) (hp : isPen H[p]? = true) (n : Nat) (x__law_many : Int) : runF lw.T (n + 1) 58 [.ref p, D.int x__law_many] H = rx (s__law_draw_58_p_i (penO H[p]?) x__law_many) (fun pn => H.set p (oPen pn)) fun r => .ok (D.int r.1) (H.set p (oPen r.2)) :=
  pen_call (g := fun pn => s__law_draw_58_p_i pn x__law_many) (rest := [D.int x__law_many]) (fun h p pn hp => k__law_draw_58_p_i h p pn hp n x__law_many) H p hp
noncomputable def s__law_pick_204_p_lt2ii (pn : Pen) (x__law_things : (List (Int × Int))) : X Pen ((Int × Int) × Pen) := (s__law_draw_58_p_i pn (x__law_things.length : Int)).bind fun v1 => (X.opt (ixL x__law_things v1.1) : X Pen _).bind fun v2 => X.ok (v2, v1.2)
theorem k__law_pick_204_p_lt2ii (h : Hc) (p : Nat) (pn : Pen) (hp : p < h.length) (n : Nat) (x__law_things : (List (Int × Int))) : runF lw.T (n + 2) 204 [.ref p, (eLst (e2 D.int D.int)) x__law_things] (h.set p (oPen pn)) = rx (s__law_pick_204_p_lt2ii pn x__law_things) (fun pn => h.set p (oPen pn)) fun r => .ok ((e2 D.int D.int) r.1) (h.set p (oPen r.2)) := by
  rw [runN (n := n + 1) (F := f__law_pick_204) (by rfl) (by rfl)]
  simp [x_asg, x_seti, x_ex, x_ret, x_retN, x_ife, x_for, x_raise, x_pass, x_brk, x_cont, x_blk, x_nil, x_cons, ev_v, ev_c, ev_tup, ev_lst, ev_dnewT, ev_dnewF, ev_dic, ev_un, ev_bin, ev_cmp, ev_call, ev_bi, ev_idx, ev_rev, evs_nil, evs_cons, evC_nil, evC_one, ev_and, ev_or, ev_cmp2, ev_ite, ev_sl, ev_mt, ev_comp, m_append', idx_ref, in_ref, notin_ref, len_ref, pop1_ref, toTup_ref, sorted_ref, seti_ref, get1_ref, get2_ref, update_ref, getD_oc, add_refL, tidyE_ok, sizeLine_eq, newL, stays, ty_beq, f__law_pick_204, b__law_pick_204, s__law_pick_204_p_lt2ii, c__law_draw_58_p_i, get_pen hp, get_penL hp, set_penL hp, ref_pen hp, hp]
theorem c__law_pick_204_p_lt2ii (H : Hc) (p : Nat) (hp : isPen H[p]? = true) (n : Nat) (x__law_things : (List (Int × Int))) : runF lw.T (n + 2) 204 [.ref p, (eLst (e2 D.int D.int)) x__law_things] H = rx (s__law_pick_204_p_lt2ii (penO H[p]?) x__law_things) (fun pn => H.set p (oPen pn)) fun r => .ok ((e2 D.int D.int) r.1) (H.set p (oPen r.2)) :=
  pen_call (g := fun pn => s__law_pick_204_p_lt2ii pn x__law_things) (rest := [(eLst (e2 D.int D.int)) x__law_things]) (fun h p pn hp => k__law_pick_204_p_lt2ii h p pn hp n x__law_things) H p hp
noncomputable def s__law_net_157_p_i_c1 (o_0 : (List ((Int × Int) × (Int × Int)))) (a : Int) (s : Pen) : X Pen (Option (Int × Int) × Pen) := (s__law_draw_58_p_i s a).bind fun v1 => X.ok (some (v1.1, a), v1.2)
noncomputable def s__law_net_157_p_i_l2 (x__law_many : Int) (o_0 : (List ((Int × Int) × (Int × Int)))) (a : Int) (s : (List (Int × Int)) × Pen) : X Pen ((List (Int × Int)) × Pen) := (s__law_draw_58_p_i s.2 (x__law_many - (1 : Int))).bind fun v1 => (s__law_draw_58_p_i v1.2 ((x__law_many - (1 : Int)) - v1.1)).bind fun v2 => (X.push s.1 (v1.1, ((v1.1 + (1 : Int)) + v2.1)) : X Pen _).bind fun v3 => X.ok (v3, v2.2)
noncomputable def s__law_net_157_p_i_l3 (o_1 : (List (Int × Int))) (a : (Int × Int)) (s : (List ((Int × Int) × (Int × Int))) × Pen) : X Pen ((List ((Int × Int) × (Int × Int))) × Pen) := (X.mulL [((1 : Int), (1 : Int))] (6 : Int) : X Pen _).bind fun v1 => (X.addL v1 [((1 : Int), (2 : Int)), ((2 : Int), (1 : Int)), ((1 : Int), (3 : Int)), ((3 : Int), (1 : Int))] : X Pen _).bind fun v2 => (s__law_pick_204_p_lt2ii s.2 v2).bind fun v3 => (X.put s.1 a v3.1 : X Pen _).bind fun v4 => X.ok (v4, v3.2)
noncomputable def s__law_net_157_p_i_c4 (o_0 : (List ((Int × Int) × (Int × Int)))) (o_1 : (List (Int × Int))) (pn : Pen) (a : ((Int × Int) × (Int × Int))) : X Pen (Option (Int × Int × Int × Int)) := X.ok (some (a.1.1, a.1.2, a.2.1, a.2.2))
noncomputable def s__law_net_157_p_i (pn : Pen) (x__law_most : Int) : X Pen ((Int × (List (Int × Int × Int × Int))) × Pen) := (s__law_draw_58_p_i pn x__law_most).bind fun v1 => (X.opt (rng (1 : Int) ((1 : Int) + v1.1)) : X Pen _).bind fun v2 => ((compX (s__law_net_157_p_i_c1 []) v2 [] v1.2).nox : X Pen _).bind fun v4 => (s__law_draw_58_p_i v4.2 (3 : Int)).bind fun v5 => (X.mulI v5.1 (if (decide ((2 : Int) < ((1 : Int) + v1.1))) then (1 : Int) else 0) : X Pen _).bind fun v6 => (X.opt (rng (0 : Int) v6) : X Pen _).bind fun v7 => (foldX (s__law_net_157_p_i_l2 ((1 : Int) + v1.1) []) v7 (v4.1, v5.2)).bind fun v11 => (foldX (s__law_net_157_p_i_l3 v11.1) v11.1 ([], v11.2)).bind fun v16 => ((compP (s__law_net_157_p_i_c4 v16.1 v11.1 v16.2) v16.1 []).nox : X Pen _).bind fun v17 => X.ok ((((1 : Int) + v1.1), (sortL ltI4 v17)), v16.2)
theorem fd__law_net_157_p_i_0 : ∀ (fr : Bool) (t : (Int × Int)) (u : (Int × Int)) (h : Hc), prim2 (.add fr) ((e2 D.int D.int) t) ((e2 D.int D.int) u) h = .ok ((e4 D.int D.int D.int D.int) (t.1, t.2, u.1, u.2)) h := by intros; simp [prim2, e2, e3, e4, sizeLine_eq]
theorem fd__law_net_157_p_i_1 : O.dt [] = oMt (e2 D.int D.int) (e2 D.int D.int) [] := by intros; rfl
theorem fd__law_net_157_p_i_2 : ∀ (a0 : (Int × Int)), D.lst [(e2 D.int D.int) a0] = eLst (e2 D.int D.int) [a0] := by intros; rfl
theorem fd__law_net_157_p_i_3 : ∀ (a0 a1 a2 a3 : (Int × Int)), D.lst [(e2 D.int D.int) a0, (e2 D.int D.int) a1, (e2 D.int D.int) a2, (e2 D.int D.int) a3] = eLst (e2 D.int D.int) [a0, a1, a2, a3] := by intros; rfl
theorem fd__law_net_157_p_i_4 : ∀ (a0 : Int) (a1 : Int), D.tup [D.int a0, D.int a1] = (e2 D.int D.int) (a0, a1) := by intros; rfl
theorem fd__law_net_157_p_i_5 : ∀ (a0 : Int) (a1 : (List (Int × Int × Int × Int))), D.tup [D.int a0, (eTup (e4 D.int D.int D.int D.int)) a1] = (e2 D.int (eTup (e4 D.int D.int D.int D.int))) (a0, a1) := by intros; rfl
theorem q__law_net_157_p_i_c1 (h : Hc) (p : Nat) (hp : p < h.length) (n : Nat) (o_0 : (List ((Int × Int) × (Int × Int)))) (w_1 : Option D) (w_5 : Option D) (pn : Pen) (items : List Int) :
  compL (.n 8) [] (h.length + 1) [some (.ref p), w_1, none, none, none, w_5, some (.ref (h.length)), none, none, none] (evC (runF lw.T (n + 2)) []) (ev (runF lw.T (n + 2)) (.tup [(.call 58 [(.v 0), (.v 8)]), (.v 8)])) (mapD D.int items) (h.set p (oPen pn) ++ [oMt (e2 D.int D.int) (e2 D.int D.int) o_0, .hl []]) =
  rn (compX (s__law_net_157_p_i_c1 o_0) items [] pn) fun r => .ok (r.1.map (e2 D.int D.int)) (h.set p (oPen r.2) ++ [oMt (e2 D.int D.int) (e2 D.int D.int) o_0, .hl (r.1.map (e2 D.int D.int))]) := by
  refine comp_st (σ := Pen) (fun s acc => h.set p (oPen s) ++ [oMt (e2 D.int D.int) (e2 D.int D.int) o_0, .hl acc]) (s__law_net_157_p_i_c1 o_0) ?_ ?_ ?_ ?_ items pn
  · intro s acc; simp [get_pen hp, get_penL hp, set_penL hp, ref_pen hp, hp]
  · intro s acc acc2; simp [get_pen hp, get_penL hp, set_penL hp, ref_pen hp, hp]
  · intro s acc; simp [stays, get_pen hp, get_penL hp, set_penL hp, ref_pen hp, hp]
  · intro a s acc
    simp [x_asg, x_seti, x_ex, x_ret, x_retN, x_ife, x_for, x_raise, x_pass, x_brk, x_cont, x_blk, x_nil, x_cons, ev_v, ev_c, ev_tup, ev_lst, ev_dnewT, ev_dnewF, ev_dic, ev_un, ev_bin, ev_cmp, ev_call, ev_bi, ev_idx, ev_rev, evs_nil, evs_cons, evC_nil, evC_one, ev_and, ev_or, ev_cmp2, ev_ite, ev_sl, ev_mt, ev_comp, m_append', idx_ref, in_ref, notin_ref, len_ref, pop1_ref, toTup_ref, sorted_ref, seti_ref, get1_ref, get2_ref, update_ref, getD_oc, add_refL, tidyE_ok, sizeLine_eq, newL, stays, ty_beq, s__law_net_157_p_i_c1, fd__law_net_157_p_i_0, fd__law_net_157_p_i_1, fd__law_net_157_p_i_2, fd__law_net_157_p_i_3, fd__law_net_157_p_i_4, fd__law_net_157_p_i_5, c__law_draw_58_p_i, c__law_pick_204_p_lt2ii, get_pen hp, get_penL hp, set_penL hp, ref_pen hp, hp]
theorem q__law_net_157_p_i_l2 (h : Hc) (p : Nat) (hp : p < h.length) (pn0 : Pen) (n : Nat) (x__law_many : Int) (o_0 : (List ((Int × Int) × (Int × Int)))) (o_1 : (List (Int × Int))) (pn : Pen) (w_1 : Option D) (hw_1 : flatW w_1 = true) (items : List Int) :
  forL (.n 3) [] (bodyN (h.set p (oPen pn0)) (runF lw.T (n + 2)) [.blk [3, 7] [
  .asg (.n 7) (.call 58 [(.v 0), (.bin .sub (.v 5) (.c (.int 1)))]),
  .ex (.mt .append (.v 2) [(.tup [(.v 7), (.bin (.add true) (.bin (.add true) (.v 7) (.c (.int 1))) (.call 58 [(.v 0), (.bin .sub (.bin .sub (.v 5) (.c (.int 1))) (.v 7))]))])])]]) (mapD D.int items) [some (.ref p), w_1, some (.ref (h.length + 1)), none, none, some (D.int x__law_many), some (.ref (h.length)), none, none, none] (h.set p (oPen pn) ++ [oMt (e2 D.int D.int) (e2 D.int D.int) o_0, oLst (e2 D.int D.int) o_1]) =
  sx (foldX (s__law_net_157_p_i_l2 x__law_many o_0) items (o_1, pn)) (fun pn => h.set p (oPen pn)) fun s => .nx [some (.ref p), w_1, some (.ref (h.length + 1)), none, none, some (D.int x__law_many), some (.ref (h.length)), none, none, none] (h.set p (oPen s.2) ++ [oMt (e2 D.int D.int) (e2 D.int D.int) o_0, oLst (e2 D.int D.int) s.1]) := by
  refine for_fold (σ := (List (Int × Int)) × Pen) (fun s => [some (.ref p), w_1, some (.ref (h.length + 1)), none, none, some (D.int x__law_many), some (.ref (h.length)), none, none, none]) (fun s => h.set p (oPen s.2) ++ [oMt (e2 D.int D.int) (e2 D.int D.int) o_0, oLst (e2 D.int D.int) s.1]) (fun pn => h.set p (oPen pn)) (s__law_net_157_p_i_l2 x__law_many o_0) ?_ ?_ items (o_1, pn)
  · intro s; simp [stays, get_pen hp, get_penL hp, set_penL hp, ref_pen hp, hp]
  · intro a s
    unfold bodyN
    simp [x_asg, x_seti, x_ex, x_ret, x_retN, x_ife, x_for, x_raise, x_pass, x_brk, x_cont, x_blk, x_nil, x_cons, ev_v, ev_c, ev_tup, ev_lst, ev_dnewT, ev_dnewF, ev_dic, ev_un, ev_bin, ev_cmp, ev_call, ev_bi, ev_idx, ev_rev, evs_nil, evs_cons, evC_nil, evC_one, ev_and, ev_or, ev_cmp2, ev_ite, ev_sl, ev_mt, ev_comp, m_append', idx_ref, in_ref, notin_ref, len_ref, pop1_ref, toTup_ref, sorted_ref, seti_ref, get1_ref, get2_ref, update_ref, getD_oc, add_refL, tidyE_ok, sizeLine_eq, newL, stays, ty_beq, s__law_net_157_p_i_l2, fd__law_net_157_p_i_0, fd__law_net_157_p_i_1, fd__law_net_157_p_i_2, fd__law_net_157_p_i_3, fd__law_net_157_p_i_4, fd__law_net_157_p_i_5, c__law_draw_58_p_i, c__law_pick_204_p_lt2ii, q__law_net_157_p_i_c1, get_pen hp, get_penL hp, set_penL hp, ref_pen hp, hp, envOld_w hw_1, hw_1]
theorem q__law_net_157_p_i_l3 (h : Hc) (p : Nat) (hp : p < h.length) (pn0 : Pen) (n : Nat) (o_1 : (List (Int × Int))) (o_0 : (List ((Int × Int) × (Int × Int)))) (pn : Pen) (w_1 : Option D) (hw_1 : flatW w_1 = true) (w_5 : Option D) (hw_5 : flatW w_5 = true) (items : List (Int × Int)) :
  forL (.n 4) [(h.length + 1, oLst (e2 D.int D.int) o_1)] (bodyN (h.set p (oPen pn0)) (runF lw.T (n + 2)) [.blk [4] [
  .seti (.v 6) (.v 4) (.call 204 [(.v 0), (.bin (.add true) (.bin (.mul true) (.lst true [(.tup [(.c (.int 1)), (.c (.int 1))])]) (.c (.int 6))) (.lst true [(.tup [(.c (.int 1)), (.c (.int 2))]), (.tup [(.c (.int 2)), (.c (.int 1))]), (.tup [(.c (.int 1)), (.c (.int 3))]), (.tup [(.c (.int 3)), (.c (.int 1))])]))])]]) (mapD (e2 D.int D.int) items) [some (.ref p), w_1, some (.ref (h.length + 1)), none, none, w_5, some (.ref (h.length)), none, none, none] (h.set p (oPen pn) ++ [oMt (e2 D.int D.int) (e2 D.int D.int) o_0, oLst (e2 D.int D.int) o_1]) =
  sx (foldX (s__law_net_157_p_i_l3 o_1) items (o_0, pn)) (fun pn => h.set p (oPen pn)) fun s => .nx [some (.ref p), w_1, some (.ref (h.length + 1)), none, none, w_5, some (.ref (h.length)), none, none, none] (h.set p (oPen s.2) ++ [oMt (e2 D.int D.int) (e2 D.int D.int) s.1, oLst (e2 D.int D.int) o_1]) := by
  refine for_fold (σ := (List ((Int × Int) × (Int × Int))) × Pen) (fun s => [some (.ref p), w_1, some (.ref (h.length + 1)), none, none, w_5, some (.ref (h.length)), none, none, none]) (fun s => h.set p (oPen s.2) ++ [oMt (e2 D.int D.int) (e2 D.int D.int) s.1, oLst (e2 D.int D.int) o_1]) (fun pn => h.set p (oPen pn)) (s__law_net_157_p_i_l3 o_1) ?_ ?_ items (o_0, pn)
  · intro s; simp [stays, get_pen hp, get_penL hp, set_penL hp, ref_pen hp, hp]
  · intro a s
    unfold bodyN
    simp [x_asg, x_seti, x_ex, x_ret, x_retN, x_ife, x_for, x_raise, x_pass, x_brk, x_cont, x_blk, x_nil, x_cons, ev_v, ev_c, ev_tup, ev_lst, ev_dnewT, ev_dnewF, ev_dic, ev_un, ev_bin, ev_cmp, ev_call, ev_bi, ev_idx, ev_rev, evs_nil, evs_cons, evC_nil, evC_one, ev_and, ev_or, ev_cmp2, ev_ite, ev_sl, ev_mt, ev_comp, m_append', idx_ref, in_ref, notin_ref, len_ref, pop1_ref, toTup_ref, sorted_ref, seti_ref, get1_ref, get2_ref, update_ref, getD_oc, add_refL, tidyE_ok, sizeLine_eq, newL, stays, ty_beq, s__law_net_157_p_i_l3, fd__law_net_157_p_i_0, fd__law_net_157_p_i_1, fd__law_net_157_p_i_2, fd__law_net_157_p_i_3, fd__law_net_157_p_i_4, fd__law_net_157_p_i_5, c__law_draw_58_p_i, c__law_pick_204_p_lt2ii, q__law_net_157_p_i_c1, q__law_net_157_p_i_l2, get_pen hp, get_penL hp, set_penL hp, ref_pen hp, hp, envOld_w hw_1, hw_1, envOld_w hw_5, hw_5]
theorem q__law_net_157_p_i_c4 (h : Hc) (p : Nat) (hp : p < h.length) (n : Nat) (o_0 : (List ((Int × Int) × (Int × Int)))) (o_1 : (List (Int × Int))) (pn : Pen) (w_1 : Option D) (w_5 : Option D) (items : List ((Int × Int) × (Int × Int))) :
  compL (.t [(.n 4), (.n 9)]) [(h.length, oWt (e2 D.int D.int) (e2 D.int D.int) o_0)] (h.length + 2) [some (.ref p), w_1, some (.ref (h.length + 1)), none, none, w_5, some (.ref (h.length)), none, none, none] (evC (runF lw.T (n + 2)) []) (ev (runF lw.T (n + 2)) (.bin (.add true) (.v 4) (.v 9))) (mapD (e2 (e2 D.int D.int) (e2 D.int D.int)) items) (h.set p (oPen pn) ++ [oWt (e2 D.int D.int) (e2 D.int D.int) o_0, oLst (e2 D.int D.int) o_1, .hl []]) =
  rn (compP (s__law_net_157_p_i_c4 o_0 o_1 pn) items []) fun r => .ok (r.map (e4 D.int D.int D.int D.int)) (h.set p (oPen pn) ++ [oWt (e2 D.int D.int) (e2 D.int D.int) o_0, oLst (e2 D.int D.int) o_1, .hl (r.map (e4 D.int D.int D.int D.int))]) := by
  refine comp_pu (fun acc => h.set p (oPen pn) ++ [oWt (e2 D.int D.int) (e2 D.int D.int) o_0, oLst (e2 D.int D.int) o_1, .hl acc]) (s__law_net_157_p_i_c4 o_0 o_1 pn) ?_ ?_ ?_ ?_ items
  · intro acc; simp [get_pen hp, get_penL hp, set_penL hp, ref_pen hp, hp]
  · intro acc acc2; simp [get_pen hp, get_penL hp, set_penL hp, ref_pen hp, hp]
  · intro acc; simp [stays, get_pen hp, get_penL hp, set_penL hp, ref_pen hp, hp]
  · intro a acc
    simp [x_asg, x_seti, x_ex, x_ret, x_retN, x_ife, x_for, x_raise, x_pass, x_brk, x_cont, x_blk, x_nil, x_cons, ev_v, ev_c, ev_tup, ev_lst, ev_dnewT, ev_dnewF, ev_dic, ev_un, ev_bin, ev_cmp, ev_call, ev_bi, ev_idx, ev_rev, evs_nil, evs_cons, evC_nil, evC_one, ev_and, ev_or, ev_cmp2, ev_ite, ev_sl, ev_mt, ev_comp, m_append', idx_ref, in_ref, notin_ref, len_ref, pop1_ref, toTup_ref, sorted_ref, seti_ref, get1_ref, get2_ref, update_ref, getD_oc, add_refL, tidyE_ok, sizeLine_eq, newL, stays, ty_beq, s__law_net_157_p_i_c4, fd__law_net_157_p_i_0, fd__law_net_157_p_i_1, fd__law_net_157_p_i_2, fd__law_net_157_p_i_3, fd__law_net_157_p_i_4, fd__law_net_157_p_i_5, c__law_draw_58_p_i, c__law_pick_204_p_lt2ii, q__law_net_157_p_i_c1, q__law_net_157_p_i_l2, q__law_net_157_p_i_l3, get_pen hp, get_penL hp, set_penL hp, ref_pen hp, hp]
theorem k__law_net_157_p_i (h : Hc) (p : Nat) (pn : Pen) (hp : p < h.length) (n : Nat) (x__law_most : Int) : runF lw.T (n + 3) 157 [.ref p, D.int x__law_most] (h.set p (oPen pn)) = rx (s__law_net_157_p_i pn x__law_most) (fun pn => h.set p (oPen pn)) fun r => .ok ((e2 D.int (eTup (e4 D.int D.int D.int D.int))) r.1) (h.set p (oPen r.2)) := by
  rw [runN (n := n + 2) (F := f__law_net_157) (by rfl) (by rfl)]
  simp [x_asg, x_seti, x_ex, x_ret, x_retN, x_ife, x_for, x_raise, x_pass, x_brk, x_cont, x_blk, x_nil, x_cons, ev_v, ev_c, ev_tup, ev_lst, ev_dnewT, ev_dnewF, ev_dic, ev_un, ev_bin, ev_cmp, ev_call, ev_bi, ev_idx, ev_rev, evs_nil, evs_cons, evC_nil, evC_one, ev_and, ev_or, ev_cmp2, ev_ite, ev_sl, ev_mt, ev_comp, m_append', idx_ref, in_ref, notin_ref, len_ref, pop1_ref, toTup_ref, sorted_ref, seti_ref, get1_ref, get2_ref, update_ref, getD_oc, add_refL, tidyE_ok, sizeLine_eq, newL, stays, ty_beq, f__law_net_157, b__law_net_157, s__law_net_157_p_i, fd__law_net_157_p_i_0, fd__law_net_157_p_i_1, fd__law_net_157_p_i_2, fd__law_net_157_p_i_3, fd__law_net_157_p_i_4, fd__law_net_157_p_i_5, c__law_draw_58_p_i, c__law_pick_204_p_lt2ii, q__law_net_157_p_i_c1, q__law_net_157_p_i_l2, q__law_net_157_p_i_l3, q__law_net_157_p_i_c4, get_pen hp, get_penL hp, set_penL hp, ref_pen hp, hp]
theorem c__law_net_157_p_i (H : Hc) (p : Nat) (hp : isPen H[p]? = true) (n : Nat) (x__law_most : Int) : runF lw.T (n + 3) 157 [.ref p, D.int x__law_most] H = rx (s__law_net_157_p_i (penO H[p]?) x__law_most) (fun pn => H.set p (oPen pn)) fun r => .ok ((e2 D.int (eTup (e4 D.int D.int D.int D.int))) r.1) (H.set p (oPen r.2)) :=
  pen_call (g := fun pn => s__law_net_157_p_i pn x__law_most) (rest := [D.int x__law_most]) (fun h p pn hp => k__law_net_157_p_i h p pn hp n x__law_most) H p hp
noncomputable def s__law_gives_96_net_l1 (a : Int × Int × Int × Int) (s : List (List (Int × Int))) : X Unit (List (List (Int × Int))) := (X.opt (ixL s a.1) : X Unit _).bind fun v1 => (X.put v1 a.2.1 a.2.2.1 : X Unit _).bind fun v2 => (X.opt (setL s a.1 v2) : X Unit _).bind fun s => (X.opt (ixL s a.2.1) : X Unit _).bind fun v3 => (X.put v3 a.1 a.2.2.2 : X Unit _).bind fun v4 => X.opt (setL s a.2.1 v4)
noncomputable def s__law_gives_96_net (x_net : Int × List (Int × Int × Int × Int)) : X Unit (List (List (Int × Int))) := (X.opt (rng 0 x_net.1) : X Unit _).bind fun v1 => if v1.length ≤ sizeLine then (foldX s__law_gives_96_net_l1 x_net.2 (List.replicate v1.length [])) else .bad
/-- the heap within _law_gives: the outer list, the dicts -/
def gwH (h : Hc) (rows : List (List (Int × Int))) : Hc := h ++ .lst ((List.range rows.length).map fun j => D.ref (h.length + 1 + j)) :: rows.map (oMk D.int D.int)
theorem gwH_0 (h : Hc) (rows) : (gwH h rows)[h.length]? = some (.lst ((List.range rows.length).map fun j => D.ref (h.length + 1 + j))) := by simp [gwH]
theorem gwH_j (h : Hc) (rows) (j : Nat) : (gwH h rows)[h.length + 1 + j]? = (rows[j]?).map (oMk D.int D.int) := by
  unfold gwH
  rw [Nat.add_assoc, get_app, Nat.add_comm 1 j, List.getElem?_cons_succ, List.getElem?_map]
theorem gwH_set (h : Hc) (rows : List (List (Int × Int))) (j : Nat) (row : List (Int × Int)) : (gwH h rows).set (h.length + 1 + j) (oMk D.int D.int row) = gwH h (rows.set j row) := by
  unfold gwH
  rw [Nat.add_assoc, set_app, Nat.add_comm 1 j, List.set_cons_succ, List.map_set, List.length_set]
theorem gwH_len (h : Hc) (r : List (List (Int × Int))) : (gwH h r).length = h.length + 1 + r.length := by simp [gwH]; omega
theorem gw_lt {n : Nat} {i : Int} {j : Nat} (hi : ixD n i = some j) : j < n := by
  unfold ixD at hi
  split at hi
  · split at hi
    · cases hi; omega
    · cases hi
  · split at hi
    · cases hi; omega
    · cases hi
theorem gw_idx (h : Hc) (rows : List (List (Int × Int))) (i : Int) : prim2 .idx (.ref h.length) (.int i) (gwH h rows) = ro (ixD rows.length i) fun j => .ok (.ref (h.length + 1 + j)) (gwH h rows) := by
  rw [idx_ref, gwH_0]
  simp only [idO, List.length_map, List.length_range]
  cases hi : ixD rows.length i with
  | none => rfl
  | some j => simp [gw_lt hi]
theorem gw_set (b0 h : Hc) (i k : Int) (v : Int) (r : List (List (Int × Int))) (ρ : Env) : ((ro (ixD r.length i) fun j => R.ok (D.ref (h.length + 1 + j)) (gwH h r)).stM b0 fun d H => setS (setItem d (.int k) (.int v) H) ρ) =
      so (ixL r i) fun row => if row.length < sizeLine then so (setL r i (putA row k v)) fun r => .nx ρ (gwH h r) else .bad := by
  unfold ixL setL
  cases hi : ixD r.length i with
  | none => rfl
  | some j =>
    have hj : j < r.length := gw_lt hi
    have e1 : r[j]? = some r[j] := List.getElem?_eq_getElem hj
    have e2 := stO_k D.int D.int r[j] k v fun o => .nx ρ ((gwH h r).set (h.length + 1 + j) o)
    simp only [ro_some, stM_ok, seti_ref, gwH_j, e1, Option.map_some, Option.bind_some, so_some]
    rw [e2, gwH_set]
theorem gw_comp (h : Hc) (n : Nat) (w_0 : Option D) (items : List Int) : compL (.n 6) [] h.length [w_0, none, none, none, none, none, none] (evC (runF lw.T n) []) (ev (runF lw.T n) (.dnew false)) (mapD D.int items) (h ++ [.hl []]) =
    if items.length ≤ sizeLine then .ok ((List.range items.length).map fun j => D.ref (h.length + 1 + j)) (h ++ .hl ((List.range items.length).map fun j => D.ref (h.length + 1 + j)) :: List.replicate items.length (O.dk [])) else .bad := by
  have h1 := comp_st (σ := Nat) (ε := Unit) (g := []) (n := h.length) (oe := fun j : Nat => D.ref (h.length + 1 + j)) (tg := .n 6) (ρ := [w_0, none, none, none, none, none, none]) (c := evC (runF lw.T n) []) (e := ev (runF lw.T n) (.dnew false)) (ie := D.int) (fun s acc => h ++ .hl acc :: List.replicate s (O.dk [])) (fun _ s => .ok (some s, s + 1)) (by intro s acc; simp) (by intro s acc acc2; simp) (by intro s acc; simp [stays]) (by
    intro a s acc
    simp [evC_nil, ev_dnewF, Nat.add_assoc, Nat.add_comm]
    exact ⟨by omega, List.replicate_succ'.symm⟩) items 0
  have h2 : ∀ (its : List Int) (acc : List Nat) (s : Nat), acc.length = s → acc = List.range s → (compX (ε := Unit) (fun (_ : Int) s => .ok (some s, s + 1)) its acc s) = if acc.length + its.length ≤ sizeLine ∨ its = [] then .ok (List.range (s + its.length), s + its.length) else .bad := by
    intro its
    induction its with
    | nil => intro acc s _ e2; simp [compX, e2]
    | cons a as ih =>
      intro acc s e1 e2
      simp only [compX, X.bind_ok]
      by_cases hl : acc.length < sizeLine
      · rw [if_pos hl, ih (acc ++ [s]) (s + 1) (by simp [e1]) (by rw [e2, List.range_succ])]
        simp only [List.length_append, List.length_cons, List.length_nil, Nat.zero_add, List.cons_ne_nil, or_false]
        by_cases ha : as = []
        · subst ha
          simp
          omega
        · simp only [ha, or_false]
          have e3 : s + 1 + as.length = s + (as.length + 1) := by omega
          have e4 : acc.length + 1 + as.length = acc.length + (as.length + 1) := by omega
          rw [e3, e4]
      · rw [if_neg hl, if_neg]
        simp
        omega
  rw [h2 items [] 0 rfl rfl] at h1
  simp only [List.replicate_zero, List.length_nil, Nat.zero_add] at h1
  rw [h1]
  by_cases hi : items = []
  · subst hi
    simp [rn]
  · simp only [hi, or_false]
    split <;> rfl
theorem gw_step (b0 h : Hc) (n : Nat) (w_0 : Option D) (hw_0 : flatW w_0 = true) (a : Int × Int × Int × Int) (rows : List (List (Int × Int))) :
    bindS (bindT (.t [.n 2, .n 3, .n 4, .n 5]) (e4 D.int D.int D.int D.int a) [w_0, some (.ref h.length), none, none, none, none, none]) (fun ρ => bodyN b0 (runF lw.T n) [.blk [2, 3, 4, 5] [.seti (.idx (.v 1) (.v 2)) (.v 3) (.v 4), .seti (.idx (.v 1) (.v 3)) (.v 2) (.v 5)]] ρ (gwH h rows)) =
    sx (s__law_gives_96_net_l1 a rows) (fun (_ : Unit) => b0) fun rows => .nx [w_0, some (.ref h.length), none, none, none, none, none] (gwH h rows) := by
  have hset : ∀ (r r' : List (List (Int × Int))) (i : Int) (x : List (Int × Int)), setL r i x = some r' → r'.length = r.length := fun r r' i x e => by
    unfold setL at e
    cases hi : ixD r.length i with
    | none => rw [hi] at e; cases e
    | some k => rw [hi] at e; cases e; simp
  have kp : ∀ r r' : List (List (Int × Int)), r'.length = r.length → kept (gwH h r) (gwH h r') = true := fun r r' e => by
    unfold kept
    simp only [gwH_len, e, Nat.le_refl, decide_true, Bool.true_and, List.all_eq_true, List.mem_range, Bool.or_eq_true, decide_eq_true_eq]
    intro i hi
    by_cases h1 : i < h.length
    · left
      simp [gwH, List.getElem?_append_left h1]
    · by_cases h2 : i = h.length
      · subst h2
        left
        rw [gwH_0, gwH_0, e]
      · right
        obtain ⟨j, rfl⟩ : ∃ j, i = h.length + 1 + j := ⟨i - h.length - 1, by omega⟩
        have hj : j < r'.length := by omega
        rw [gwH_j, List.getElem?_eq_getElem hj]
        simp only [Option.map_some]
        exact O.flat_old _ (by simp)
  have tk : ∀ r r' : List (List (Int × Int)), r'.length = r.length → (gwH h r').take (gwH h r).length = gwH h r' := fun r r' e => by
    rw [gwH_len, ← e, ← gwH_len, List.take_length]
  unfold bodyN
  have fin2 : ∀ r r' : List (List (Int × Int)), r'.length = r.length → tidyS [2, 3, 4, 5] (gwH h r) (.nx [w_0, some (.ref h.length), some (.int a.1), some (.int a.2.1), some (.int a.2.2.1), some (.int a.2.2.2), none] (gwH h r')) = .nx [w_0, some (.ref h.length), none, none, none, none, none] (gwH h r') := fun r r' e => by
    rw [tidy_nx, tidyE_ok (kp r r' e) (by simp [envOld_w hw_0, gwH_len]; omega), tk r r' e]
    simp
  simp only [bindT_e4, bindTs_cons, bindT_n, Option.bind_some, bindTs_nil, bindS_some, put_0, put_1, put_2, put_3, put_4, put_5, put_6, x_cons, x_blk, x_seti, x_nil, ev_idx, ev_v, vr_some, nth_0, nth_1, nth_2, nth_3, nth_4, nth_5, nth_6, R.bind_ok, stM_ok, gw_idx, gw_set, then_so, then_ite, S.andThen_nx, S.andThen_bad, tidy_so, tidy_ite, tidy_bad]
  unfold s__law_gives_96_net_l1
  simp only [sx_bind, sx_opt, sx_put]
  cases h1 : ixL rows a.1 with
  | none => rfl
  | some r1 =>
    simp only [so_some]
    split
    · cases h2 : setL rows a.1 (putA r1 a.2.1 a.2.2.1) with
      | none => rfl
      | some r2 =>
        simp only [so_some]
        cases h3 : ixL r2 a.2.1 with
        | none => rfl
        | some r3 =>
          simp only [so_some]
          split
          · cases h4 : setL r2 a.2.1 (putA r3 a.1 a.2.2.2) with
            | none => rfl
            | some r4 =>
              simp only [so_some]
              rw [fin2 rows r4 ((hset _ _ _ _ h4).trans (hset _ _ _ _ h2))]
              rfl
          · rfl
    · rfl
theorem gw_loop (b0 h : Hc) (n : Nat) (w_0 : Option D) (hw_0 : flatW w_0 = true) (items : List (Int × Int × Int × Int)) (rows : List (List (Int × Int))) :
    forL (.t [.n 2, .n 3, .n 4, .n 5]) [] (bodyN b0 (runF lw.T n) [.blk [2, 3, 4, 5] [.seti (.idx (.v 1) (.v 2)) (.v 3) (.v 4), .seti (.idx (.v 1) (.v 3)) (.v 2) (.v 5)]]) (mapD (e4 D.int D.int D.int D.int) items) [w_0, some (.ref h.length), none, none, none, none, none] (gwH h rows) =
    sx (foldX s__law_gives_96_net_l1 items rows) (fun (_ : Unit) => b0) fun rows => .nx [w_0, some (.ref h.length), none, none, none, none, none] (gwH h rows) :=
  for_fold (fun _ => [w_0, some (.ref h.length), none, none, none, none, none]) (fun rows => gwH h rows) (fun (_ : Unit) => b0) s__law_gives_96_net_l1 (fun s => by simp [stays]) (fun a s => gw_step b0 h n w_0 hw_0 a s) items rows
theorem gw_leave (h : Hc) (rows : List (List (Int × Int))) : leave true h (gwH h rows) (.ref h.length) = .ok (eLst (eDk D.int D.int) rows) h := by
  have hk : ∀ p : List (Int × Int), frost (gwH h rows) h.length 0 = fun d => d := fun _ => rfl
  have e2 : ∀ j row, rows[j]? = some row → frost (gwH h rows) h.length 2 (.ref (h.length + 1 + j)) = eDk D.int D.int row := fun j row hj => by
    show (if h.length + 1 + j < h.length then D.ref (h.length + 1 + j) else thawF (frost (gwH h rows) h.length 1) (gwH h rows)[h.length + 1 + j]? (h.length + 1 + j)) = _
    rw [if_neg (by omega), gwH_j, hj]
    simp only [Option.map_some, oMk, thawF, eDk, List.map_map]
    congr 1
  have e3 : frost (gwH h rows) h.length 3 (.ref h.length) = eLst (eDk D.int D.int) rows := by
    show (if h.length < h.length then D.ref h.length else thawF (frost (gwH h rows) h.length 2) (gwH h rows)[h.length]? h.length) = _
    rw [if_neg (by omega), gwH_0]
    simp only [thawF, eLst, List.map_map]
    congr 1
    refine List.ext_getElem (by simp) fun j h1 h2 => ?_
    simp only [List.length_map] at h2
    simp only [List.getElem_map, List.getElem_range, Function.comp]
    exact e2 j _ (List.getElem?_eq_getElem h2)
  exact leave_gen rfl (kept_app h _) e3 (Cod.flat _)
theorem c__law_gives_96_net (h : Hc) (n : Nat) (x_net : Int × List (Int × Int × Int × Int)) : runF lw.T (n + 1) 96 [(e2 D.int (eTup (e4 D.int D.int D.int D.int))) x_net] h = rx (s__law_gives_96_net x_net) (fun _ => h) fun v => .ok (eLst (eDk D.int D.int) v) h := by
  rw [runN (n := n) (F := f__law_gives_96) (by rfl) (by rfl)]
  unfold s__law_gives_96_net
  simp only [lockH_seq, lockH_rng1, f__law_gives_96, b__law_gives_96, List.map_cons, List.map_nil, Nat.reduceSub, List.replicate_succ, List.replicate_zero, List.cons_append, List.nil_append, x_cons, x_asg, x_for, x_ret, x_nil, ev_comp, evs_cons, evs_nil, ev_idx, ev_v, ev_c, nth_0, nth_1, nth_2, nth_3, nth_4, nth_5, nth_6, vr_some, R.bind_ok, p_idx2_0, p_idx2_1, wk_rng1R, bind_ro, wipe_cons, wipe_nil, put_0, put_1, put_2, put_3, put_4, put_5, put_6, gw_comp, stM_ro, then_so, fin_so, rx_bind, rx_opt]
  congr 1
  funext l
  by_cases hl : l.length ≤ sizeLine
  · have hh : ((h ++ .hl ((List.range l.length).map fun j => D.ref (h.length + 1 + j)) :: List.replicate l.length (O.dk [])).set h.length (.lst ((List.range l.length).map fun j => D.ref (h.length + 1 + j)))) = gwH h (List.replicate l.length []) := by
      simp [gwH, oMk]
    have hc : compEnd false h (h ++ .hl ((List.range l.length).map fun j => D.ref (h.length + 1 + j)) :: List.replicate l.length (O.dk [])) ((List.range l.length).map fun j => D.ref (h.length + 1 + j)) = .ok (.ref h.length) (gwH h (List.replicate l.length [])) := by
      unfold compEnd
      rw [if_neg (by simp), hh]
    simp only [hl, if_true, R.bind_ok, hc, stM_ok, bindT_n, bindS_some, put_0, put_1, put_2, put_3, put_4, put_5, put_6, S.andThen_nx, ev_idx, ev_v, ev_c, vr_some, p_idx2_1, R.bind_ok, evs_cons, evs_nil, nth_0, nth_1, nth_2, nth_3, nth_4, nth_5, nth_6, w_seqT, wkS_some, lockH_seq, lockH_rng1]
    rw [gw_loop h h n _ (by simp)]
    simp only [then_sx, fin_sx, exH_self, rx_bind]
    congr 1
    funext rows
    simp only [S.andThen_nx, x_cons, x_ret, x_nil, ev_v, nth_0, nth_1, nth_2, nth_3, nth_4, nth_5, nth_6, vr_some, stM_ok, rtN_ref, S.andThen_rt, fin_rt]
    exact gw_leave h rows
  · simp only [hl, if_false, R.bind_bad, stM_bad, S.andThen_bad, fin_bad]
    rfl

noncomputable def s__law_row_258_p_net_i_l1 (x__law_net_here : (Int × (List (Int × Int × Int × Int)))) (a : Int) (s : (List Int) × Pen) : X Pen ((List Int) × Pen) := ((if (decide ((1 : Int) < (s.1.length : Int))) then (s__law_draw_58_p_i s.2 (3 : Int)).bind fun v2 => X.ok ((decide (v2.1 = (0 : Int))), v2.2) else X.ok (false, s.2)) : X Pen _).bind fun v1 => ((if v1.1 then (X.opt (ixL s.1 (-(2 : Int))) : X Pen _).bind fun v5 => X.ok (v5, v1.2) else (s__law_draw_58_p_i v1.2 x__law_net_here.1).bind fun v6 => X.ok (v6.1, v6.2)) : X Pen _).bind fun v7 => (X.addL s.1 [v7.1] : X Pen _).bind fun v8 => X.ok (v8, v7.2)
noncomputable def s__law_row_258_p_net_i (pn : Pen) (x__law_net_here : (Int × (List (Int × Int × Int × Int)))) (x__law_most : Int) : X Pen ((List Int) × Pen) := (s__law_draw_58_p_i pn (x__law_most + (1 : Int))).bind fun v1 => (X.opt (rng (0 : Int) v1.1) : X Pen _).bind fun v2 => (foldX (s__law_row_258_p_net_i_l1 x__law_net_here) v2 ([], v1.2)).bind fun v11 => X.ok (v11.1, v11.2)
theorem fd__law_row_258_p_net_i_0 : ∀ (a0 : Int), D.tup [D.int a0] = eTup D.int [a0] := by intros; rfl
theorem fd__law_row_258_p_net_i_1 : D.tup [] = (eTup D.int) [] := by intros; rfl
theorem q__law_row_258_p_net_i_l1 (h : Hc) (p : Nat) (hp : p < h.length) (pn0 : Pen) (n : Nat) (x__law_net_here : (Int × (List (Int × Int × Int × Int)))) (i_0 : (List Int)) (pn : Pen) (w_2 : Option D) (hw_2 : flatW w_2 = true) (items : List Int) :
  forL (.n 4) [] (bodyN (h.set p (oPen pn0)) (runF lw.T (n + 1)) [.blk [4, 5] [
  .asg (.n 5) (.ite (.and (.cmp .gt (.bi .len [(.v 3)]) (.c (.int 1))) (.cmp .eq (.call 58 [(.v 0), (.c (.int 3))]) (.c (.int 0)))) (.idx (.v 3) (.un .neg (.c (.int 2)))) (.call 58 [(.v 0), (.idx (.v 1) (.c (.int 0)))])),
  .asg (.n 3) (.bin (.add true) (.v 3) (.tup [(.v 5)]))]]) (mapD D.int items) [some (.ref p), some ((e2 D.int (eTup (e4 D.int D.int D.int D.int))) x__law_net_here), w_2, some ((eTup D.int) i_0), none, none] (h.set p (oPen pn)) =
  sx (foldX (s__law_row_258_p_net_i_l1 x__law_net_here) items (i_0, pn)) (fun pn => h.set p (oPen pn)) fun s => .nx [some (.ref p), some ((e2 D.int (eTup (e4 D.int D.int D.int D.int))) x__law_net_here), w_2, some ((eTup D.int) s.1), none, none] (h.set p (oPen s.2)) := by
  refine for_fold (σ := (List Int) × Pen) (fun s => [some (.ref p), some ((e2 D.int (eTup (e4 D.int D.int D.int D.int))) x__law_net_here), w_2, some ((eTup D.int) s.1), none, none]) (fun s => h.set p (oPen s.2)) (fun pn => h.set p (oPen pn)) (s__law_row_258_p_net_i_l1 x__law_net_here) ?_ ?_ items (i_0, pn)
  · intro s; simp [stays, get_pen hp, get_penL hp, set_penL hp, ref_pen hp, hp]
  · intro a s
    unfold bodyN
    simp [x_asg, x_seti, x_ex, x_ret, x_retN, x_ife, x_for, x_raise, x_pass, x_brk, x_cont, x_blk, x_nil, x_cons, ev_v, ev_c, ev_tup, ev_lst, ev_dnewT, ev_dnewF, ev_dic, ev_un, ev_bin, ev_cmp, ev_call, ev_bi, ev_idx, ev_rev, evs_nil, evs_cons, evC_nil, evC_one, ev_and, ev_or, ev_cmp2, ev_ite, ev_sl, ev_mt, ev_comp, m_append', idx_ref, in_ref, notin_ref, len_ref, pop1_ref, toTup_ref, sorted_ref, seti_ref, get1_ref, get2_ref, update_ref, getD_oc, add_refL, tidyE_ok, sizeLine_eq, newL, stays, ty_beq, s__law_row_258_p_net_i_l1, fd__law_row_258_p_net_i_0, fd__law_row_258_p_net_i_1, c__law_draw_58_p_i, get_pen hp, get_penL hp, set_penL hp, ref_pen hp, hp, envOld_w hw_2, hw_2]
theorem k__law_row_258_p_net_i (h : Hc) (p : Nat) (pn : Pen) (hp : p < h.length) (n : Nat) (x__law_net_here : (Int × (List (Int × Int × Int × Int)))) (x__law_most : Int) : runF lw.T (n + 2) 258 [.ref p, (e2 D.int (eTup (e4 D.int D.int D.int D.int))) x__law_net_here, D.int x__law_most] (h.set p (oPen pn)) = rx (s__law_row_258_p_net_i pn x__law_net_here x__law_most) (fun pn => h.set p (oPen pn)) fun r => .ok ((eTup D.int) r.1) (h.set p (oPen r.2)) := by
  rw [runN (n := n + 1) (F := f__law_row_258) (by rfl) (by rfl)]
  simp [x_asg, x_seti, x_ex, x_ret, x_retN, x_ife, x_for, x_raise, x_pass, x_brk, x_cont, x_blk, x_nil, x_cons, ev_v, ev_c, ev_tup, ev_lst, ev_dnewT, ev_dnewF, ev_dic, ev_un, ev_bin, ev_cmp, ev_call, ev_bi, ev_idx, ev_rev, evs_nil, evs_cons, evC_nil, evC_one, ev_and, ev_or, ev_cmp2, ev_ite, ev_sl, ev_mt, ev_comp, m_append', idx_ref, in_ref, notin_ref, len_ref, pop1_ref, toTup_ref, sorted_ref, seti_ref, get1_ref, get2_ref, update_ref, getD_oc, add_refL, tidyE_ok, sizeLine_eq, newL, stays, ty_beq, f__law_row_258, b__law_row_258, s__law_row_258_p_net_i, fd__law_row_258_p_net_i_0, fd__law_row_258_p_net_i_1, c__law_draw_58_p_i, q__law_row_258_p_net_i_l1, get_pen hp, get_penL hp, set_penL hp, ref_pen hp, hp]
theorem c__law_row_258_p_net_i (H : Hc) (p : Nat) (hp : isPen H[p]? = true) (n : Nat) (x__law_net_here : (Int × (List (Int × Int × Int × Int)))) (x__law_most : Int) : runF lw.T (n + 2) 258 [.ref p, (e2 D.int (eTup (e4 D.int D.int D.int D.int))) x__law_net_here, D.int x__law_most] H = rx (s__law_row_258_p_net_i (penO H[p]?) x__law_net_here x__law_most) (fun pn => H.set p (oPen pn)) fun r => .ok ((eTup D.int) r.1) (H.set p (oPen r.2)) :=
  pen_call (g := fun pn => s__law_row_258_p_net_i pn x__law_net_here x__law_most) (rest := [(e2 D.int (eTup (e4 D.int D.int D.int D.int))) x__law_net_here, D.int x__law_most]) (fun h p pn hp => k__law_row_258_p_net_i h p pn hp n x__law_net_here x__law_most) H p hp
noncomputable def s__law_unit_360_i_i_c1 (x__law_town : Int) (a : Int) : X Unit (Option Int) := X.ok (some (if (decide (a = x__law_town)) then (1 : Int) else 0))
noncomputable def s__law_unit_360_i_i (x__law_many : Int) (x__law_town : Int) : X Unit (List Int) := (X.opt (rng (0 : Int) x__law_many) : X Unit _).bind fun v1 => ((compP (s__law_unit_360_i_i_c1 x__law_town) v1 []).nox : X Unit _).bind fun v2 => X.ok v2
theorem q__law_unit_360_i_i_c1 (h : Hc) (n : Nat) (x__law_town : Int) (w_0 : Option D) (items : List Int) :
  compL (.n 2) [] h.length [w_0, some (D.int x__law_town), none] (evC (runF lw.T n) []) (ev (runF lw.T n) (.bi .toInt [(.cmp .eq (.v 2) (.v 1))])) (mapD D.int items) (h ++ [.hl []]) =
  rn (compP (s__law_unit_360_i_i_c1 x__law_town) items []) fun r => .ok (r.map D.int) (h ++ [.hl (r.map D.int)]) := by
  refine comp_pu (fun acc => h ++ [.hl acc]) (s__law_unit_360_i_i_c1 x__law_town) ?_ ?_ ?_ ?_ items
  · intro acc; simp
  · intro acc acc2; simp
  · intro acc; simp [stays]
  · intro a acc
    simp [x_asg, x_seti, x_ex, x_ret, x_retN, x_ife, x_for, x_raise, x_pass, x_brk, x_cont, x_blk, x_nil, x_cons, ev_v, ev_c, ev_tup, ev_lst, ev_dnewT, ev_dnewF, ev_dic, ev_un, ev_bin, ev_cmp, ev_call, ev_bi, ev_idx, ev_rev, evs_nil, evs_cons, evC_nil, evC_one, ev_and, ev_or, ev_cmp2, ev_ite, ev_sl, ev_mt, ev_comp, m_append', idx_ref, in_ref, notin_ref, len_ref, pop1_ref, toTup_ref, sorted_ref, seti_ref, get1_ref, get2_ref, update_ref, getD_oc, add_refL, tidyE_ok, sizeLine_eq, newL, stays, ty_beq, s__law_unit_360_i_i_c1]
theorem c__law_unit_360_i_i (h : Hc) (n : Nat) (x__law_many : Int) (x__law_town : Int) : runF lw.T (n + 1) 360 [D.int x__law_many, D.int x__law_town] h = rx (s__law_unit_360_i_i x__law_many x__law_town) (fun _ => h) fun v => .ok ((eTup D.int) v) h := by
  rw [runN (n := n) (F := f__law_unit_360) (by rfl) (by rfl)]
  simp [x_asg, x_seti, x_ex, x_ret, x_retN, x_ife, x_for, x_raise, x_pass, x_brk, x_cont, x_blk, x_nil, x_cons, ev_v, ev_c, ev_tup, ev_lst, ev_dnewT, ev_dnewF, ev_dic, ev_un, ev_bin, ev_cmp, ev_call, ev_bi, ev_idx, ev_rev, evs_nil, evs_cons, evC_nil, evC_one, ev_and, ev_or, ev_cmp2, ev_ite, ev_sl, ev_mt, ev_comp, m_append', idx_ref, in_ref, notin_ref, len_ref, pop1_ref, toTup_ref, sorted_ref, seti_ref, get1_ref, get2_ref, update_ref, getD_oc, add_refL, tidyE_ok, sizeLine_eq, newL, stays, ty_beq, f__law_unit_360, b__law_unit_360, s__law_unit_360_i_i, q__law_unit_360_i_i_c1]
noncomputable def s__law_claim_47_lfii_qi_i_c1 (x__law_claim_here : (List Int)) (o_0 : (List Int)) (a : (Int × Int)) : X Unit (Option Int) := (X.opt (ixL x__law_claim_here a.1) : X Unit _).bind fun v1 => (X.mulI a.2 v1 : X Unit _).bind fun v2 => X.ok (some v2)
noncomputable def s__law_claim_47_lfii_qi_i (x__law_gives_here : (List (List (Int × Int)))) (x__law_claim_here : (List Int)) (x__law_town : Int) : X Unit (List Int) := (X.opt (ixL x__law_gives_here x__law_town) : X Unit _).bind fun v1 => ((compP (s__law_claim_47_lfii_qi_i_c1 x__law_claim_here x__law_claim_here) v1 []).nox : X Unit _).bind fun v4 => (X.opt (ixL x__law_claim_here x__law_town) : X Unit _).bind fun v5 => (X.opt (setL x__law_claim_here x__law_town ((v4.sum) - v5)) : X Unit _).bind fun v6 => X.ok v6
theorem q__law_claim_47_lfii_qi_i_c1 (h : Hc) (n : Nat) (x__law_claim_here : (List Int)) (o_0 : (List Int)) (w_0 : Option D) (w_2 : Option D) (items : List (Int × Int)) :
  compL (.t [(.n 5), (.n 6)]) [] (h.length + 1) [w_0, some ((eTup D.int) x__law_claim_here), w_2, some (.ref (h.length)), none, none, none] (evC (runF lw.T n) []) (ev (runF lw.T n) (.bin (.mul true) (.v 6) (.idx (.v 1) (.v 5)))) (mapD (e2 D.int D.int) items) (h ++ [oLst D.int o_0, .hl []]) =
  rn (compP (s__law_claim_47_lfii_qi_i_c1 x__law_claim_here o_0) items []) fun r => .ok (r.map D.int) (h ++ [oLst D.int o_0, .hl (r.map D.int)]) := by
  refine comp_pu (fun acc => h ++ [oLst D.int o_0, .hl acc]) (s__law_claim_47_lfii_qi_i_c1 x__law_claim_here o_0) ?_ ?_ ?_ ?_ items
  · intro acc; simp
  · intro acc acc2; simp
  · intro acc; simp [stays]
  · intro a acc
    simp [x_asg, x_seti, x_ex, x_ret, x_retN, x_ife, x_for, x_raise, x_pass, x_brk, x_cont, x_blk, x_nil, x_cons, ev_v, ev_c, ev_tup, ev_lst, ev_dnewT, ev_dnewF, ev_dic, ev_un, ev_bin, ev_cmp, ev_call, ev_bi, ev_idx, ev_rev, evs_nil, evs_cons, evC_nil, evC_one, ev_and, ev_or, ev_cmp2, ev_ite, ev_sl, ev_mt, ev_comp, m_append', idx_ref, in_ref, notin_ref, len_ref, pop1_ref, toTup_ref, sorted_ref, seti_ref, get1_ref, get2_ref, update_ref, getD_oc, add_refL, tidyE_ok, sizeLine_eq, newL, stays, ty_beq, s__law_claim_47_lfii_qi_i_c1]
theorem c__law_claim_47_lfii_qi_i (h : Hc) (n : Nat) (x__law_gives_here : (List (List (Int × Int)))) (x__law_claim_here : (List Int)) (x__law_town : Int) : runF lw.T (n + 1) 47 [(eLst (eDk D.int D.int)) x__law_gives_here, (eTup D.int) x__law_claim_here, D.int x__law_town] h = rx (s__law_claim_47_lfii_qi_i x__law_gives_here x__law_claim_here x__law_town) (fun _ => h) fun v => .ok ((eTup D.int) v) h := by
  rw [runN (n := n) (F := f__law_claim_47) (by rfl) (by rfl)]
  simp [x_asg, x_seti, x_ex, x_ret, x_retN, x_ife, x_for, x_raise, x_pass, x_brk, x_cont, x_blk, x_nil, x_cons, ev_v, ev_c, ev_tup, ev_lst, ev_dnewT, ev_dnewF, ev_dic, ev_un, ev_bin, ev_cmp, ev_call, ev_bi, ev_idx, ev_rev, evs_nil, evs_cons, evC_nil, evC_one, ev_and, ev_or, ev_cmp2, ev_ite, ev_sl, ev_mt, ev_comp, m_append', idx_ref, in_ref, notin_ref, len_ref, pop1_ref, toTup_ref, sorted_ref, seti_ref, get1_ref, get2_ref, update_ref, getD_oc, add_refL, tidyE_ok, sizeLine_eq, newL, stays, ty_beq, f__law_claim_47, b__law_claim_47, s__law_claim_47_lfii_qi_i, q__law_claim_47_lfii_qi_i_c1]
noncomputable def s__law_begins_27_lfii_qi_l1 (x__law_gives_here : (List (List (Int × Int)))) (o_0 : (List Int)) (a : Int) (s : (List Int)) : X Unit ((List Int)) := (s__law_claim_47_lfii_qi_i x__law_gives_here s a).bind fun v1 => X.ok v1
noncomputable def s__law_begins_27_lfii_qi_l2 (x__law_gives_here : (List (List (Int × Int)))) (x__law_row_here : (List Int)) (a : Int) (s : (List Int)) : X Unit ((List Int)) := (s__law_unit_360_i_i (x__law_gives_here.length : Int) a).bind fun v1 => (foldX (s__law_begins_27_lfii_qi_l1 x__law_gives_here s) x__law_row_here v1).bind fun v3 => (X.opt (minI v3) : X Unit _).bind fun v4 => if (decide (v4 < (0 : Int))) then (X.push s a : X Unit _).bind fun v5 => X.ok v5 else X.ok s
noncomputable def s__law_begins_27_lfii_qi (x__law_gives_here : (List (List (Int × Int)))) (x__law_row_here : (List Int)) : X Unit (List Int) := (X.opt (rng (0 : Int) (x__law_gives_here.length : Int)) : X Unit _).bind fun v1 => (foldX (s__law_begins_27_lfii_qi_l2 x__law_gives_here x__law_row_here) v1 []).bind fun v7 => X.ok v7
theorem fd__law_begins_27_lfii_qi_0 : O.lst [] = oLst D.int [] := by intros; rfl
theorem q__law_begins_27_lfii_qi_l1 (h : Hc) (n : Nat) (x__law_gives_here : (List (List (Int × Int)))) (o_0 : (List Int)) (i_0 : (List Int)) (w_1 : Option D) (hw_1 : flatW w_1 = true) (w_3 : Option D) (hw_3 : flatW w_3 = true) (items : List Int) :
  forL (.n 5) [] (bodyN h (runF lw.T (n + 1)) [.blk [5] [
  .asg (.n 4) (.call 47 [(.v 0), (.v 4), (.v 5)])]]) (mapD D.int items) [some ((eLst (eDk D.int D.int)) x__law_gives_here), w_1, some (.ref (h.length)), w_3, some ((eTup D.int) i_0), none] (h ++ [oLst D.int o_0]) =
  sx (foldX (s__law_begins_27_lfii_qi_l1 x__law_gives_here o_0) items i_0) (fun (_ : Unit) => h) fun s => .nx [some ((eLst (eDk D.int D.int)) x__law_gives_here), w_1, some (.ref (h.length)), w_3, some ((eTup D.int) s), none] (h ++ [oLst D.int o_0]) := by
  refine for_fold (σ := (List Int)) (fun s => [some ((eLst (eDk D.int D.int)) x__law_gives_here), w_1, some (.ref (h.length)), w_3, some ((eTup D.int) s), none]) (fun s => h ++ [oLst D.int o_0]) (fun (_ : Unit) => h) (s__law_begins_27_lfii_qi_l1 x__law_gives_here o_0) ?_ ?_ items i_0
  · intro s; simp [stays]
  · intro a s
    unfold bodyN
    simp [x_asg, x_seti, x_ex, x_ret, x_retN, x_ife, x_for, x_raise, x_pass, x_brk, x_cont, x_blk, x_nil, x_cons, ev_v, ev_c, ev_tup, ev_lst, ev_dnewT, ev_dnewF, ev_dic, ev_un, ev_bin, ev_cmp, ev_call, ev_bi, ev_idx, ev_rev, evs_nil, evs_cons, evC_nil, evC_one, ev_and, ev_or, ev_cmp2, ev_ite, ev_sl, ev_mt, ev_comp, m_append', idx_ref, in_ref, notin_ref, len_ref, pop1_ref, toTup_ref, sorted_ref, seti_ref, get1_ref, get2_ref, update_ref, getD_oc, add_refL, tidyE_ok, sizeLine_eq, newL, stays, ty_beq, s__law_begins_27_lfii_qi_l1, fd__law_begins_27_lfii_qi_0, c__law_unit_360_i_i, c__law_claim_47_lfii_qi_i, envOld_w hw_1, hw_1, envOld_w hw_3, hw_3]
theorem q__law_begins_27_lfii_qi_l2 (h : Hc) (n : Nat) (x__law_gives_here : (List (List (Int × Int)))) (x__law_row_here : (List Int)) (o_0 : (List Int)) (items : List Int) :
  forL (.n 3) [] (bodyN h (runF lw.T (n + 1)) [.blk [3, 4, 5] [
  .asg (.n 4) (.call 360 [(.bi .len [(.v 0)]), (.v 3)]),
  .for .seq [(.v 1)] (.n 5) [.blk [5] [
    .asg (.n 4) (.call 47 [(.v 0), (.v 4), (.v 5)])]],
  .ife (.cmp .lt (.bi .minL [(.v 4)]) (.c (.int 0))) [
    .ex (.mt .append (.v 2) [(.v 3)])] []]]) (mapD D.int items) [some ((eLst (eDk D.int D.int)) x__law_gives_here), some ((eTup D.int) x__law_row_here), some (.ref (h.length)), none, none, none] (h ++ [oLst D.int o_0]) =
  sx (foldX (s__law_begins_27_lfii_qi_l2 x__law_gives_here x__law_row_here) items o_0) (fun (_ : Unit) => h) fun s => .nx [some ((eLst (eDk D.int D.int)) x__law_gives_here), some ((eTup D.int) x__law_row_here), some (.ref (h.length)), none, none, none] (h ++ [oLst D.int s]) := by
  refine for_fold (σ := (List Int)) (fun s => [some ((eLst (eDk D.int D.int)) x__law_gives_here), some ((eTup D.int) x__law_row_here), some (.ref (h.length)), none, none, none]) (fun s => h ++ [oLst D.int s]) (fun (_ : Unit) => h) (s__law_begins_27_lfii_qi_l2 x__law_gives_here x__law_row_here) ?_ ?_ items o_0
  · intro s; simp [stays]
  · intro a s
    unfold bodyN
    simp [x_asg, x_seti, x_ex, x_ret, x_retN, x_ife, x_for, x_raise, x_pass, x_brk, x_cont, x_blk, x_nil, x_cons, ev_v, ev_c, ev_tup, ev_lst, ev_dnewT, ev_dnewF, ev_dic, ev_un, ev_bin, ev_cmp, ev_call, ev_bi, ev_idx, ev_rev, evs_nil, evs_cons, evC_nil, evC_one, ev_and, ev_or, ev_cmp2, ev_ite, ev_sl, ev_mt, ev_comp, m_append', idx_ref, in_ref, notin_ref, len_ref, pop1_ref, toTup_ref, sorted_ref, seti_ref, get1_ref, get2_ref, update_ref, getD_oc, add_refL, tidyE_ok, sizeLine_eq, newL, stays, ty_beq, s__law_begins_27_lfii_qi_l2, fd__law_begins_27_lfii_qi_0, c__law_unit_360_i_i, c__law_claim_47_lfii_qi_i, q__law_begins_27_lfii_qi_l1]
theorem c__law_begins_27_lfii_qi (h : Hc) (n : Nat) (x__law_gives_here : (List (List (Int × Int)))) (x__law_row_here : (List Int)) : runF lw.T (n + 2) 27 [(eLst (eDk D.int D.int)) x__law_gives_here, (eTup D.int) x__law_row_here] h = rx (s__law_begins_27_lfii_qi x__law_gives_here x__law_row_here) (fun _ => h) fun v => .ok ((eLst D.int) v) h := by
  rw [runN (n := n + 1) (F := f__law_begins_27) (by rfl) (by rfl)]
  simp [x_asg, x_seti, x_ex, x_ret, x_retN, x_ife, x_for, x_raise, x_pass, x_brk, x_cont, x_blk, x_nil, x_cons, ev_v, ev_c, ev_tup, ev_lst, ev_dnewT, ev_dnewF, ev_dic, ev_un, ev_bin, ev_cmp, ev_call, ev_bi, ev_idx, ev_rev, evs_nil, evs_cons, evC_nil, evC_one, ev_and, ev_or, ev_cmp2, ev_ite, ev_sl, ev_mt, ev_comp, m_append', idx_ref, in_ref, notin_ref, len_ref, pop1_ref, toTup_ref, sorted_ref, seti_ref, get1_ref, get2_ref, update_ref, getD_oc, add_refL, tidyE_ok, sizeLine_eq, newL, stays, ty_beq, f__law_begins_27, b__law_begins_27, s__law_begins_27_lfii_qi, fd__law_begins_27_lfii_qi_0, c__law_unit_360_i_i, c__law_claim_47_lfii_qi_i, q__law_begins_27_lfii_qi_l1, q__law_begins_27_lfii_qi_l2]
noncomputable def s__law_place_206_lfii_qi_i_l1 (x__law_gives_here : (List (List (Int × Int)))) (a : (Int × Int)) (s : (List Int)) : X Unit (Lp Int ((List Int))) := (s__law_unit_360_i_i (x__law_gives_here.length : Int) a.2).bind fun v1 => if (decide (s = v1)) then X.ok (.rt a.1 s) else (s__law_claim_47_lfii_qi_i x__law_gives_here s a.2).bind fun v2 => X.ok (.nx v2)
noncomputable def s__law_place_206_lfii_qi_i (x__law_gives_here : (List (List (Int × Int)))) (x__law_row_here : (List Int)) (x__law_town : Int) : X Unit (Option Int) := (s__law_unit_360_i_i (x__law_gives_here.length : Int) x__law_town).bind fun v1 => (loopX (s__law_place_206_lfii_qi_i_l1 x__law_gives_here) (enumL 0 x__law_row_here) v1).bind fun q7 => q7.cas (fun v4 => X.ok none) (fun r6 v5 => X.ok (some r6))
theorem q__law_place_206_lfii_qi_i_l1 (h : Hc) (n : Nat) (x__law_gives_here : (List (List (Int × Int)))) (i_0 : (List Int)) (w_1 : Option D) (hw_1 : flatW w_1 = true) (w_2 : Option D) (hw_2 : flatW w_2 = true) (items : List (Int × Int)) :
  forL (.t [(.n 4), (.n 5)]) [] (bodyN h (runF lw.T (n + 1)) [.blk [4, 5] [
  .ife (.cmp .eq (.v 3) (.call 360 [(.bi .len [(.v 0)]), (.v 5)])) [
    .ret (.v 4)] [],
  .asg (.n 3) (.call 47 [(.v 0), (.v 3), (.v 5)])]]) (mapD (e2 D.int D.int) items) [some ((eLst (eDk D.int D.int)) x__law_gives_here), w_1, w_2, some ((eTup D.int) i_0), none, none] (h) =
  sx (loopX (s__law_place_206_lfii_qi_i_l1 x__law_gives_here) items i_0) (fun (_ : Unit) => h) fun r => r.cas (fun s => .nx [some ((eLst (eDk D.int D.int)) x__law_gives_here), w_1, w_2, some ((eTup D.int) s), none, none] (h)) fun v s => .rt (D.int v) (h) := by
  refine for_loop (σ := (List Int)) (fun s => [some ((eLst (eDk D.int D.int)) x__law_gives_here), w_1, w_2, some ((eTup D.int) s), none, none]) (fun s => h) (fun (_ : Unit) => h) (fun s => h) D.int (s__law_place_206_lfii_qi_i_l1 x__law_gives_here) ?_ ?_ items i_0
  · intro s; simp [stays]
  · intro a s
    unfold bodyN
    simp [x_asg, x_seti, x_ex, x_ret, x_retN, x_ife, x_for, x_raise, x_pass, x_brk, x_cont, x_blk, x_nil, x_cons, ev_v, ev_c, ev_tup, ev_lst, ev_dnewT, ev_dnewF, ev_dic, ev_un, ev_bin, ev_cmp, ev_call, ev_bi, ev_idx, ev_rev, evs_nil, evs_cons, evC_nil, evC_one, ev_and, ev_or, ev_cmp2, ev_ite, ev_sl, ev_mt, ev_comp, m_append', idx_ref, in_ref, notin_ref, len_ref, pop1_ref, toTup_ref, sorted_ref, seti_ref, get1_ref, get2_ref, update_ref, getD_oc, add_refL, tidyE_ok, sizeLine_eq, newL, stays, ty_beq, s__law_place_206_lfii_qi_i_l1, c__law_unit_360_i_i, c__law_claim_47_lfii_qi_i, envOld_w hw_1, hw_1, envOld_w hw_2, hw_2]
theorem c__law_place_206_lfii_qi_i (h : Hc) (n : Nat) (x__law_gives_here : (List (List (Int × Int)))) (x__law_row_here : (List Int)) (x__law_town : Int) : runF lw.T (n + 2) 206 [(eLst (eDk D.int D.int)) x__law_gives_here, (eTup D.int) x__law_row_here, D.int x__law_town] h = rx (s__law_place_206_lfii_qi_i x__law_gives_here x__law_row_here x__law_town) (fun _ => h) fun v => .ok ((eOpt D.int) v) h := by
  rw [runN (n := n + 1) (F := f__law_place_206) (by rfl) (by rfl)]
  simp [x_asg, x_seti, x_ex, x_ret, x_retN, x_ife, x_for, x_raise, x_pass, x_brk, x_cont, x_blk, x_nil, x_cons, ev_v, ev_c, ev_tup, ev_lst, ev_dnewT, ev_dnewF, ev_dic, ev_un, ev_bin, ev_cmp, ev_call, ev_bi, ev_idx, ev_rev, evs_nil, evs_cons, evC_nil, evC_one, ev_and, ev_or, ev_cmp2, ev_ite, ev_sl, ev_mt, ev_comp, m_append', idx_ref, in_ref, notin_ref, len_ref, pop1_ref, toTup_ref, sorted_ref, seti_ref, get1_ref, get2_ref, update_ref, getD_oc, add_refL, tidyE_ok, sizeLine_eq, newL, stays, ty_beq, f__law_place_206, b__law_place_206, s__law_place_206_lfii_qi_i, c__law_unit_360_i_i, c__law_claim_47_lfii_qi_i, q__law_place_206_lfii_qi_i_l1]
theorem co__law_place_206_lfii_qi_i (h : Hc) (n : Nat) (x__law_gives_here : (List (List (Int × Int)))) (x__law_row_here : (List Int)) (x__law_town : Int) : runF lw.T (n + 2) 206 [(eLst (eDk D.int D.int)) x__law_gives_here, (eTup D.int) x__law_row_here, D.int x__law_town] h = rx (s__law_place_206_lfii_qi_i x__law_gives_here x__law_row_here x__law_town) (fun _ => h) fun v => oc v (.ok .non h) fun y => .ok (D.int y) h := by
  rw [c__law_place_206_lfii_qi_i]
  simp only [eOpt_oc]
noncomputable def s__law_normal_180_lfii_qi_l1 (x__law_gives_here : (List (List (Int × Int)))) (s : (List Int) × (List Int) × (List Int)) : X Unit (Lp Unit ((List Int) × (List Int) × (List Int))) := if (!(decide (s.2.2 = []))) then (X.opt (ixL s.2.2 (0 : Int)) : X Unit _).bind fun v1 => (s__law_place_206_lfii_qi_i x__law_gives_here s.1 v1).bind fun v2 => oc v2 ((X.opt (ixL s.2.2 (0 : Int)) : X Unit _).bind fun v4 => (X.addL s.2.1 [v4] : X Unit _).bind fun v5 => X.bad) (fun y3 => (X.opt (ixL s.2.2 (0 : Int)) : X Unit _).bind fun v6 => (X.addL s.2.1 [v6] : X Unit _).bind fun v7 => (X.addL (cutL s.1 none (some y3)) (cutL s.1 (some (y3 + (1 : Int))) none) : X Unit _).bind fun v8 => (s__law_begins_27_lfii_qi x__law_gives_here v8).bind fun v9 => X.ok (.nx (v8, v7, v9))) else X.ok (.bk (s.1, s.2.1, s.2.2))
noncomputable def s__law_normal_180_lfii_qi (x__law_gives_here : (List (List (Int × Int)))) (x__law_row_here : (List Int)) : X Unit (List Int) := (s__law_begins_27_lfii_qi x__law_gives_here x__law_row_here).bind fun v1 => (whileX (s__law_normal_180_lfii_qi_l1 x__law_gives_here) (x__law_row_here, [], v1)).bind fun q14 => q14.cas (fun v11 => X.ok v11.2.1) (fun r13 v12 => X.bad)
theorem fd__law_normal_180_lfii_qi_0 : ∀ (a0 : Int), D.tup [D.int a0] = eTup D.int [a0] := by intros; rfl
theorem fd__law_normal_180_lfii_qi_1 : D.tup [] = (eTup D.int) [] := by intros; rfl
theorem q__law_normal_180_lfii_qi_l1 (h : Hc) (n : Nat) (x__law_gives_here : (List (List (Int × Int)))) (i_0 : (List Int)) (i_1 : (List Int)) (i_2 : (List Int)) :
  exeN h (runF lw.T (n + 2)) (.whil (.cmp .ne (.v 3) (.lst true [])) [.blk [4] [
  .asg (.n 4) (.call 206 [(.v 0), (.v 1), (.idx (.v 3) (.c (.int 0)))]),
  .asg (.n 2) (.bin (.add true) (.v 2) (.tup [(.idx (.v 3) (.c (.int 0)))])),
  .asg (.n 1) (.bin (.add true) (.sl true (.v 1) (.c .non) (.v 4)) (.sl true (.v 1) (.bin (.add true) (.v 4) (.c (.int 1))) (.c .non))),
  .asg (.n 3) (.call 27 [(.v 0), (.v 1)])]]) [some ((eLst (eDk D.int D.int)) x__law_gives_here), some ((eTup D.int) i_0), some ((eTup D.int) i_1), some ((eLst D.int) i_2), none] (h) =
  sx (whileX (s__law_normal_180_lfii_qi_l1 x__law_gives_here) (i_0, i_1, i_2)) (fun (_ : Unit) => h) fun r => r.cas (fun s => .nx [some ((eLst (eDk D.int D.int)) x__law_gives_here), some ((eTup D.int) s.1), some ((eTup D.int) s.2.1), some ((eLst D.int) s.2.2), none] (h)) fun _ _ => .bad := by
  refine while_loop (σ := (List Int) × (List Int) × (List Int)) (fun s => [some ((eLst (eDk D.int D.int)) x__law_gives_here), some ((eTup D.int) s.1), some ((eTup D.int) s.2.1), some ((eLst D.int) s.2.2), none]) (fun s => h) (fun (_ : Unit) => h) (fun _ _ => .bad) (by intros; refine ⟨?_, ?_, ?_, ?_⟩ <;> simp) (s__law_normal_180_lfii_qi_l1 x__law_gives_here) ?_ (i_0, i_1, i_2)
  intro s
  unfold bodyN
  simp [x_asg, x_seti, x_ex, x_ret, x_retN, x_ife, x_for, x_raise, x_pass, x_brk, x_cont, x_blk, x_nil, x_cons, ev_v, ev_c, ev_tup, ev_lst, ev_dnewT, ev_dnewF, ev_dic, ev_un, ev_bin, ev_cmp, ev_call, ev_bi, ev_idx, ev_rev, evs_nil, evs_cons, evC_nil, evC_one, ev_and, ev_or, ev_cmp2, ev_ite, ev_sl, ev_mt, ev_comp, m_append', idx_ref, in_ref, notin_ref, len_ref, pop1_ref, toTup_ref, sorted_ref, seti_ref, get1_ref, get2_ref, update_ref, getD_oc, add_refL, tidyE_ok, sizeLine_eq, newL, stays, ty_beq, s__law_normal_180_lfii_qi_l1, fd__law_normal_180_lfii_qi_0, fd__law_normal_180_lfii_qi_1, c__law_begins_27_lfii_qi, co__law_place_206_lfii_qi_i]
theorem c__law_normal_180_lfii_qi (h : Hc) (n : Nat) (x__law_gives_here : (List (List (Int × Int)))) (x__law_row_here : (List Int)) : runF lw.T (n + 3) 180 [(eLst (eDk D.int D.int)) x__law_gives_here, (eTup D.int) x__law_row_here] h = rx (s__law_normal_180_lfii_qi x__law_gives_here x__law_row_here) (fun _ => h) fun v => .ok ((eTup D.int) v) h := by
  rw [runN (n := n + 2) (F := f__law_normal_180) (by rfl) (by rfl)]
  simp [x_asg, x_seti, x_ex, x_ret, x_retN, x_ife, x_for, x_raise, x_pass, x_brk, x_cont, x_blk, x_nil, x_cons, ev_v, ev_c, ev_tup, ev_lst, ev_dnewT, ev_dnewF, ev_dic, ev_un, ev_bin, ev_cmp, ev_call, ev_bi, ev_idx, ev_rev, evs_nil, evs_cons, evC_nil, evC_one, ev_and, ev_or, ev_cmp2, ev_ite, ev_sl, ev_mt, ev_comp, m_append', idx_ref, in_ref, notin_ref, len_ref, pop1_ref, toTup_ref, sorted_ref, seti_ref, get1_ref, get2_ref, update_ref, getD_oc, add_refL, tidyE_ok, sizeLine_eq, newL, stays, ty_beq, f__law_normal_180, b__law_normal_180, s__law_normal_180_lfii_qi, fd__law_normal_180_lfii_qi_0, fd__law_normal_180_lfii_qi_1, c__law_begins_27_lfii_qi, co__law_place_206_lfii_qi_i, q__law_normal_180_lfii_qi_l1]
noncomputable def s_are_some_389_net_i (x_thing : (Int × (List (Int × Int × Int × Int)))) (x_many : Int) : X Unit Bool := X.ok (decide ((2 : Int) = x_many))
theorem c_are_some_389_net_i (h : Hc) (n : Nat) (x_thing : (Int × (List (Int × Int × Int × Int)))) (x_many : Int) : runF lw.T (n + 1) 389 [(e2 D.int (eTup (e4 D.int D.int D.int D.int))) x_thing, D.int x_many] h = rx (s_are_some_389_net_i x_thing x_many) (fun _ => h) fun v => .ok (D.bl v) h := by
  rw [runN (n := n) (F := f_are_some_389) (by rfl) (by rfl)]
  simp [x_asg, x_seti, x_ex, x_ret, x_retN, x_ife, x_for, x_raise, x_pass, x_brk, x_cont, x_blk, x_nil, x_cons, ev_v, ev_c, ev_tup, ev_lst, ev_dnewT, ev_dnewF, ev_dic, ev_un, ev_bin, ev_cmp, ev_call, ev_bi, ev_idx, ev_rev, evs_nil, evs_cons, evC_nil, evC_one, ev_and, ev_or, ev_cmp2, ev_ite, ev_sl, ev_mt, ev_comp, m_append', idx_ref, in_ref, notin_ref, len_ref, pop1_ref, toTup_ref, sorted_ref, seti_ref, get1_ref, get2_ref, update_ref, getD_oc, add_refL, tidyE_ok, sizeLine_eq, newL, stays, ty_beq, f_are_some_389, b_are_some_389, s_are_some_389_net_i]
noncomputable def s_is_whole_437_i (x_thing : Int) : X Unit Bool := X.ok true
theorem c_is_whole_437_i (h : Hc) (n : Nat) (x_thing : Int) : runF lw.T (n + 1) 437 [D.int x_thing] h = rx (s_is_whole_437_i x_thing) (fun _ => h) fun v => .ok (D.bl v) h := by
  rw [runN (n := n) (F := f_is_whole_437) (by rfl) (by rfl)]
  simp [x_asg, x_seti, x_ex, x_ret, x_retN, x_ife, x_for, x_raise, x_pass, x_brk, x_cont, x_blk, x_nil, x_cons, ev_v, ev_c, ev_tup, ev_lst, ev_dnewT, ev_dnewF, ev_dic, ev_un, ev_bin, ev_cmp, ev_call, ev_bi, ev_idx, ev_rev, evs_nil, evs_cons, evC_nil, evC_one, ev_and, ev_or, ev_cmp2, ev_ite, ev_sl, ev_mt, ev_comp, m_append', idx_ref, in_ref, notin_ref, len_ref, pop1_ref, toTup_ref, sorted_ref, seti_ref, get1_ref, get2_ref, update_ref, getD_oc, add_refL, tidyE_ok, sizeLine_eq, newL, stays, ty_beq, f_is_whole_437, b_is_whole_437, s_is_whole_437_i]
noncomputable def s_is_among_428_i_i_i (x_thing : Int) (x_low : Int) (x_high : Int) : X Unit Bool := (s_is_whole_437_i x_thing).bind fun v1 => X.ok (v1 && ((decide (x_low ≤ x_thing)) && (decide (x_thing ≤ x_high))))
theorem c_is_among_428_i_i_i (h : Hc) (n : Nat) (x_thing : Int) (x_low : Int) (x_high : Int) : runF lw.T (n + 2) 428 [D.int x_thing, D.int x_low, D.int x_high] h = rx (s_is_among_428_i_i_i x_thing x_low x_high) (fun _ => h) fun v => .ok (D.bl v) h := by
  rw [runN (n := n + 1) (F := f_is_among_428) (by rfl) (by rfl)]
  simp [x_asg, x_seti, x_ex, x_ret, x_retN, x_ife, x_for, x_raise, x_pass, x_brk, x_cont, x_blk, x_nil, x_cons, ev_v, ev_c, ev_tup, ev_lst, ev_dnewT, ev_dnewF, ev_dic, ev_un, ev_bin, ev_cmp, ev_call, ev_bi, ev_idx, ev_rev, evs_nil, evs_cons, evC_nil, evC_one, ev_and, ev_or, ev_cmp2, ev_ite, ev_sl, ev_mt, ev_comp, m_append', idx_ref, in_ref, notin_ref, len_ref, pop1_ref, toTup_ref, sorted_ref, seti_ref, get1_ref, get2_ref, update_ref, getD_oc, add_refL, tidyE_ok, sizeLine_eq, newL, stays, ty_beq, f_is_among_428, b_is_among_428, s_is_among_428_i_i_i, c_is_whole_437_i]
noncomputable def s_are_some_389_t4iiii_i (x_thing : (Int × Int × Int × Int)) (x_many : Int) : X Unit Bool := X.ok (decide ((4 : Int) = x_many))
theorem c_are_some_389_t4iiii_i (h : Hc) (n : Nat) (x_thing : (Int × Int × Int × Int)) (x_many : Int) : runF lw.T (n + 1) 389 [(e4 D.int D.int D.int D.int) x_thing, D.int x_many] h = rx (s_are_some_389_t4iiii_i x_thing x_many) (fun _ => h) fun v => .ok (D.bl v) h := by
  rw [runN (n := n) (F := f_are_some_389) (by rfl) (by rfl)]
  simp [x_asg, x_seti, x_ex, x_ret, x_retN, x_ife, x_for, x_raise, x_pass, x_brk, x_cont, x_blk, x_nil, x_cons, ev_v, ev_c, ev_tup, ev_lst, ev_dnewT, ev_dnewF, ev_dic, ev_un, ev_bin, ev_cmp, ev_call, ev_bi, ev_idx, ev_rev, evs_nil, evs_cons, evC_nil, evC_one, ev_and, ev_or, ev_cmp2, ev_ite, ev_sl, ev_mt, ev_comp, m_append', idx_ref, in_ref, notin_ref, len_ref, pop1_ref, toTup_ref, sorted_ref, seti_ref, get1_ref, get2_ref, update_ref, getD_oc, add_refL, tidyE_ok, sizeLine_eq, newL, stays, ty_beq, f_are_some_389, b_are_some_389, s_are_some_389_t4iiii_i]
noncomputable def s_is_street_435_i_t4iiii_c1 (x_many : Int) (a : Int) : X Unit (Option Bool) := (s_is_among_428_i_i_i a (0 : Int) (x_many - (1 : Int))).bind fun v1 => X.ok (some v1)
noncomputable def s_is_street_435_i_t4iiii_c3  (a : Int) : X Unit (Option Bool) := (s_is_among_428_i_i_i a (1 : Int) (3 : Int)).bind fun v1 => X.ok (some v1)
noncomputable def s_is_street_435_i_t4iiii (x_many : Int) (x_thing : (Int × Int × Int × Int)) : X Unit Bool := (s_are_some_389_t4iiii_i x_thing (4 : Int)).bind fun v1 => ((if (!v1) then X.ok true else ((compP (s_is_street_435_i_t4iiii_c1 x_many) [x_thing.1, x_thing.2.1] []).nox : X Unit _).bind fun v4 => X.ok (!(v4.all id))) : X Unit _).bind fun v2 => if v2 then X.ok false else ((compP (s_is_street_435_i_t4iiii_c3) [x_thing.2.2.1, x_thing.2.2.2] []).nox : X Unit _).bind fun v6 => if (!(v6.all id)) then X.ok false else X.ok ((decide (x_thing.1 < x_thing.2.1)) && (memB (1 : Int) [(x_thing.2.2.1, x_thing.2.2.2).1, (x_thing.2.2.1, x_thing.2.2.2).2]))
theorem fd_is_street_435_i_t4iiii_0 : ∀ (fr : Bool) (t : (Int × Int × Int × Int)) (h : Hc), sliceP fr ((e4 D.int D.int D.int D.int) t) (.int 2) .non h = .ok (eTup D.int [t.2.2.1, t.2.2.2]) h := by intros; rfl
theorem fd_is_street_435_i_t4iiii_1 : ∀ (fr : Bool) (t : (Int × Int × Int × Int)) (h : Hc), sliceP fr ((e4 D.int D.int D.int D.int) t) .non (.int 2) h = .ok (eTup D.int [t.1, t.2.1]) h := by intros; rfl
theorem q_is_street_435_i_t4iiii_c1 (h : Hc) (n : Nat) (x_many : Int) (w_1 : Option D) (items : List Int) :
  compL (.n 3) [] h.length [some (D.int x_many), w_1, none, none] (evC (runF lw.T (n + 2)) []) (ev (runF lw.T (n + 2)) (.call 428 [(.v 3), (.c (.int 0)), (.bin .sub (.v 0) (.c (.int 1)))])) (mapD D.int items) (h ++ [.hl []]) =
  rn (compP (s_is_street_435_i_t4iiii_c1 x_many) items []) fun r => .ok (r.map D.bl) (h ++ [.hl (r.map D.bl)]) := by
  refine comp_pu (fun acc => h ++ [.hl acc]) (s_is_street_435_i_t4iiii_c1 x_many) ?_ ?_ ?_ ?_ items
  · intro acc; simp
  · intro acc acc2; simp
  · intro acc; simp [stays]
  · intro a acc
    simp [x_asg, x_seti, x_ex, x_ret, x_retN, x_ife, x_for, x_raise, x_pass, x_brk, x_cont, x_blk, x_nil, x_cons, ev_v, ev_c, ev_tup, ev_lst, ev_dnewT, ev_dnewF, ev_dic, ev_un, ev_bin, ev_cmp, ev_call, ev_bi, ev_idx, ev_rev, evs_nil, evs_cons, evC_nil, evC_one, ev_and, ev_or, ev_cmp2, ev_ite, ev_sl, ev_mt, ev_comp, m_append', idx_ref, in_ref, notin_ref, len_ref, pop1_ref, toTup_ref, sorted_ref, seti_ref, get1_ref, get2_ref, update_ref, getD_oc, add_refL, tidyE_ok, sizeLine_eq, newL, stays, ty_beq, s_is_street_435_i_t4iiii_c1, fd_is_street_435_i_t4iiii_0, fd_is_street_435_i_t4iiii_1, c_are_some_389_t4iiii_i, c_is_among_428_i_i_i]
theorem q_is_street_435_i_t4iiii_c3 (h : Hc) (n : Nat)  (w_0 : Option D) (w_1 : Option D) (items : List Int) :
  compL (.n 2) [] h.length [w_0, w_1, none, none] (evC (runF lw.T (n + 2)) []) (ev (runF lw.T (n + 2)) (.call 428 [(.v 2), (.c (.int 1)), (.c (.int 3))])) (mapD D.int items) (h ++ [.hl []]) =
  rn (compP (s_is_street_435_i_t4iiii_c3 ) items []) fun r => .ok (r.map D.bl) (h ++ [.hl (r.map D.bl)]) := by
  refine comp_pu (fun acc => h ++ [.hl acc]) (s_is_street_435_i_t4iiii_c3 ) ?_ ?_ ?_ ?_ items
  · intro acc; simp
  · intro acc acc2; simp
  · intro acc; simp [stays]
  · intro a acc
    simp [x_asg, x_seti, x_ex, x_ret, x_retN, x_ife, x_for, x_raise, x_pass, x_brk, x_cont, x_blk, x_nil, x_cons, ev_v, ev_c, ev_tup, ev_lst, ev_dnewT, ev_dnewF, ev_dic, ev_un, ev_bin, ev_cmp, ev_call, ev_bi, ev_idx, ev_rev, evs_nil, evs_cons, evC_nil, evC_one, ev_and, ev_or, ev_cmp2, ev_ite, ev_sl, ev_mt, ev_comp, m_append', idx_ref, in_ref, notin_ref, len_ref, pop1_ref, toTup_ref, sorted_ref, seti_ref, get1_ref, get2_ref, update_ref, getD_oc, add_refL, tidyE_ok, sizeLine_eq, newL, stays, ty_beq, s_is_street_435_i_t4iiii_c3, fd_is_street_435_i_t4iiii_0, fd_is_street_435_i_t4iiii_1, c_are_some_389_t4iiii_i, c_is_among_428_i_i_i, q_is_street_435_i_t4iiii_c1]
theorem c_is_street_435_i_t4iiii (h : Hc) (n : Nat) (x_many : Int) (x_thing : (Int × Int × Int × Int)) : runF lw.T (n + 3) 435 [D.int x_many, (e4 D.int D.int D.int D.int) x_thing] h = rx (s_is_street_435_i_t4iiii x_many x_thing) (fun _ => h) fun v => .ok (D.bl v) h := by
  rw [runN (n := n + 2) (F := f_is_street_435) (by rfl) (by rfl)]
  simp [x_asg, x_seti, x_ex, x_ret, x_retN, x_ife, x_for, x_raise, x_pass, x_brk, x_cont, x_blk, x_nil, x_cons, ev_v, ev_c, ev_tup, ev_lst, ev_dnewT, ev_dnewF, ev_dic, ev_un, ev_bin, ev_cmp, ev_call, ev_bi, ev_idx, ev_rev, evs_nil, evs_cons, evC_nil, evC_one, ev_and, ev_or, ev_cmp2, ev_ite, ev_sl, ev_mt, ev_comp, m_append', idx_ref, in_ref, notin_ref, len_ref, pop1_ref, toTup_ref, sorted_ref, seti_ref, get1_ref, get2_ref, update_ref, getD_oc, add_refL, tidyE_ok, sizeLine_eq, newL, stays, ty_beq, f_is_street_435, b_is_street_435, s_is_street_435_i_t4iiii, fd_is_street_435_i_t4iiii_0, fd_is_street_435_i_t4iiii_1, c_are_some_389_t4iiii_i, c_is_among_428_i_i_i, q_is_street_435_i_t4iiii_c1, q_is_street_435_i_t4iiii_c3]
noncomputable def s_hang_together_422_i_qt4iiii_l1  (a : (Int × Int × Int × Int)) (s : (List (Int × Bool))) : X Unit ((List (Int × Bool))) := if (((getA s a.1).isSome) || ((getA s a.2.1).isSome)) then (X.upd s (putA (putA [] a.1 true) a.2.1 true) : X Unit _).bind fun v1 => X.ok v1 else X.ok s
noncomputable def s_hang_together_422_i_qt4iiii_l2 (x_streets : (List (Int × Int × Int × Int))) (a : Int) (s : (List (Int × Bool))) : X Unit ((List (Int × Bool))) := (foldX (s_hang_together_422_i_qt4iiii_l1) x_streets s).bind fun v2 => X.ok v2
noncomputable def s_hang_together_422_i_qt4iiii (x_many : Int) (x_streets : (List (Int × Int × Int × Int))) : X Unit Bool := (X.opt (rng (0 : Int) x_many) : X Unit _).bind fun v1 => (foldX (s_hang_together_422_i_qt4iiii_l2 x_streets) v1 (putA [] (0 : Int) true)).bind fun v4 => X.ok (decide ((v4.length : Int) = x_many))
theorem fd_hang_together_422_i_qt4iiii_0 : ∀ (a0 : Int) (b0 : Bool) (k : O → R D), dicO (some (.dk [])) [D.int a0, D.bl b0] k = k (oMk D.int D.bl (putA [] a0 b0)) := fun a0 b0 k => dicO_1 D.int D.bl a0 b0 k
theorem fd_hang_together_422_i_qt4iiii_1 : ∀ (a0 : Int) (b0 : Bool) (a1 : Int) (b1 : Bool) (k : O → R D), dicO (some (.dk [])) [D.int a0, D.bl b0, D.int a1, D.bl b1] k = k (oMk D.int D.bl (putA (putA [] a0 b0) a1 b1)) := fun a0 b0 a1 b1 k => dicO_2 D.int D.bl a0 b0 a1 b1 k
theorem q_hang_together_422_i_qt4iiii_l1 (h : Hc) (n : Nat)  (o_0 : (List (Int × Bool))) (w_0 : Option D) (hw_0 : flatW w_0 = true) (w_1 : Option D) (hw_1 : flatW w_1 = true) (w_3 : Option D) (hw_3 : flatW w_3 = true) (items : List (Int × Int × Int × Int)) :
  forL (.t [(.n 4), (.n 5), (.n 6), (.n 7)]) [] (bodyN h (runF lw.T n) [.blk [4, 5, 6, 7] [
  .ife (.or (.cmp .isin (.v 4) (.v 2)) (.cmp .isin (.v 5) (.v 2))) [
    .ex (.mt .update1 (.v 2) [(.dic false [(.v 4), (.c (.bl true)), (.v 5), (.c (.bl true))])])] []]]) (mapD (e4 D.int D.int D.int D.int) items) [w_0, w_1, some (.ref (h.length)), w_3, none, none, none, none] (h ++ [oMk D.int D.bl o_0]) =
  sx (foldX (s_hang_together_422_i_qt4iiii_l1 ) items o_0) (fun (_ : Unit) => h) fun s => .nx [w_0, w_1, some (.ref (h.length)), w_3, none, none, none, none] (h ++ [oMk D.int D.bl s]) := by
  refine for_fold (σ := (List (Int × Bool))) (fun s => [w_0, w_1, some (.ref (h.length)), w_3, none, none, none, none]) (fun s => h ++ [oMk D.int D.bl s]) (fun (_ : Unit) => h) (s_hang_together_422_i_qt4iiii_l1 ) ?_ ?_ items o_0
  · intro s; simp [stays]
  · intro a s
    unfold bodyN
    simp [x_asg, x_seti, x_ex, x_ret, x_retN, x_ife, x_for, x_raise, x_pass, x_brk, x_cont, x_blk, x_nil, x_cons, ev_v, ev_c, ev_tup, ev_lst, ev_dnewT, ev_dnewF, ev_dic, ev_un, ev_bin, ev_cmp, ev_call, ev_bi, ev_idx, ev_rev, evs_nil, evs_cons, evC_nil, evC_one, ev_and, ev_or, ev_cmp2, ev_ite, ev_sl, ev_mt, ev_comp, m_append', idx_ref, in_ref, notin_ref, len_ref, pop1_ref, toTup_ref, sorted_ref, seti_ref, get1_ref, get2_ref, update_ref, getD_oc, add_refL, tidyE_ok, sizeLine_eq, newL, stays, ty_beq, s_hang_together_422_i_qt4iiii_l1, fd_hang_together_422_i_qt4iiii_0, fd_hang_together_422_i_qt4iiii_1, envOld_w hw_0, hw_0, envOld_w hw_1, hw_1, envOld_w hw_3, hw_3]
theorem q_hang_together_422_i_qt4iiii_l2 (h : Hc) (n : Nat) (x_streets : (List (Int × Int × Int × Int))) (o_0 : (List (Int × Bool))) (w_0 : Option D) (hw_0 : flatW w_0 = true) (items : List Int) :
  forL (.n 3) [] (bodyN h (runF lw.T n) [.blk [3, 4, 5, 6, 7] [
  .for .seq [(.v 1)] (.t [(.n 4), (.n 5), (.n 6), (.n 7)]) [.blk [4, 5, 6, 7] [
    .ife (.or (.cmp .isin (.v 4) (.v 2)) (.cmp .isin (.v 5) (.v 2))) [
      .ex (.mt .update1 (.v 2) [(.dic false [(.v 4), (.c (.bl true)), (.v 5), (.c (.bl true))])])] []]]]]) (mapD D.int items) [w_0, some ((eTup (e4 D.int D.int D.int D.int)) x_streets), some (.ref (h.length)), none, none, none, none, none] (h ++ [oMk D.int D.bl o_0]) =
  sx (foldX (s_hang_together_422_i_qt4iiii_l2 x_streets) items o_0) (fun (_ : Unit) => h) fun s => .nx [w_0, some ((eTup (e4 D.int D.int D.int D.int)) x_streets), some (.ref (h.length)), none, none, none, none, none] (h ++ [oMk D.int D.bl s]) := by
  refine for_fold (σ := (List (Int × Bool))) (fun s => [w_0, some ((eTup (e4 D.int D.int D.int D.int)) x_streets), some (.ref (h.length)), none, none, none, none, none]) (fun s => h ++ [oMk D.int D.bl s]) (fun (_ : Unit) => h) (s_hang_together_422_i_qt4iiii_l2 x_streets) ?_ ?_ items o_0
  · intro s; simp [stays]
  · intro a s
    unfold bodyN
    simp [x_asg, x_seti, x_ex, x_ret, x_retN, x_ife, x_for, x_raise, x_pass, x_brk, x_cont, x_blk, x_nil, x_cons, ev_v, ev_c, ev_tup, ev_lst, ev_dnewT, ev_dnewF, ev_dic, ev_un, ev_bin, ev_cmp, ev_call, ev_bi, ev_idx, ev_rev, evs_nil, evs_cons, evC_nil, evC_one, ev_and, ev_or, ev_cmp2, ev_ite, ev_sl, ev_mt, ev_comp, m_append', idx_ref, in_ref, notin_ref, len_ref, pop1_ref, toTup_ref, sorted_ref, seti_ref, get1_ref, get2_ref, update_ref, getD_oc, add_refL, tidyE_ok, sizeLine_eq, newL, stays, ty_beq, s_hang_together_422_i_qt4iiii_l2, fd_hang_together_422_i_qt4iiii_0, fd_hang_together_422_i_qt4iiii_1, q_hang_together_422_i_qt4iiii_l1, envOld_w hw_0, hw_0]
theorem c_hang_together_422_i_qt4iiii (h : Hc) (n : Nat) (x_many : Int) (x_streets : (List (Int × Int × Int × Int))) : runF lw.T (n + 1) 422 [D.int x_many, (eTup (e4 D.int D.int D.int D.int)) x_streets] h = rx (s_hang_together_422_i_qt4iiii x_many x_streets) (fun _ => h) fun v => .ok (D.bl v) h := by
  rw [runN (n := n) (F := f_hang_together_422) (by rfl) (by rfl)]
  simp [x_asg, x_seti, x_ex, x_ret, x_retN, x_ife, x_for, x_raise, x_pass, x_brk, x_cont, x_blk, x_nil, x_cons, ev_v, ev_c, ev_tup, ev_lst, ev_dnewT, ev_dnewF, ev_dic, ev_un, ev_bin, ev_cmp, ev_call, ev_bi, ev_idx, ev_rev, evs_nil, evs_cons, evC_nil, evC_one, ev_and, ev_or, ev_cmp2, ev_ite, ev_sl, ev_mt, ev_comp, m_append', idx_ref, in_ref, notin_ref, len_ref, pop1_ref, toTup_ref, sorted_ref, seti_ref, get1_ref, get2_ref, update_ref, getD_oc, add_refL, tidyE_ok, sizeLine_eq, newL, stays, ty_beq, f_hang_together_422, b_hang_together_422, s_hang_together_422_i_qt4iiii, fd_hang_together_422_i_qt4iiii_0, fd_hang_together_422_i_qt4iiii_1, q_hang_together_422_i_qt4iiii_l1, q_hang_together_422_i_qt4iiii_l2]
noncomputable def s_is_net_430_net_c1 (x_many : Int) (a : (Int × Int × Int × Int)) : X Unit (Option Bool) := (s_is_street_435_i_t4iiii x_many a).bind fun v1 => X.ok (some v1)
noncomputable def s_is_net_430_net_c2  (a : (Int × Int × Int × Int)) : X Unit (Option (Int × Int)) := X.ok (some (a.1, a.2.1))
noncomputable def s_is_net_430_net_c3  (a : ((Int × Int) × (Int × Int))) : X Unit (Option Bool) := X.ok (some (ltII a.1 a.2))
noncomputable def s_is_net_430_net (x_thing : (Int × (List (Int × Int × Int × Int)))) : X Unit Bool := (s_are_some_389_net_i x_thing (2 : Int)).bind fun v1 => ((if (!v1) then X.ok true else (s_is_among_428_i_i_i x_thing.1 (1 : Int) (6 : Int)).bind fun v3 => X.ok ((!v3) || false)) : X Unit _).bind fun v2 => if v2 then X.ok false else ((compP (s_is_net_430_net_c1 x_thing.1) x_thing.2 []).nox : X Unit _).bind fun v5 => if (!(v5.all id)) then X.ok false else ((compP (s_is_net_430_net_c2) x_thing.2 []).nox : X Unit _).bind fun v6 => ((compP (s_is_net_430_net_c3) (v6.zip (cutL v6 (some (1 : Int)) none)) []).nox : X Unit _).bind fun v7 => ((if (v7.all id) then (s_hang_together_422_i_qt4iiii x_thing.1 x_thing.2).bind fun v9 => X.ok v9 else X.ok false) : X Unit _).bind fun v8 => X.ok v8
theorem fd_is_net_430_net_0 : ∀ (fr : Bool) (t : (Int × Int × Int × Int)) (h : Hc), sliceP fr ((e4 D.int D.int D.int D.int) t) .non (.int 2) h = .ok ((e2 D.int D.int) (t.1, t.2.1)) h := by intros; rfl
theorem q_is_net_430_net_c1 (h : Hc) (n : Nat) (x_many : Int) (w_0 : Option D) (w_3 : Option D) (items : List (Int × Int × Int × Int)) :
  compL (.n 4) [] h.length [w_0, none, some (D.int x_many), w_3, none, none, none] (evC (runF lw.T (n + 3)) []) (ev (runF lw.T (n + 3)) (.call 435 [(.v 2), (.v 4)])) (mapD (e4 D.int D.int D.int D.int) items) (h ++ [.hl []]) =
  rn (compP (s_is_net_430_net_c1 x_many) items []) fun r => .ok (r.map D.bl) (h ++ [.hl (r.map D.bl)]) := by
  refine comp_pu (fun acc => h ++ [.hl acc]) (s_is_net_430_net_c1 x_many) ?_ ?_ ?_ ?_ items
  · intro acc; simp
  · intro acc acc2; simp
  · intro acc; simp [stays]
  · intro a acc
    simp [x_asg, x_seti, x_ex, x_ret, x_retN, x_ife, x_for, x_raise, x_pass, x_brk, x_cont, x_blk, x_nil, x_cons, ev_v, ev_c, ev_tup, ev_lst, ev_dnewT, ev_dnewF, ev_dic, ev_un, ev_bin, ev_cmp, ev_call, ev_bi, ev_idx, ev_rev, evs_nil, evs_cons, evC_nil, evC_one, ev_and, ev_or, ev_cmp2, ev_ite, ev_sl, ev_mt, ev_comp, m_append', idx_ref, in_ref, notin_ref, len_ref, pop1_ref, toTup_ref, sorted_ref, seti_ref, get1_ref, get2_ref, update_ref, getD_oc, add_refL, tidyE_ok, sizeLine_eq, newL, stays, ty_beq, s_is_net_430_net_c1, fd_is_net_430_net_0, c_are_some_389_net_i, c_is_among_428_i_i_i, c_is_street_435_i_t4iiii, c_hang_together_422_i_qt4iiii]
theorem q_is_net_430_net_c2 (h : Hc) (n : Nat)  (w_0 : Option D) (w_2 : Option D) (w_3 : Option D) (items : List (Int × Int × Int × Int)) :
  compL (.n 4) [] h.length [w_0, none, w_2, w_3, none, none, none] (evC (runF lw.T (n + 3)) []) (ev (runF lw.T (n + 3)) (.sl true (.v 4) (.c .non) (.c (.int 2)))) (mapD (e4 D.int D.int D.int D.int) items) (h ++ [.hl []]) =
  rn (compP (s_is_net_430_net_c2 ) items []) fun r => .ok (r.map (e2 D.int D.int)) (h ++ [.hl (r.map (e2 D.int D.int))]) := by
  refine comp_pu (fun acc => h ++ [.hl acc]) (s_is_net_430_net_c2 ) ?_ ?_ ?_ ?_ items
  · intro acc; simp
  · intro acc acc2; simp
  · intro acc; simp [stays]
  · intro a acc
    simp [x_asg, x_seti, x_ex, x_ret, x_retN, x_ife, x_for, x_raise, x_pass, x_brk, x_cont, x_blk, x_nil, x_cons, ev_v, ev_c, ev_tup, ev_lst, ev_dnewT, ev_dnewF, ev_dic, ev_un, ev_bin, ev_cmp, ev_call, ev_bi, ev_idx, ev_rev, evs_nil, evs_cons, evC_nil, evC_one, ev_and, ev_or, ev_cmp2, ev_ite, ev_sl, ev_mt, ev_comp, m_append', idx_ref, in_ref, notin_ref, len_ref, pop1_ref, toTup_ref, sorted_ref, seti_ref, get1_ref, get2_ref, update_ref, getD_oc, add_refL, tidyE_ok, sizeLine_eq, newL, stays, ty_beq, s_is_net_430_net_c2, fd_is_net_430_net_0, c_are_some_389_net_i, c_is_among_428_i_i_i, c_is_street_435_i_t4iiii, c_hang_together_422_i_qt4iiii, q_is_net_430_net_c1]
theorem q_is_net_430_net_c3 (h : Hc) (n : Nat)  (w_0 : Option D) (w_1 : Option D) (w_2 : Option D) (w_3 : Option D) (items : List ((Int × Int) × (Int × Int))) :
  compL (.t [(.n 5), (.n 6)]) [] h.length [w_0, w_1, w_2, w_3, none, none, none] (evC (runF lw.T (n + 3)) []) (ev (runF lw.T (n + 3)) (.cmp .lt (.v 5) (.v 6))) (mapD (e2 (e2 D.int D.int) (e2 D.int D.int)) items) (h ++ [.hl []]) =
  rn (compP (s_is_net_430_net_c3 ) items []) fun r => .ok (r.map D.bl) (h ++ [.hl (r.map D.bl)]) := by
  refine comp_pu (fun acc => h ++ [.hl acc]) (s_is_net_430_net_c3 ) ?_ ?_ ?_ ?_ items
  · intro acc; simp
  · intro acc acc2; simp
  · intro acc; simp [stays]
  · intro a acc
    simp [x_asg, x_seti, x_ex, x_ret, x_retN, x_ife, x_for, x_raise, x_pass, x_brk, x_cont, x_blk, x_nil, x_cons, ev_v, ev_c, ev_tup, ev_lst, ev_dnewT, ev_dnewF, ev_dic, ev_un, ev_bin, ev_cmp, ev_call, ev_bi, ev_idx, ev_rev, evs_nil, evs_cons, evC_nil, evC_one, ev_and, ev_or, ev_cmp2, ev_ite, ev_sl, ev_mt, ev_comp, m_append', idx_ref, in_ref, notin_ref, len_ref, pop1_ref, toTup_ref, sorted_ref, seti_ref, get1_ref, get2_ref, update_ref, getD_oc, add_refL, tidyE_ok, sizeLine_eq, newL, stays, ty_beq, s_is_net_430_net_c3, fd_is_net_430_net_0, c_are_some_389_net_i, c_is_among_428_i_i_i, c_is_street_435_i_t4iiii, c_hang_together_422_i_qt4iiii, q_is_net_430_net_c1, q_is_net_430_net_c2]
theorem c_is_net_430_net (h : Hc) (n : Nat) (x_thing : (Int × (List (Int × Int × Int × Int)))) : runF lw.T (n + 4) 430 [(e2 D.int (eTup (e4 D.int D.int D.int D.int))) x_thing] h = rx (s_is_net_430_net x_thing) (fun _ => h) fun v => .ok (D.bl v) h := by
  rw [runN (n := n + 3) (F := f_is_net_430) (by rfl) (by rfl)]
  simp [x_asg, x_seti, x_ex, x_ret, x_retN, x_ife, x_for, x_raise, x_pass, x_brk, x_cont, x_blk, x_nil, x_cons, ev_v, ev_c, ev_tup, ev_lst, ev_dnewT, ev_dnewF, ev_dic, ev_un, ev_bin, ev_cmp, ev_call, ev_bi, ev_idx, ev_rev, evs_nil, evs_cons, evC_nil, evC_one, ev_and, ev_or, ev_cmp2, ev_ite, ev_sl, ev_mt, ev_comp, m_append', idx_ref, in_ref, notin_ref, len_ref, pop1_ref, toTup_ref, sorted_ref, seti_ref, get1_ref, get2_ref, update_ref, getD_oc, add_refL, tidyE_ok, sizeLine_eq, newL, stays, ty_beq, f_is_net_430, b_is_net_430, s_is_net_430_net, fd_is_net_430_net_0, c_are_some_389_net_i, c_is_among_428_i_i_i, c_is_street_435_i_t4iiii, c_hang_together_422_i_qt4iiii, q_is_net_430_net_c1, q_is_net_430_net_c2, q_is_net_430_net_c3]
noncomputable def s_need_net_562_net (x_thing : (Int × (List (Int × Int × Int × Int)))) : X Unit Unit := (s_is_net_430_net x_thing).bind fun v1 => if (!v1) then X.ex 1 () else X.ok ()
theorem c_need_net_562_net (h : Hc) (n : Nat) (x_thing : (Int × (List (Int × Int × Int × Int)))) : runF lw.T (n + 5) 562 [(e2 D.int (eTup (e4 D.int D.int D.int D.int))) x_thing] h = rx (s_need_net_562_net x_thing) (fun _ => h) fun v => .ok (eN v) h := by
  rw [runN (n := n + 4) (F := f_need_net_562) (by rfl) (by rfl)]
  simp [x_asg, x_seti, x_ex, x_ret, x_retN, x_ife, x_for, x_raise, x_pass, x_brk, x_cont, x_blk, x_nil, x_cons, ev_v, ev_c, ev_tup, ev_lst, ev_dnewT, ev_dnewF, ev_dic, ev_un, ev_bin, ev_cmp, ev_call, ev_bi, ev_idx, ev_rev, evs_nil, evs_cons, evC_nil, evC_one, ev_and, ev_or, ev_cmp2, ev_ite, ev_sl, ev_mt, ev_comp, m_append', idx_ref, in_ref, notin_ref, len_ref, pop1_ref, toTup_ref, sorted_ref, seti_ref, get1_ref, get2_ref, update_ref, getD_oc, add_refL, tidyE_ok, sizeLine_eq, newL, stays, ty_beq, f_need_net_562, b_need_net_562, s_need_net_562_net, c_is_net_430_net]
noncomputable def s_is_row_by_432_net_qi_c1 (x_net : (Int × (List (Int × Int × Int × Int)))) (a : Int) : X Unit (Option Bool) := (s_is_among_428_i_i_i a (0 : Int) (x_net.1 - (1 : Int))).bind fun v1 => X.ok (some v1)
noncomputable def s_is_row_by_432_net_qi (x_net : (Int × (List (Int × Int × Int × Int)))) (x_thing : (List Int)) : X Unit Bool := ((compP (s_is_row_by_432_net_qi_c1 x_net) x_thing []).nox : X Unit _).bind fun v2 => X.ok (v2.all id)
theorem q_is_row_by_432_net_qi_c1 (h : Hc) (n : Nat) (x_net : (Int × (List (Int × Int × Int × Int)))) (w_1 : Option D) (items : List Int) :
  compL (.n 2) [] h.length [some ((e2 D.int (eTup (e4 D.int D.int D.int D.int))) x_net), w_1, none] (evC (runF lw.T (n + 2)) []) (ev (runF lw.T (n + 2)) (.call 428 [(.v 2), (.c (.int 0)), (.bin .sub (.idx (.v 0) (.c (.int 0))) (.c (.int 1)))])) (mapD D.int items) (h ++ [.hl []]) =
  rn (compP (s_is_row_by_432_net_qi_c1 x_net) items []) fun r => .ok (r.map D.bl) (h ++ [.hl (r.map D.bl)]) := by
  refine comp_pu (fun acc => h ++ [.hl acc]) (s_is_row_by_432_net_qi_c1 x_net) ?_ ?_ ?_ ?_ items
  · intro acc; simp
  · intro acc acc2; simp
  · intro acc; simp [stays]
  · intro a acc
    simp [x_asg, x_seti, x_ex, x_ret, x_retN, x_ife, x_for, x_raise, x_pass, x_brk, x_cont, x_blk, x_nil, x_cons, ev_v, ev_c, ev_tup, ev_lst, ev_dnewT, ev_dnewF, ev_dic, ev_un, ev_bin, ev_cmp, ev_call, ev_bi, ev_idx, ev_rev, evs_nil, evs_cons, evC_nil, evC_one, ev_and, ev_or, ev_cmp2, ev_ite, ev_sl, ev_mt, ev_comp, m_append', idx_ref, in_ref, notin_ref, len_ref, pop1_ref, toTup_ref, sorted_ref, seti_ref, get1_ref, get2_ref, update_ref, getD_oc, add_refL, tidyE_ok, sizeLine_eq, newL, stays, ty_beq, s_is_row_by_432_net_qi_c1, c_is_among_428_i_i_i]
theorem c_is_row_by_432_net_qi (h : Hc) (n : Nat) (x_net : (Int × (List (Int × Int × Int × Int)))) (x_thing : (List Int)) : runF lw.T (n + 3) 432 [(e2 D.int (eTup (e4 D.int D.int D.int D.int))) x_net, (eTup D.int) x_thing] h = rx (s_is_row_by_432_net_qi x_net x_thing) (fun _ => h) fun v => .ok (D.bl v) h := by
  rw [runN (n := n + 2) (F := f_is_row_by_432) (by rfl) (by rfl)]
  simp [x_asg, x_seti, x_ex, x_ret, x_retN, x_ife, x_for, x_raise, x_pass, x_brk, x_cont, x_blk, x_nil, x_cons, ev_v, ev_c, ev_tup, ev_lst, ev_dnewT, ev_dnewF, ev_dic, ev_un, ev_bin, ev_cmp, ev_call, ev_bi, ev_idx, ev_rev, evs_nil, evs_cons, evC_nil, evC_one, ev_and, ev_or, ev_cmp2, ev_ite, ev_sl, ev_mt, ev_comp, m_append', idx_ref, in_ref, notin_ref, len_ref, pop1_ref, toTup_ref, sorted_ref, seti_ref, get1_ref, get2_ref, update_ref, getD_oc, add_refL, tidyE_ok, sizeLine_eq, newL, stays, ty_beq, f_is_row_by_432, b_is_row_by_432, s_is_row_by_432_net_qi, c_is_among_428_i_i_i, q_is_row_by_432_net_qi_c1]
noncomputable def s_need_row_by_567_net_qi (x_net : (Int × (List (Int × Int × Int × Int)))) (x_thing : (List Int)) : X Unit Unit := (s_is_row_by_432_net_qi x_net x_thing).bind fun v1 => if (!v1) then X.ex 5 () else X.ok ()
theorem c_need_row_by_567_net_qi (h : Hc) (n : Nat) (x_net : (Int × (List (Int × Int × Int × Int)))) (x_thing : (List Int)) : runF lw.T (n + 4) 567 [(e2 D.int (eTup (e4 D.int D.int D.int D.int))) x_net, (eTup D.int) x_thing] h = rx (s_need_row_by_567_net_qi x_net x_thing) (fun _ => h) fun v => .ok (eN v) h := by
  rw [runN (n := n + 3) (F := f_need_row_by_567) (by rfl) (by rfl)]
  simp [x_asg, x_seti, x_ex, x_ret, x_retN, x_ife, x_for, x_raise, x_pass, x_brk, x_cont, x_blk, x_nil, x_cons, ev_v, ev_c, ev_tup, ev_lst, ev_dnewT, ev_dnewF, ev_dic, ev_un, ev_bin, ev_cmp, ev_call, ev_bi, ev_idx, ev_rev, evs_nil, evs_cons, evC_nil, evC_one, ev_and, ev_or, ev_cmp2, ev_ite, ev_sl, ev_mt, ev_comp, m_append', idx_ref, in_ref, notin_ref, len_ref, pop1_ref, toTup_ref, sorted_ref, seti_ref, get1_ref, get2_ref, update_ref, getD_oc, add_refL, tidyE_ok, sizeLine_eq, newL, stays, ty_beq, f_need_row_by_567, b_need_row_by_567, s_need_row_by_567_net_qi, c_is_row_by_432_net_qi]
noncomputable def s_need_row_566_net_qi (x_net : (Int × (List (Int × Int × Int × Int)))) (x_row : (List Int)) : X Unit Unit := (s_need_net_562_net x_net).bind fun v1 => (s_need_row_by_567_net_qi x_net x_row).bind fun v2 => X.ok ()
theorem c_need_row_566_net_qi (h : Hc) (n : Nat) (x_net : (Int × (List (Int × Int × Int × Int)))) (x_row : (List Int)) : runF lw.T (n + 6) 566 [(e2 D.int (eTup (e4 D.int D.int D.int D.int))) x_net, (eTup D.int) x_row] h = rx (s_need_row_566_net_qi x_net x_row) (fun _ => h) fun v => .ok (eN v) h := by
  rw [runN (n := n + 5) (F := f_need_row_566) (by rfl) (by rfl)]
  simp [x_asg, x_seti, x_ex, x_ret, x_retN, x_ife, x_for, x_raise, x_pass, x_brk, x_cont, x_blk, x_nil, x_cons, ev_v, ev_c, ev_tup, ev_lst, ev_dnewT, ev_dnewF, ev_dic, ev_un, ev_bin, ev_cmp, ev_call, ev_bi, ev_idx, ev_rev, evs_nil, evs_cons, evC_nil, evC_one, ev_and, ev_or, ev_cmp2, ev_ite, ev_sl, ev_mt, ev_comp, m_append', idx_ref, in_ref, notin_ref, len_ref, pop1_ref, toTup_ref, sorted_ref, seti_ref, get1_ref, get2_ref, update_ref, getD_oc, add_refL, tidyE_ok, sizeLine_eq, newL, stays, ty_beq, f_need_row_566, b_need_row_566, s_need_row_566_net_qi, c_need_net_562_net, c_need_row_by_567_net_qi]
noncomputable def s_gives_of_420_net_l1 (a : Int × Int × Int × Int) (s : List (List (Int × Int))) : X Unit (List (List (Int × Int))) := (X.opt (ixL s a.1) : X Unit _).bind fun v1 => (X.push v1 (a.2.1, a.2.2.1) : X Unit _).bind fun v2 => (X.opt (setL s a.1 v2) : X Unit _).bind fun s => (X.opt (ixL s a.2.1) : X Unit _).bind fun v3 => (X.push v3 (a.1, a.2.2.2) : X Unit _).bind fun v4 => X.opt (setL s a.2.1 v4)
noncomputable def s_gives_of_420_net (x_net : Int × List (Int × Int × Int × Int)) : X Unit (List (List (Int × Int))) := (X.opt (rng 0 x_net.1) : X Unit _).bind fun v1 => if v1.length ≤ sizeLine then (foldX s_gives_of_420_net_l1 x_net.2 (List.replicate v1.length [])).bind fun v2 => if v2.length ≤ sizeLine then X.ok (v2.map (sortL ltII)) else .bad else .bad
def e22 : Int × Int → D := e2 D.int D.int
/-- the heap within gives_of: the outer list, the rows -/
def gvH (h : Hc) (rows : List (List (Int × Int))) : Hc := h ++ .lst ((List.range rows.length).map fun j => D.ref (h.length + 1 + j)) :: rows.map (oLst (e2 D.int D.int))
theorem gvH_0 (h : Hc) (rows) : (gvH h rows)[h.length]? = some (.lst ((List.range rows.length).map fun j => D.ref (h.length + 1 + j))) := by simp [gvH]
theorem gvH_j (h : Hc) (rows) (j : Nat) : (gvH h rows)[h.length + 1 + j]? = (rows[j]?).map (oLst (e2 D.int D.int)) := by
  unfold gvH
  rw [Nat.add_assoc, get_app, Nat.add_comm 1 j, List.getElem?_cons_succ, List.getElem?_map]
theorem gvH_set (h : Hc) (rows : List (List (Int × Int))) (j : Nat) (row : List (Int × Int)) : (gvH h rows).set (h.length + 1 + j) (oLst (e2 D.int D.int) row) = gvH h (rows.set j row) := by
  unfold gvH
  rw [Nat.add_assoc, set_app, Nat.add_comm 1 j, List.set_cons_succ, List.map_set, List.length_set]
theorem gv_idx (h : Hc) (rows : List (List (Int × Int))) (i : Int) : prim2 .idx (.ref h.length) (.int i) (gvH h rows) = ro (ixD rows.length i) fun j => .ok (.ref (h.length + 1 + j)) (gvH h rows) := by
  rw [idx_ref, gvH_0]
  simp only [idO, List.length_map, List.length_range]
  cases hi : ixD rows.length i with
  | none => rfl
  | some j =>
    have hj : j < rows.length := by
      unfold ixD at hi
      split at hi
      · split at hi
        · cases hi; omega
        · cases hi
      · split at hi
        · cases hi; omega
        · cases hi
    simp [hj]
theorem gv_push (h : Hc) (rows : List (List (Int × Int))) (i : Int) (x : Int × Int) (k : D → Hc → R D) : ((ro (ixD rows.length i) fun j => R.ok (D.ref (h.length + 1 + j)) (gvH h rows)).bind fun d H => rcv .append d H ((primM .append d [e2 D.int D.int x] H).bind k)) =
    ro (ixL rows i) fun row => if row.length < sizeLine then ro (setL rows i (row ++ [x])) fun rows => k .non (gvH h rows) else .bad := by
  unfold ixL setL
  cases hi : ixD rows.length i with
  | none => rfl
  | some j =>
    have hj : j < rows.length := by
      unfold ixD at hi
      split at hi
      · split at hi
        · cases hi; omega
        · cases hi
      · split at hi
        · cases hi; omega
        · cases hi
    have e1 : rows[j]? = some rows[j] := List.getElem?_eq_getElem hj
    simp only [ro_some, R.bind_ok, rcv_append, gvH_j, e1, Option.map_some, isLO_l, if_true, m_append', apO_l, Option.bind_some, bind_ite, R.bind_ok, R.bind_bad, gvH_set]
theorem gv_comp (h : Hc) (n : Nat) (w_0 : Option D) (items : List Int) : compL (.n 6) [] h.length [w_0, none, none, none, none, none, none, none] (evC (runF lw.T n) []) (ev (runF lw.T n) (.lst false [])) (mapD D.int items) (h ++ [.hl []]) =
    if items.length ≤ sizeLine then .ok ((List.range items.length).map fun j => D.ref (h.length + 1 + j)) (h ++ .hl ((List.range items.length).map fun j => D.ref (h.length + 1 + j)) :: List.replicate items.length (O.lst [])) else .bad := by
  have h1 := comp_st (σ := Nat) (ε := Unit) (g := []) (n := h.length) (oe := fun j : Nat => D.ref (h.length + 1 + j)) (tg := .n 6) (ρ := [w_0, none, none, none, none, none, none, none]) (c := evC (runF lw.T n) []) (e := ev (runF lw.T n) (.lst false [])) (ie := D.int) (fun s acc => h ++ .hl acc :: List.replicate s (O.lst [])) (fun _ s => .ok (some s, s + 1)) (by intro s acc; simp) (by intro s acc acc2; simp) (by intro s acc; simp [stays]) (by
    intro a s acc
    simp [evC_nil, ev_lst, evs_nil, newL, Nat.add_assoc, Nat.add_comm]
    exact ⟨by omega, List.replicate_succ'.symm⟩) items 0
  have h2 : ∀ (its : List Int) (acc : List Nat) (s : Nat), acc.length = s → acc = List.range s → (compX (ε := Unit) (fun (_ : Int) s => .ok (some s, s + 1)) its acc s) = if acc.length + its.length ≤ sizeLine ∨ its = [] then .ok (List.range (s + its.length), s + its.length) else .bad := by
    intro its
    induction its with
    | nil => intro acc s _ e2; simp [compX, e2]
    | cons a as ih =>
      intro acc s e1 e2
      simp only [compX, X.bind_ok]
      by_cases hl : acc.length < sizeLine
      · rw [if_pos hl, ih (acc ++ [s]) (s + 1) (by simp [e1]) (by rw [e2, List.range_succ])]
        simp only [List.length_append, List.length_cons, List.length_nil, Nat.zero_add, List.cons_ne_nil, or_false]
        by_cases ha : as = []
        · subst ha
          simp
          omega
        · simp only [ha, or_false]
          have e3 : s + 1 + as.length = s + (as.length + 1) := by omega
          have e4 : acc.length + 1 + as.length = acc.length + (as.length + 1) := by omega
          rw [e3, e4]
      · rw [if_neg hl, if_neg]
        simp
        omega
  rw [h2 items [] 0 rfl rfl] at h1
  simp only [List.replicate_zero, List.length_nil, Nat.zero_add] at h1
  rw [h1]
  by_cases hi : items = []
  · subst hi
    simp [rn]
  · simp only [hi, or_false]
    split <;> rfl
theorem gv_step (b0 h : Hc) (n : Nat) (w_0 : Option D) (hw_0 : flatW w_0 = true) (a : Int × Int × Int × Int) (rows : List (List (Int × Int))) :
    bindS (bindT (.t [.n 2, .n 3, .n 4, .n 5]) (e4 D.int D.int D.int D.int a) [w_0, some (.ref h.length), none, none, none, none, none, none]) (fun ρ => bodyN b0 (runF lw.T n) [.blk [2, 3, 4, 5] [.ex (.mt .append (.idx (.v 1) (.v 2)) [(.tup [(.v 3), (.v 4)])]), .ex (.mt .append (.idx (.v 1) (.v 3)) [(.tup [(.v 2), (.v 5)])])]] ρ (gvH h rows)) =
    sx (s_gives_of_420_net_l1 a rows) (fun (_ : Unit) => b0) fun rows => .nx [w_0, some (.ref h.length), none, none, none, none, none, none] (gvH h rows) := by
  have fold : ∀ (x y : Int), D.tup [D.int x, D.int y] = e2 D.int D.int (x, y) := fun _ _ => rfl
  have hl : ∀ (r : List (List (Int × Int))), (gvH h r).length = h.length + 1 + r.length := fun r => by simp [gvH]; omega
  have hset : ∀ (r r' : List (List (Int × Int))) (i : Int) (x : List (Int × Int)), setL r i x = some r' → r'.length = r.length := fun r r' i x e => by
    unfold setL at e
    cases hi : ixD r.length i with
    | none => rw [hi] at e; cases e
    | some k => rw [hi] at e; cases e; simp
  have app : ∀ (i : Int) (x : Int × Int) (r : List (List (Int × Int))) (k : Hc → S), ((((ro (ixD r.length i) fun j => R.ok (D.ref (h.length + 1 + j)) (gvH h r)).bind fun d H => rcv .append d H ((R.ok [e2 D.int D.int x] H).bind fun ds H => primM .append d ds H)).stM b0 fun _ H => k H)) =
      so (ixL r i) fun row => if row.length < sizeLine then so (setL r i (row ++ [x])) fun r => k (gvH h r) else .bad := fun i x r k => by
    unfold ixL setL
    cases hi : ixD r.length i with
    | none => rfl
    | some j =>
      have hj : j < r.length := by
        unfold ixD at hi
        split at hi
        · split at hi
          · cases hi; omega
          · cases hi
        · split at hi
          · cases hi; omega
          · cases hi
      have e1 : r[j]? = some r[j] := List.getElem?_eq_getElem hj
      simp only [ro_some, R.bind_ok, rcv_append, gvH_j, e1, Option.map_some, isLO_l, if_true, m_append', apO_l, Option.bind_some, bind_ite, R.bind_ok, R.bind_bad, gvH_set, so_some, stM_ite, stM_ok, stM_bad]
  have kp : ∀ r r' : List (List (Int × Int)), r'.length = r.length → kept (gvH h r) (gvH h r') = true := fun r r' e => by
    unfold kept
    simp only [hl, e, Nat.le_refl, decide_true, Bool.true_and, List.all_eq_true, List.mem_range, Bool.or_eq_true, decide_eq_true_eq]
    intro i hi
    by_cases h1 : i < h.length
    · left
      simp [gvH, List.getElem?_append_left h1]
    · by_cases h2 : i = h.length
      · subst h2
        left
        rw [gvH_0, gvH_0, e]
      · right
        obtain ⟨j, rfl⟩ : ∃ j, i = h.length + 1 + j := ⟨i - h.length - 1, by omega⟩
        have hj : j < r'.length := by omega
        rw [gvH_j, List.getElem?_eq_getElem hj]
        simp only [Option.map_some]
        exact O.flat_old _ (by simp)
  have tk : ∀ r r' : List (List (Int × Int)), r'.length = r.length → (gvH h r').take (gvH h r).length = gvH h r' := fun r r' e => by
    rw [hl, ← e, ← hl, List.take_length]
  unfold bodyN
  have fin2 : ∀ r r' : List (List (Int × Int)), r'.length = r.length → tidyS [2, 3, 4, 5] (gvH h r) (.nx [w_0, some (.ref h.length), some (.int a.1), some (.int a.2.1), some (.int a.2.2.1), some (.int a.2.2.2), none, none] (gvH h r')) = .nx [w_0, some (.ref h.length), none, none, none, none, none, none] (gvH h r') := fun r r' e => by
    rw [tidy_nx, tidyE_ok (kp r r' e) (by simp [envOld_w hw_0, hl]; omega), tk r r' e]
    simp
  have e3 : ∀ (x : Int × Int) (i : Int) (r : List (List (Int × Int))) (k : Hc → S), ((ro (ixD r.length i) fun j => R.ok (D.ref (h.length + 1 + j)) (gvH h r)).bind fun d H => rcv .append d H (primM .append d [e2 D.int D.int x] H)).stM b0 (fun _ H => k H) = so (ixL r i) fun row => if row.length < sizeLine then so (setL r i (row ++ [x])) fun r => k (gvH h r) else .bad := fun x i r k => app i x r k
  have l2 : 2 ≤ sizeLine := by rw [sizeLine_eq]; decide
  simp only [bindT_e4, bindTs_cons, bindT_n, Option.bind_some, bindTs_nil, bindS_some, put_0, put_1, put_2, put_3, put_4, put_5, put_6, put_7, x_cons, x_blk, x_ex, x_nil, ev_mt, ev_idx, ev_v, vr_some, nth_0, nth_1, nth_2, nth_3, nth_4, nth_5, nth_6, nth_7, R.bind_ok, gv_idx, evs_cons, evs_nil, ev_tup, List.length_cons, List.length_nil, l2, Nat.reduceAdd, if_true, fold, e3, then_so, then_ite, S.andThen_nx, S.andThen_bad, tidy_so, tidy_ite, tidy_bad]
  unfold s_gives_of_420_net_l1
  simp only [sx_bind, sx_opt, sx_push]
  cases h1 : ixL rows a.1 with
  | none => rfl
  | some r1 =>
    simp only [so_some]
    split
    · cases h2 : setL rows a.1 (r1 ++ [(a.2.1, a.2.2.1)]) with
      | none => rfl
      | some r2 =>
        simp only [so_some]
        cases h3 : ixL r2 a.2.1 with
        | none => rfl
        | some r3 =>
          simp only [so_some]
          split
          · cases h4 : setL r2 a.2.1 (r3 ++ [(a.1, a.2.2.2)]) with
            | none => rfl
            | some r4 =>
              simp only [so_some]
              rw [fin2 rows r4 ((hset _ _ _ _ h4).trans (hset _ _ _ _ h2))]
              rfl
          · rfl
    · rfl
theorem gv_loop (b0 h : Hc) (n : Nat) (w_0 : Option D) (hw_0 : flatW w_0 = true) (items : List (Int × Int × Int × Int)) (rows : List (List (Int × Int))) :
    forL (.t [.n 2, .n 3, .n 4, .n 5]) [] (bodyN b0 (runF lw.T n) [.blk [2, 3, 4, 5] [.ex (.mt .append (.idx (.v 1) (.v 2)) [(.tup [(.v 3), (.v 4)])]), .ex (.mt .append (.idx (.v 1) (.v 3)) [(.tup [(.v 2), (.v 5)])])]]) (mapD (e4 D.int D.int D.int D.int) items) [w_0, some (.ref h.length), none, none, none, none, none, none] (gvH h rows) =
    sx (foldX s_gives_of_420_net_l1 items rows) (fun (_ : Unit) => b0) fun rows => .nx [w_0, some (.ref h.length), none, none, none, none, none, none] (gvH h rows) :=
  for_fold (fun _ => [w_0, some (.ref h.length), none, none, none, none, none, none]) (fun rows => gvH h rows) (fun (_ : Unit) => b0) s_gives_of_420_net_l1 (fun s => by simp [stays]) (fun a s => gv_step b0 h n w_0 hw_0 a s) items rows
theorem gv_sort (h : Hc) (n : Nat) (w_0 : Option D) (rows : List (List (Int × Int))) :
    compL (.n 7) [(h.length, .lst ((List.range rows.length).map fun j => D.ref (h.length + 1 + j)))] (gvH h rows).length [w_0, some (.ref h.length), none, none, none, none, none, none] (evC (runF lw.T n) []) (ev (runF lw.T n) (.bi (.sorted true) [(.v 7)])) ((List.range rows.length).map fun j => D.ref (h.length + 1 + j)) (gvH h rows ++ [.hl []]) =
    if rows.length ≤ sizeLine then .ok ((rows.map (sortL ltII)).map (eLst (e2 D.int D.int))) (gvH h rows ++ [.hl ((rows.map (sortL ltII)).map (eLst (e2 D.int D.int)))]) else .bad := by
  have h1 := comp_st (σ := Unit) (ε := Unit) (g := [(h.length, .lst ((List.range rows.length).map fun j => D.ref (h.length + 1 + j)))]) (n := (gvH h rows).length) (oe := eLst (e2 D.int D.int)) (tg := .n 7) (ρ := [w_0, some (.ref h.length), none, none, none, none, none, none]) (c := evC (runF lw.T n) []) (e := ev (runF lw.T n) (.bi (.sorted true) [(.v 7)])) (ie := fun j : Nat => D.ref (h.length + 1 + j)) (fun _ acc => gvH h rows ++ [.hl acc]) (fun j s => (X.opt rows[j]?).bind fun r => .ok (some (sortL ltII r), s)) (by intro s acc; simp) (by intro s acc acc2; simp) (by
    intro s acc
    have : h.length < (gvH h rows).length := by simp [gvH]
    simp [stays, List.getElem?_append_left this, gvH_0]) (by
    intro j s acc
    have e0 : (gvH h rows ++ [O.hl acc])[h.length + 1 + j]? = (rows[j]?).map (oLst (e2 D.int D.int)) ∨ rows.length ≤ j := by
      by_cases hj : j < rows.length
      · left
        have : h.length + 1 + j < (gvH h rows).length := by simp [gvH]; omega
        rw [List.getElem?_append_left this, gvH_j]
      · right; omega
    simp only [bindT_n, cmB_some, put_0, put_1, put_2, put_3, put_4, put_5, put_6, put_7, evC_nil, R.bind_ok, if_true, ev_bi, evs_cons, evs_nil, ev_v, nth_0, nth_1, nth_2, nth_3, nth_4, nth_5, nth_6, nth_7, vr_some, sorted_ref]
    by_cases hj : j < rows.length
    · rcases e0 with e0 | e0
      · rw [e0, List.getElem?_eq_getElem hj]
        simp [srO_l2]
      · omega
    · have e1 : rows[j]? = none := List.getElem?_eq_none (by omega)
      rw [e1]
      have : srO (gvH h rows ++ [O.hl acc])[h.length + 1 + j]? (fun d => R.ok d (gvH h rows ++ [O.hl acc])) = .bad := by
        by_cases hj2 : j = rows.length
        · have e4 : h.length + 1 + j = (gvH h rows).length := by simp [gvH]; omega
          rw [e4]
          simp [srO]
        · rw [List.getElem?_eq_none (by simp [gvH]; omega)]
          rfl
      rw [this]
      rfl) (List.range rows.length) ()
  have h2 : ∀ (k : Nat) (acc : List (List (Int × Int))), acc.length + k = rows.length → compX (ε := Unit) (fun (j : Nat) (s : Unit) => (X.opt rows[j]?).bind fun r => .ok (some (sortL ltII r), s)) (List.range' acc.length k) acc () = if rows.length ≤ sizeLine ∨ k = 0 then .ok (acc ++ (rows.drop acc.length).map (sortL ltII), ()) else .bad := by
    intro k
    induction k with
    | zero =>
      intro acc ha
      have : rows.drop acc.length = [] := List.drop_eq_nil_of_le (by omega)
      simp [compX, this]
    | succ k ih =>
      intro acc ha
      have hlt : acc.length < rows.length := by omega
      rw [List.range'_succ, compX, List.getElem?_eq_getElem hlt]
      simp only [X.opt_some, X.bind_ok]
      by_cases hz : acc.length < sizeLine
      · rw [if_pos hz]
        have := ih (acc ++ [sortL ltII rows[acc.length]]) (by simp; omega)
        rw [List.length_append, List.length_cons, List.length_nil] at this
        rw [this]
        by_cases hk : k = 0
        · subst hk
          have e5 : rows.length ≤ sizeLine := by omega
          have e6 : rows.drop (acc.length + 1) = [] := List.drop_eq_nil_of_le (by omega)
          rw [List.drop_eq_getElem_cons hlt]
          simp [e5, e6]
        · simp only [hk, or_false, Nat.add_eq_zero_iff, Nat.succ_ne_self, and_false]
          have e7 : (rows.drop acc.length).map (sortL ltII) = sortL ltII rows[acc.length] :: (rows.drop (acc.length + 1)).map (sortL ltII) := by rw [List.drop_eq_getElem_cons hlt, List.map_cons]
          rw [e7, List.append_assoc]
          rfl
      · rw [if_neg hz, if_neg (by omega)]
  have h3 := h2 rows.length [] (by simp)
  rw [List.length_nil, ← List.range_eq_range'] at h3
  rw [h3] at h1
  refine h1.trans ?_
  by_cases hr : rows.length = 0
  · have : rows = [] := List.length_eq_zero_iff.mp hr
    subst this
    simp [rn]
  · simp only [hr, or_false]
    split <;> rfl
theorem c_gives_of_420_net (h : Hc) (n : Nat) (x_net : Int × List (Int × Int × Int × Int)) : runF lw.T (n + 1) 420 [(e2 D.int (eTup (e4 D.int D.int D.int D.int))) x_net] h = rx (s_gives_of_420_net x_net) (fun _ => h) fun v => .ok (eLst (eLst (e2 D.int D.int)) v) h := by
  rw [runN (n := n) (F := f_gives_of_420) (by rfl) (by rfl)]
  have e1 : ∀ l : List Int, (h ++ [O.hl []]).length = h.length + 1 := by simp
  unfold s_gives_of_420_net
  simp only [f_gives_of_420, b_gives_of_420, List.map_cons, List.map_nil, Nat.reduceSub, List.replicate_succ, List.replicate_zero, List.cons_append, List.nil_append, lockH_seq, lockH_rng1, x_cons, x_asg, x_for, x_ret, x_nil, ev_comp, evs_cons, evs_nil, ev_idx, ev_v, ev_c, nth_0, nth_1, nth_2, nth_3, nth_4, nth_5, nth_6, nth_7, vr_some, R.bind_ok, p_idx2_0, p_idx2_1, wk_rng1R, rx_bind, rx_opt, bind_ro, stM_ro, then_so, fin_so, wipe_cons, wipe_nil, put_0, put_1, put_2, put_3, put_4, put_5, put_6, put_7, gv_comp]
  congr 1
  funext l
  by_cases hl : l.length ≤ sizeLine
  · have hh : ((h ++ .hl ((List.range l.length).map fun j => D.ref (h.length + 1 + j)) :: List.replicate l.length (O.lst [])).set h.length (.lst ((List.range l.length).map fun j => D.ref (h.length + 1 + j)))) = gvH h (List.replicate l.length []) := by
      simp [gvH, oLst]
    have hc : compEnd false h (h ++ .hl ((List.range l.length).map fun j => D.ref (h.length + 1 + j)) :: List.replicate l.length (O.lst [])) ((List.range l.length).map fun j => D.ref (h.length + 1 + j)) = .ok (.ref h.length) (gvH h (List.replicate l.length [])) := by
      unfold compEnd
      rw [if_neg (by simp), hh]
    simp only [hl, if_true, R.bind_ok, hc, stM_ok, bindT_n, bindS_some, put_0, put_1, put_2, put_3, put_4, put_5, put_6, put_7, S.andThen_nx, ev_idx, ev_v, ev_c, vr_some, p_idx2_1, R.bind_ok, evs_cons, evs_nil, nth_0, nth_1, nth_2, nth_3, nth_4, nth_5, nth_6, nth_7, w_seqT, wkS_some, lockH_seq, lockH_rng1]
    rw [gv_loop h h n _ (by simp)]
    simp only [then_sx, fin_sx, exH_self, rx_bind]
    congr 1
    funext rows
    have w1 : walkOf .seq [.ref h.length] (gvH h rows) = some ⟨(List.range rows.length).map fun j => D.ref (h.length + 1 + j), [(h.length, .lst ((List.range rows.length).map fun j => D.ref (h.length + 1 + j)))]⟩ := by
      simp only [walkOf, walkSeq, gvH_0]
    simp only [S.andThen_nx, x_cons, x_ret, x_nil, ev_comp, evs_cons, evs_nil, ev_v, nth_0, nth_1, nth_2, nth_3, nth_4, nth_5, nth_6, nth_7, vr_some, R.bind_ok, w1, wkR_some, lockH_seq, lockH_rng1, wipe_cons, wipe_nil, put_0, put_1, put_2, put_3, put_4, put_5, put_6, put_7, gv_sort]
    have hln : List.length rows ≤ sizeLine ∨ ¬ List.length rows ≤ sizeLine := Decidable.em _
    rcases hln with hr | hr
    · simp only [hr, if_true, R.bind_ok, compEnd_t _ _ _ _ (kept_app (gvH h rows) _), stM_ok, rtN_eLst, S.andThen_rt, fin_rt, List.take_left]
      have e9 : exH h (gvH h rows) = h := exH_app h _
      have : leave true h h (eLst (eLst (e2 D.int D.int)) (rows.map (sortL ltII))) = .ok (eLst (eLst (e2 D.int D.int)) (rows.map (sortL ltII))) h := leave_flat (by simp)
      rw [e9, this]
      rfl
    · simp only [hr, if_false, R.bind_bad, stM_bad, S.andThen_bad, fin_bad]
      rfl
  · simp only [hl, if_false, R.bind_bad, stM_bad, S.andThen_bad, fin_bad]
    rfl

noncomputable def s_turned_by_621_llt2ii_qi_i_l1 (x_purses : (List Int)) (x_town : Int) (a : (Int × Int)) (s : (List Int)) : X Unit ((List Int)) := (X.opt (ixL s a.1) : X Unit _).bind fun v1 => (X.opt (ixL x_purses x_town) : X Unit _).bind fun v2 => (X.mulI a.2 v2 : X Unit _).bind fun v3 => (X.opt (setL s a.1 (v1 + v3)) : X Unit _).bind fun v4 => X.ok v4
noncomputable def s_turned_by_621_llt2ii_qi_i (x_gives : (List (List (Int × Int)))) (x_purses : (List Int)) (x_town : Int) : X Unit (List Int) := (X.opt (ixL x_gives x_town) : X Unit _).bind fun v1 => (foldX (s_turned_by_621_llt2ii_qi_i_l1 x_purses x_town) v1 x_purses).bind fun v6 => (X.opt (ixL x_purses x_town) : X Unit _).bind fun v7 => (X.opt (setL v6 x_town ((0 : Int) - v7)) : X Unit _).bind fun v8 => X.ok v8
theorem q_turned_by_621_llt2ii_qi_i_l1 (h : Hc) (n : Nat) (x_purses : (List Int)) (x_town : Int) (o_0 : (List Int)) (w_0 : Option D) (hw_0 : flatW w_0 = true) (items : List (Int × Int)) :
  forL (.t [(.n 4), (.n 5)]) [] (bodyN h (runF lw.T n) [.blk [4, 5] [
  .seti (.v 3) (.v 4) (.bin (.add true) (.idx (.v 3) (.v 4)) (.bin (.mul true) (.v 5) (.idx (.v 1) (.v 2))))]]) (mapD (e2 D.int D.int) items) [w_0, some ((eTup D.int) x_purses), some (D.int x_town), some (.ref (h.length)), none, none] (h ++ [oLst D.int o_0]) =
  sx (foldX (s_turned_by_621_llt2ii_qi_i_l1 x_purses x_town) items o_0) (fun (_ : Unit) => h) fun s => .nx [w_0, some ((eTup D.int) x_purses), some (D.int x_town), some (.ref (h.length)), none, none] (h ++ [oLst D.int s]) := by
  refine for_fold (σ := (List Int)) (fun s => [w_0, some ((eTup D.int) x_purses), some (D.int x_town), some (.ref (h.length)), none, none]) (fun s => h ++ [oLst D.int s]) (fun (_ : Unit) => h) (s_turned_by_621_llt2ii_qi_i_l1 x_purses x_town) ?_ ?_ items o_0
  · intro s; simp [stays]
  · intro a s
    unfold bodyN
    simp [x_asg, x_seti, x_ex, x_ret, x_retN, x_ife, x_for, x_raise, x_pass, x_brk, x_cont, x_blk, x_nil, x_cons, ev_v, ev_c, ev_tup, ev_lst, ev_dnewT, ev_dnewF, ev_dic, ev_un, ev_bin, ev_cmp, ev_call, ev_bi, ev_idx, ev_rev, evs_nil, evs_cons, evC_nil, evC_one, ev_and, ev_or, ev_cmp2, ev_ite, ev_sl, ev_mt, ev_comp, m_append', idx_ref, in_ref, notin_ref, len_ref, pop1_ref, toTup_ref, sorted_ref, seti_ref, get1_ref, get2_ref, update_ref, getD_oc, add_refL, tidyE_ok, sizeLine_eq, newL, stays, ty_beq, s_turned_by_621_llt2ii_qi_i_l1, envOld_w hw_0, hw_0]
theorem c_turned_by_621_llt2ii_qi_i (h : Hc) (n : Nat) (x_gives : (List (List (Int × Int)))) (x_purses : (List Int)) (x_town : Int) : runF lw.T (n + 1) 621 [(eLst (eLst (e2 D.int D.int))) x_gives, (eTup D.int) x_purses, D.int x_town] h = rx (s_turned_by_621_llt2ii_qi_i x_gives x_purses x_town) (fun _ => h) fun v => .ok ((eTup D.int) v) h := by
  rw [runN (n := n) (F := f_turned_by_621) (by rfl) (by rfl)]
  simp [x_asg, x_seti, x_ex, x_ret, x_retN, x_ife, x_for, x_raise, x_pass, x_brk, x_cont, x_blk, x_nil, x_cons, ev_v, ev_c, ev_tup, ev_lst, ev_dnewT, ev_dnewF, ev_dic, ev_un, ev_bin, ev_cmp, ev_call, ev_bi, ev_idx, ev_rev, evs_nil, evs_cons, evC_nil, evC_one, ev_and, ev_or, ev_cmp2, ev_ite, ev_sl, ev_mt, ev_comp, m_append', idx_ref, in_ref, notin_ref, len_ref, pop1_ref, toTup_ref, sorted_ref, seti_ref, get1_ref, get2_ref, update_ref, getD_oc, add_refL, tidyE_ok, sizeLine_eq, newL, stays, ty_beq, f_turned_by_621, b_turned_by_621, s_turned_by_621_llt2ii_qi_i, q_turned_by_621_llt2ii_qi_i_l1]
noncomputable def s_played_by_583_llt2ii_qi_qi_l1 (x_gives : (List (List (Int × Int)))) (a : Int) (s : (List Int)) : X Unit ((List Int)) := (s_turned_by_621_llt2ii_qi_i x_gives s a).bind fun v1 => X.ok v1
noncomputable def s_played_by_583_llt2ii_qi_qi (x_gives : (List (List (Int × Int)))) (x_purses : (List Int)) (x_row : (List Int)) : X Unit (List Int) := (foldX (s_played_by_583_llt2ii_qi_qi_l1 x_gives) x_row x_purses).bind fun v2 => X.ok v2
theorem q_played_by_583_llt2ii_qi_qi_l1 (h : Hc) (n : Nat) (x_gives : (List (List (Int × Int)))) (i_0 : (List Int)) (w_2 : Option D) (hw_2 : flatW w_2 = true) (items : List Int) :
  forL (.n 3) [] (bodyN h (runF lw.T (n + 1)) [.blk [3] [
  .asg (.n 1) (.call 621 [(.v 0), (.v 1), (.v 3)])]]) (mapD D.int items) [some ((eLst (eLst (e2 D.int D.int))) x_gives), some ((eTup D.int) i_0), w_2, none] (h) =
  sx (foldX (s_played_by_583_llt2ii_qi_qi_l1 x_gives) items i_0) (fun (_ : Unit) => h) fun s => .nx [some ((eLst (eLst (e2 D.int D.int))) x_gives), some ((eTup D.int) s), w_2, none] (h) := by
  refine for_fold (σ := (List Int)) (fun s => [some ((eLst (eLst (e2 D.int D.int))) x_gives), some ((eTup D.int) s), w_2, none]) (fun s => h) (fun (_ : Unit) => h) (s_played_by_583_llt2ii_qi_qi_l1 x_gives) ?_ ?_ items i_0
  · intro s; simp [stays]
  · intro a s
    unfold bodyN
    simp [x_asg, x_seti, x_ex, x_ret, x_retN, x_ife, x_for, x_raise, x_pass, x_brk, x_cont, x_blk, x_nil, x_cons, ev_v, ev_c, ev_tup, ev_lst, ev_dnewT, ev_dnewF, ev_dic, ev_un, ev_bin, ev_cmp, ev_call, ev_bi, ev_idx, ev_rev, evs_nil, evs_cons, evC_nil, evC_one, ev_and, ev_or, ev_cmp2, ev_ite, ev_sl, ev_mt, ev_comp, m_append', idx_ref, in_ref, notin_ref, len_ref, pop1_ref, toTup_ref, sorted_ref, seti_ref, get1_ref, get2_ref, update_ref, getD_oc, add_refL, tidyE_ok, sizeLine_eq, newL, stays, ty_beq, s_played_by_583_llt2ii_qi_qi_l1, c_turned_by_621_llt2ii_qi_i, envOld_w hw_2, hw_2]
theorem c_played_by_583_llt2ii_qi_qi (h : Hc) (n : Nat) (x_gives : (List (List (Int × Int)))) (x_purses : (List Int)) (x_row : (List Int)) : runF lw.T (n + 2) 583 [(eLst (eLst (e2 D.int D.int))) x_gives, (eTup D.int) x_purses, (eTup D.int) x_row] h = rx (s_played_by_583_llt2ii_qi_qi x_gives x_purses x_row) (fun _ => h) fun v => .ok ((eTup D.int) v) h := by
  rw [runN (n := n + 1) (F := f_played_by_583) (by rfl) (by rfl)]
  simp [x_asg, x_seti, x_ex, x_ret, x_retN, x_ife, x_for, x_raise, x_pass, x_brk, x_cont, x_blk, x_nil, x_cons, ev_v, ev_c, ev_tup, ev_lst, ev_dnewT, ev_dnewF, ev_dic, ev_un, ev_bin, ev_cmp, ev_call, ev_bi, ev_idx, ev_rev, evs_nil, evs_cons, evC_nil, evC_one, ev_and, ev_or, ev_cmp2, ev_ite, ev_sl, ev_mt, ev_comp, m_append', idx_ref, in_ref, notin_ref, len_ref, pop1_ref, toTup_ref, sorted_ref, seti_ref, get1_ref, get2_ref, update_ref, getD_oc, add_refL, tidyE_ok, sizeLine_eq, newL, stays, ty_beq, f_played_by_583, b_played_by_583, s_played_by_583_llt2ii_qi_qi, c_turned_by_621_llt2ii_qi_i, q_played_by_583_llt2ii_qi_qi_l1]
noncomputable def s_ahead_by_384_net_qi (x_net : (Int × (List (Int × Int × Int × Int)))) (x_row : (List Int)) : X Unit (List Int) := (s_gives_of_420_net x_net).bind fun v1 => (X.mulL [(1 : Int)] x_net.1 : X Unit _).bind fun v2 => (s_played_by_583_llt2ii_qi_qi v1 v2 (x_row.reverse)).bind fun v3 => X.ok v3
theorem fd_ahead_by_384_net_qi_0 : ∀ (a0 : Int), D.tup [D.int a0] = eTup D.int [a0] := by intros; rfl
theorem c_ahead_by_384_net_qi (h : Hc) (n : Nat) (x_net : (Int × (List (Int × Int × Int × Int)))) (x_row : (List Int)) : runF lw.T (n + 3) 384 [(e2 D.int (eTup (e4 D.int D.int D.int D.int))) x_net, (eTup D.int) x_row] h = rx (s_ahead_by_384_net_qi x_net x_row) (fun _ => h) fun v => .ok ((eTup D.int) v) h := by
  rw [runN (n := n + 2) (F := f_ahead_by_384) (by rfl) (by rfl)]
  simp [x_asg, x_seti, x_ex, x_ret, x_retN, x_ife, x_for, x_raise, x_pass, x_brk, x_cont, x_blk, x_nil, x_cons, ev_v, ev_c, ev_tup, ev_lst, ev_dnewT, ev_dnewF, ev_dic, ev_un, ev_bin, ev_cmp, ev_call, ev_bi, ev_idx, ev_rev, evs_nil, evs_cons, evC_nil, evC_one, ev_and, ev_or, ev_cmp2, ev_ite, ev_sl, ev_mt, ev_comp, m_append', idx_ref, in_ref, notin_ref, len_ref, pop1_ref, toTup_ref, sorted_ref, seti_ref, get1_ref, get2_ref, update_ref, getD_oc, add_refL, tidyE_ok, sizeLine_eq, newL, stays, ty_beq, f_ahead_by_384, b_ahead_by_384, s_ahead_by_384_net_qi, fd_ahead_by_384_net_qi_0, c_gives_of_420_net, c_played_by_583_llt2ii_qi_qi]
noncomputable def s_debts_of_404_qi_c1  (a : (Int × Int)) : X Unit (Option Int) := if (decide (a.2 < (0 : Int))) then X.ok (some a.1) else X.ok none
noncomputable def s_debts_of_404_qi (x_purses : (List Int)) : X Unit (List Int) := ((compP (s_debts_of_404_qi_c1) (enumL 0 x_purses) []).nox : X Unit _).bind fun v1 => X.ok v1
theorem q_debts_of_404_qi_c1 (h : Hc) (n : Nat)  (w_0 : Option D) (items : List (Int × Int)) :
  compL (.t [(.n 1), (.n 2)]) [] h.length [w_0, none, none] (evC (runF lw.T n) [(.cmp .lt (.v 2) (.c (.int 0)))]) (ev (runF lw.T n) (.v 1)) (mapD (e2 D.int D.int) items) (h ++ [.hl []]) =
  rn (compP (s_debts_of_404_qi_c1 ) items []) fun r => .ok (r.map D.int) (h ++ [.hl (r.map D.int)]) := by
  refine comp_pu (fun acc => h ++ [.hl acc]) (s_debts_of_404_qi_c1 ) ?_ ?_ ?_ ?_ items
  · intro acc; simp
  · intro acc acc2; simp
  · intro acc; simp [stays]
  · intro a acc
    simp [x_asg, x_seti, x_ex, x_ret, x_retN, x_ife, x_for, x_raise, x_pass, x_brk, x_cont, x_blk, x_nil, x_cons, ev_v, ev_c, ev_tup, ev_lst, ev_dnewT, ev_dnewF, ev_dic, ev_un, ev_bin, ev_cmp, ev_call, ev_bi, ev_idx, ev_rev, evs_nil, evs_cons, evC_nil, evC_one, ev_and, ev_or, ev_cmp2, ev_ite, ev_sl, ev_mt, ev_comp, m_append', idx_ref, in_ref, notin_ref, len_ref, pop1_ref, toTup_ref, sorted_ref, seti_ref, get1_ref, get2_ref, update_ref, getD_oc, add_refL, tidyE_ok, sizeLine_eq, newL, stays, ty_beq, s_debts_of_404_qi_c1]
theorem c_debts_of_404_qi (h : Hc) (n : Nat) (x_purses : (List Int)) : runF lw.T (n + 1) 404 [(eTup D.int) x_purses] h = rx (s_debts_of_404_qi x_purses) (fun _ => h) fun v => .ok ((eTup D.int) v) h := by
  rw [runN (n := n) (F := f_debts_of_404) (by rfl) (by rfl)]
  simp [x_asg, x_seti, x_ex, x_ret, x_retN, x_ife, x_for, x_raise, x_pass, x_brk, x_cont, x_blk, x_nil, x_cons, ev_v, ev_c, ev_tup, ev_lst, ev_dnewT, ev_dnewF, ev_dic, ev_un, ev_bin, ev_cmp, ev_call, ev_bi, ev_idx, ev_rev, evs_nil, evs_cons, evC_nil, evC_one, ev_and, ev_or, ev_cmp2, ev_ite, ev_sl, ev_mt, ev_comp, m_append', idx_ref, in_ref, notin_ref, len_ref, pop1_ref, toTup_ref, sorted_ref, seti_ref, get1_ref, get2_ref, update_ref, getD_oc, add_refL, tidyE_ok, sizeLine_eq, newL, stays, ty_beq, f_debts_of_404, b_debts_of_404, s_debts_of_404_qi, q_debts_of_404_qi_c1]
noncomputable def s_begins_392_net_qi (x_net : (Int × (List (Int × Int × Int × Int)))) (x_row : (List Int)) : X Unit (List Int) := (s_need_row_566_net_qi x_net x_row).bind fun v1 => (s_ahead_by_384_net_qi x_net x_row).bind fun v2 => (s_debts_of_404_qi v2).bind fun v3 => X.ok v3
theorem c_begins_392_net_qi (h : Hc) (n : Nat) (x_net : (Int × (List (Int × Int × Int × Int)))) (x_row : (List Int)) : runF lw.T (n + 7) 392 [(e2 D.int (eTup (e4 D.int D.int D.int D.int))) x_net, (eTup D.int) x_row] h = rx (s_begins_392_net_qi x_net x_row) (fun _ => h) fun v => .ok ((eTup D.int) v) h := by
  rw [runN (n := n + 6) (F := f_begins_392) (by rfl) (by rfl)]
  simp [x_asg, x_seti, x_ex, x_ret, x_retN, x_ife, x_for, x_raise, x_pass, x_brk, x_cont, x_blk, x_nil, x_cons, ev_v, ev_c, ev_tup, ev_lst, ev_dnewT, ev_dnewF, ev_dic, ev_un, ev_bin, ev_cmp, ev_call, ev_bi, ev_idx, ev_rev, evs_nil, evs_cons, evC_nil, evC_one, ev_and, ev_or, ev_cmp2, ev_ite, ev_sl, ev_mt, ev_comp, m_append', idx_ref, in_ref, notin_ref, len_ref, pop1_ref, toTup_ref, sorted_ref, seti_ref, get1_ref, get2_ref, update_ref, getD_oc, add_refL, tidyE_ok, sizeLine_eq, newL, stays, ty_beq, f_begins_392, b_begins_392, s_begins_392_net_qi, c_need_row_566_net_qi, c_ahead_by_384_net_qi, c_debts_of_404_qi]
noncomputable def s_stops_613_net_qi (x_net : (Int × (List (Int × Int × Int × Int)))) (x_row : (List Int)) : X Unit (List Int) := (s_need_row_566_net_qi x_net x_row).bind fun v1 => (s_ahead_by_384_net_qi x_net (x_row.reverse)).bind fun v2 => (s_debts_of_404_qi v2).bind fun v3 => X.ok v3
theorem c_stops_613_net_qi (h : Hc) (n : Nat) (x_net : (Int × (List (Int × Int × Int × Int)))) (x_row : (List Int)) : runF lw.T (n + 7) 613 [(e2 D.int (eTup (e4 D.int D.int D.int D.int))) x_net, (eTup D.int) x_row] h = rx (s_stops_613_net_qi x_net x_row) (fun _ => h) fun v => .ok ((eTup D.int) v) h := by
  rw [runN (n := n + 6) (F := f_stops_613) (by rfl) (by rfl)]
  simp [x_asg, x_seti, x_ex, x_ret, x_retN, x_ife, x_for, x_raise, x_pass, x_brk, x_cont, x_blk, x_nil, x_cons, ev_v, ev_c, ev_tup, ev_lst, ev_dnewT, ev_dnewF, ev_dic, ev_un, ev_bin, ev_cmp, ev_call, ev_bi, ev_idx, ev_rev, evs_nil, evs_cons, evC_nil, evC_one, ev_and, ev_or, ev_cmp2, ev_ite, ev_sl, ev_mt, ev_comp, m_append', idx_ref, in_ref, notin_ref, len_ref, pop1_ref, toTup_ref, sorted_ref, seti_ref, get1_ref, get2_ref, update_ref, getD_oc, add_refL, tidyE_ok, sizeLine_eq, newL, stays, ty_beq, f_stops_613, b_stops_613, s_stops_613_net_qi, c_need_row_566_net_qi, c_ahead_by_384_net_qi, c_debts_of_404_qi]
noncomputable def s_law_465_x_c1 (x__law_row_here : (List Int)) (x__law_gives_here : (List (List (Int × Int)))) (x__law_many : Int) (o_0 : Pen) (a : Int) : X Unit (Option Int) := (X.addL [a] x__law_row_here : X Unit _).bind fun v1 => (s__law_normal_180_lfii_qi x__law_gives_here v1).bind fun v2 => if (decide ((v2.length : Int) < x__law_many)) then X.ok (some a) else X.ok none
noncomputable def s_law_465_x_c2 (x__law_row_here : (List Int)) (x__law_gives_here : (List (List (Int × Int)))) (x__law_many : Int) (o_0 : Pen) (a : Int) : X Unit (Option Int) := (X.addL x__law_row_here [a] : X Unit _).bind fun v1 => (s__law_normal_180_lfii_qi x__law_gives_here v1).bind fun v2 => if (decide ((v2.length : Int) < x__law_many)) then X.ok (some a) else X.ok none
noncomputable def s_law_465_x_l3 (x__law_net_here : (Int × (List (Int × Int × Int × Int)))) (x__law_row_here : (List Int)) (x__law_due : (List Int)) (x__law_ends : (List Int)) (o_0 : Pen) (a : Int) (s : Unit) : X Unit (Lp Bool (Unit)) := (s_begins_392_net_qi x__law_net_here x__law_row_here).bind fun v1 => (s_stops_613_net_qi x__law_net_here x__law_row_here).bind fun v2 => (X.opt (rpr (eLst (eTup D.int)) [v1, v2]) : X Unit _).bind fun v3 => (X.opt (rpr (eLst (eTup D.int)) [x__law_due, x__law_ends]) : X Unit _).bind fun v4 => if (!decide (v3 = v4)) then X.ok (.rt false ()) else X.ok (.nx ())
noncomputable def s_law_465_x_l4 (x__law_net_here : (Int × (List (Int × Int × Int × Int)))) (x__law_gives_here : (List (List (Int × Int)))) (o_0 : Pen) (a : (List Int)) (s : Unit) : X Unit (Lp Bool (Unit)) := (s__law_normal_180_lfii_qi x__law_gives_here a).bind fun v1 => (X.opt (rngS x__law_net_here.1) : X Unit _).bind fun v2 => (X.opt (rpr (e2 (e2 D.int (eTup (e4 D.int D.int D.int D.int))) (eTup D.int)) (x__law_net_here, a)) : X Unit _).bind fun v3 => ((compP (s_law_465_x_c1 a x__law_gives_here (v1.length : Int) o_0) v2 []).nox : X Unit _).bind fun v6 => ((compP (s_law_465_x_c2 a x__law_gives_here (v1.length : Int) o_0) v2 []).nox : X Unit _).bind fun v9 => (X.opt (rng (0 : Int) (2 : Int)) : X Unit _).bind fun v10 => (loopX (s_law_465_x_l3 x__law_net_here a v6 v9 o_0) v10 ()).bind fun q19 => q19.cas (fun v15 => (X.opt (rpr (e2 (e2 D.int (eTup (e4 D.int D.int D.int D.int))) (eTup D.int)) (x__law_net_here, a)) : X Unit _).bind fun v18 => if (!decide (v18 = v3)) then X.ok (.rt false ()) else X.ok (.nx ())) (fun r17 v16 => X.ok (.rt r17 ()))
noncomputable def s_law_465_x_l8  (a : Int) (s : Pen) : X Unit (Lp Bool (Pen)) := ((s__law_net_157_p_i s (5 : Int)).out).bind fun v1 => (s__law_gives_96_net v1.1).bind fun v2 => ((s__law_row_258_p_net_i v1.2 v1.1 (12 : Int)).out).bind fun v3 => ((s__law_draw_58_p_i v3.2 ((v3.1.length : Int) + (1 : Int))).out).bind fun v4 => ((s__law_draw_58_p_i v4.2 v1.1.1).out).bind fun v5 => ((s__law_row_258_p_net_i v5.2 v1.1 (14 : Int)).out).bind fun v6 => (X.addL v3.1 v6.1 : X Unit _).bind fun v7 => (X.addL v7 (v6.1.reverse) : X Unit _).bind fun v8 => ((s__law_row_258_p_net_i v6.2 v1.1 (40 : Int)).out).bind fun v9 => (X.opt (ixL [v8, v9.1] a) : X Unit _).bind fun v10 => (X.addL (cutL v3.1 none (some v4.1)) [v5.1, v5.1] : X Unit _).bind fun v11 => (X.addL v11 (cutL v3.1 (some v4.1) none) : X Unit _).bind fun v12 => (s__law_normal_180_lfii_qi v2 v3.1).bind fun v13 => (X.addL [v3.1, v12, (v3.1.reverse), []] [v13, v10] : X Unit _).bind fun v14 => (loopX (s_law_465_x_l4 v1.1 v2 v9.2) v14 ()).bind fun q37 => q37.cas (fun v34 => X.ok (.nx v9.2)) (fun r36 v35 => X.ok (.rt r36 v9.2))
noncomputable def s_law_465_x_l16 (x__law_script : (List Int)) (a : Int) (s : Unit) : X Unit (Lp Bool (Unit)) := (s__law_cell_45_x_i x__law_script a).bind fun v1 => (s__law_pen_202_i v1).bind fun v2 => (X.opt (rng (0 : Int) (2 : Int)) : X Unit _).bind fun v3 => (loopX (s_law_465_x_l8) v3 v2).bind fun q44 => q44.cas (fun v41 => X.ok (.nx ())) (fun r43 v42 => X.ok (.rt r43 ()))
noncomputable def s_law_465_x (x__law_script : (List Int)) : X Unit Bool := (X.opt (rng (0 : Int) (if (if (3 : Int) < (x__law_script.length : Int) then (3 : Int) else (x__law_script.length : Int)) > (1 : Int) then (if (3 : Int) < (x__law_script.length : Int) then (3 : Int) else (x__law_script.length : Int)) else (1 : Int))) : X Unit _).bind fun v1 => (loopX (s_law_465_x_l16 x__law_script) v1 ()).bind fun q49 => q49.cas (fun v46 => X.ok true) (fun r48 v47 => X.ok r48)
theorem fd_law_465_x_0 : ∀ (a0 a1 : (List Int)), D.lst [(eTup D.int) a0, (eTup D.int) a1] = eLst (eTup D.int) [a0, a1] := by intros; rfl
theorem fd_law_465_x_1 : ∀ (a0 a1 a2 a3 : (List Int)), D.lst [(eTup D.int) a0, (eTup D.int) a1, (eTup D.int) a2, (eTup D.int) a3] = eLst (eTup D.int) [a0, a1, a2, a3] := by intros; rfl
theorem fd_law_465_x_2 : ∀ (a0 : Int), D.tup [D.int a0] = eTup D.int [a0] := by intros; rfl
theorem fd_law_465_x_3 : ∀ (a0 a1 : Int), D.tup [D.int a0, D.int a1] = eTup D.int [a0, a1] := by intros; rfl
theorem fd_law_465_x_4 : ∀ (a0 : (Int × (List (Int × Int × Int × Int)))) (a1 : (List Int)), D.tup [(e2 D.int (eTup (e4 D.int D.int D.int D.int))) a0, (eTup D.int) a1] = (e2 (e2 D.int (eTup (e4 D.int D.int D.int D.int))) (eTup D.int)) (a0, a1) := by intros; rfl
theorem fd_law_465_x_5 : D.tup [] = (eTup D.int) [] := by intros; rfl
theorem q_law_465_x_c1 (h : Hc) (n : Nat) (x__law_row_here : (List Int)) (x__law_gives_here : (List (List (Int × Int)))) (x__law_many : Int) (o_0 : Pen) (w_0 : Option D) (w_1 : Option D) (w_3 : Option D) (w_4 : Option D) (w_5 : Option D) (w_6 : Option D) (w_7 : Option D) (w_10 : Option D) (w_11 : Option D) (w_12 : Option D) (w_13 : Option D) (w_18 : Option D) (items : List Int) :
  compL (.n 19) [] (h.length + 1) [w_0, w_1, some (.ref (h.length)), w_3, w_4, w_5, w_6, w_7, some ((eTup D.int) x__law_row_here), some ((eLst (eDk D.int D.int)) x__law_gives_here), w_10, w_11, w_12, w_13, none, none, none, some (D.int x__law_many), w_18, none] (evC (runF lw.T (n + 7)) [(.cmp .lt (.bi .len [(.call 180 [(.v 9), (.bin (.add true) (.tup [(.v 19)]) (.v 8))])]) (.v 17))]) (ev (runF lw.T (n + 7)) (.v 19)) (mapD D.int items) (h ++ [oPen o_0, .hl []]) =
  rn (compP (s_law_465_x_c1 x__law_row_here x__law_gives_here x__law_many o_0) items []) fun r => .ok (r.map D.int) (h ++ [oPen o_0, .hl (r.map D.int)]) := by
  refine comp_pu (fun acc => h ++ [oPen o_0, .hl acc]) (s_law_465_x_c1 x__law_row_here x__law_gives_here x__law_many o_0) ?_ ?_ ?_ ?_ items
  · intro acc; simp
  · intro acc acc2; simp
  · intro acc; simp [stays]
  · intro a acc
    simp [x_asg, x_seti, x_ex, x_ret, x_retN, x_ife, x_for, x_raise, x_pass, x_brk, x_cont, x_blk, x_nil, x_cons, ev_v, ev_c, ev_tup, ev_lst, ev_dnewT, ev_dnewF, ev_dic, ev_un, ev_bin, ev_cmp, ev_call, ev_bi, ev_idx, ev_rev, evs_nil, evs_cons, evC_nil, evC_one, ev_and, ev_or, ev_cmp2, ev_ite, ev_sl, ev_mt, ev_comp, m_append', idx_ref, in_ref, notin_ref, len_ref, pop1_ref, toTup_ref, sorted_ref, seti_ref, get1_ref, get2_ref, update_ref, getD_oc, add_refL, tidyE_ok, sizeLine_eq, newL, stays, ty_beq, s_law_465_x_c1, fd_law_465_x_0, fd_law_465_x_1, fd_law_465_x_2, fd_law_465_x_3, fd_law_465_x_4, fd_law_465_x_5, c__law_cell_45_x_i, c__law_pen_202_i, c__law_net_157_p_i, c__law_gives_96_net, c__law_row_258_p_net_i, c__law_draw_58_p_i, c__law_normal_180_lfii_qi, c_begins_392_net_qi, c_stops_613_net_qi]
theorem q_law_465_x_c2 (h : Hc) (n : Nat) (x__law_row_here : (List Int)) (x__law_gives_here : (List (List (Int × Int)))) (x__law_many : Int) (o_0 : Pen) (w_0 : Option D) (w_1 : Option D) (w_3 : Option D) (w_4 : Option D) (w_5 : Option D) (w_6 : Option D) (w_7 : Option D) (w_10 : Option D) (w_11 : Option D) (w_12 : Option D) (w_13 : Option D) (w_14 : Option D) (w_18 : Option D) (items : List Int) :
  compL (.n 19) [] (h.length + 1) [w_0, w_1, some (.ref (h.length)), w_3, w_4, w_5, w_6, w_7, some ((eTup D.int) x__law_row_here), some ((eLst (eDk D.int D.int)) x__law_gives_here), w_10, w_11, w_12, w_13, w_14, none, none, some (D.int x__law_many), w_18, none] (evC (runF lw.T (n + 7)) [(.cmp .lt (.bi .len [(.call 180 [(.v 9), (.bin (.add true) (.v 8) (.tup [(.v 19)]))])]) (.v 17))]) (ev (runF lw.T (n + 7)) (.v 19)) (mapD D.int items) (h ++ [oPen o_0, .hl []]) =
  rn (compP (s_law_465_x_c2 x__law_row_here x__law_gives_here x__law_many o_0) items []) fun r => .ok (r.map D.int) (h ++ [oPen o_0, .hl (r.map D.int)]) := by
  refine comp_pu (fun acc => h ++ [oPen o_0, .hl acc]) (s_law_465_x_c2 x__law_row_here x__law_gives_here x__law_many o_0) ?_ ?_ ?_ ?_ items
  · intro acc; simp
  · intro acc acc2; simp
  · intro acc; simp [stays]
  · intro a acc
    simp [x_asg, x_seti, x_ex, x_ret, x_retN, x_ife, x_for, x_raise, x_pass, x_brk, x_cont, x_blk, x_nil, x_cons, ev_v, ev_c, ev_tup, ev_lst, ev_dnewT, ev_dnewF, ev_dic, ev_un, ev_bin, ev_cmp, ev_call, ev_bi, ev_idx, ev_rev, evs_nil, evs_cons, evC_nil, evC_one, ev_and, ev_or, ev_cmp2, ev_ite, ev_sl, ev_mt, ev_comp, m_append', idx_ref, in_ref, notin_ref, len_ref, pop1_ref, toTup_ref, sorted_ref, seti_ref, get1_ref, get2_ref, update_ref, getD_oc, add_refL, tidyE_ok, sizeLine_eq, newL, stays, ty_beq, s_law_465_x_c2, fd_law_465_x_0, fd_law_465_x_1, fd_law_465_x_2, fd_law_465_x_3, fd_law_465_x_4, fd_law_465_x_5, c__law_cell_45_x_i, c__law_pen_202_i, c__law_net_157_p_i, c__law_gives_96_net, c__law_row_258_p_net_i, c__law_draw_58_p_i, c__law_normal_180_lfii_qi, c_begins_392_net_qi, c_stops_613_net_qi, q_law_465_x_c1]
theorem q_law_465_x_l3 (h : Hc) (n : Nat) (x__law_net_here : (Int × (List (Int × Int × Int × Int)))) (x__law_row_here : (List Int)) (x__law_due : (List Int)) (x__law_ends : (List Int)) (o_0 : Pen)  (w_0 : Option D) (hw_0 : flatW w_0 = true) (w_1 : Option D) (hw_1 : flatW w_1 = true) (w_3 : Option D) (hw_3 : flatW w_3 = true) (w_5 : Option D) (hw_5 : flatW w_5 = true) (w_6 : Option D) (hw_6 : flatW w_6 = true) (w_7 : Option D) (hw_7 : flatW w_7 = true) (w_9 : Option D) (hw_9 : flatW w_9 = true) (w_10 : Option D) (hw_10 : flatW w_10 = true) (w_11 : Option D) (hw_11 : flatW w_11 = true) (w_12 : Option D) (hw_12 : flatW w_12 = true) (w_13 : Option D) (hw_13 : flatW w_13 = true) (w_17 : Option D) (hw_17 : flatW w_17 = true) (w_18 : Option D) (hw_18 : flatW w_18 = true) (items : List Int) :
  forL (.n 16) [] (bodyN h (runF lw.T (n + 7)) [.blk [16] [
  .ife (.cmp .ne (.bi .repr [(.lst true [(.call 392 [(.v 4), (.v 8)]), (.call 613 [(.v 4), (.v 8)])])]) (.bi .repr [(.lst true [(.v 14), (.v 15)])])) [
    .ret (.c (.bl false))] []]]) (mapD D.int items) [w_0, w_1, some (.ref (h.length)), w_3, some ((e2 D.int (eTup (e4 D.int D.int D.int D.int))) x__law_net_here), w_5, w_6, w_7, some ((eTup D.int) x__law_row_here), w_9, w_10, w_11, w_12, w_13, some ((eTup D.int) x__law_due), some ((eTup D.int) x__law_ends), none, w_17, w_18, none] (h ++ [oPen o_0]) =
  sx (loopX (s_law_465_x_l3 x__law_net_here x__law_row_here x__law_due x__law_ends o_0) items ()) (fun (_ : Unit) => h) fun r => r.cas (fun s => .nx [w_0, w_1, some (.ref (h.length)), w_3, some ((e2 D.int (eTup (e4 D.int D.int D.int D.int))) x__law_net_here), w_5, w_6, w_7, some ((eTup D.int) x__law_row_here), w_9, w_10, w_11, w_12, w_13, some ((eTup D.int) x__law_due), some ((eTup D.int) x__law_ends), none, w_17, w_18, none] (h ++ [oPen o_0])) fun v s => .rt (D.bl v) (h) := by
  refine for_loop (σ := Unit) (fun s => [w_0, w_1, some (.ref (h.length)), w_3, some ((e2 D.int (eTup (e4 D.int D.int D.int D.int))) x__law_net_here), w_5, w_6, w_7, some ((eTup D.int) x__law_row_here), w_9, w_10, w_11, w_12, w_13, some ((eTup D.int) x__law_due), some ((eTup D.int) x__law_ends), none, w_17, w_18, none]) (fun s => h ++ [oPen o_0]) (fun (_ : Unit) => h) (fun s => h) D.bl (s_law_465_x_l3 x__law_net_here x__law_row_here x__law_due x__law_ends o_0) ?_ ?_ items ()
  · intro s; simp [stays]
  · intro a s
    unfold bodyN
    simp [x_asg, x_seti, x_ex, x_ret, x_retN, x_ife, x_for, x_raise, x_pass, x_brk, x_cont, x_blk, x_nil, x_cons, ev_v, ev_c, ev_tup, ev_lst, ev_dnewT, ev_dnewF, ev_dic, ev_un, ev_bin, ev_cmp, ev_call, ev_bi, ev_idx, ev_rev, evs_nil, evs_cons, evC_nil, evC_one, ev_and, ev_or, ev_cmp2, ev_ite, ev_sl, ev_mt, ev_comp, m_append', idx_ref, in_ref, notin_ref, len_ref, pop1_ref, toTup_ref, sorted_ref, seti_ref, get1_ref, get2_ref, update_ref, getD_oc, add_refL, tidyE_ok, sizeLine_eq, newL, stays, ty_beq, s_law_465_x_l3, fd_law_465_x_0, fd_law_465_x_1, fd_law_465_x_2, fd_law_465_x_3, fd_law_465_x_4, fd_law_465_x_5, c__law_cell_45_x_i, c__law_pen_202_i, c__law_net_157_p_i, c__law_gives_96_net, c__law_row_258_p_net_i, c__law_draw_58_p_i, c__law_normal_180_lfii_qi, c_begins_392_net_qi, c_stops_613_net_qi, q_law_465_x_c1, q_law_465_x_c2, envOld_w hw_0, hw_0, envOld_w hw_1, hw_1, envOld_w hw_3, hw_3, envOld_w hw_5, hw_5, envOld_w hw_6, hw_6, envOld_w hw_7, hw_7, envOld_w hw_9, hw_9, envOld_w hw_10, hw_10, envOld_w hw_11, hw_11, envOld_w hw_12, hw_12, envOld_w hw_13, hw_13, envOld_w hw_17, hw_17, envOld_w hw_18, hw_18]
theorem q_law_465_x_l4 (h : Hc) (n : Nat) (x__law_net_here : (Int × (List (Int × Int × Int × Int)))) (x__law_gives_here : (List (List (Int × Int)))) (o_0 : Pen)  (w_0 : Option D) (hw_0 : flatW w_0 = true) (w_1 : Option D) (hw_1 : flatW w_1 = true) (w_3 : Option D) (hw_3 : flatW w_3 = true) (w_5 : Option D) (hw_5 : flatW w_5 = true) (w_6 : Option D) (hw_6 : flatW w_6 = true) (w_7 : Option D) (hw_7 : flatW w_7 = true) (w_10 : Option D) (hw_10 : flatW w_10 = true) (w_11 : Option D) (hw_11 : flatW w_11 = true) (w_12 : Option D) (hw_12 : flatW w_12 = true) (items : List (List Int)) :
  forL (.n 8) [] (bodyN h (runF lw.T (n + 7)) [.blk [8, 13, 14, 15, 16, 17, 18] [
  .asg (.t [(.n 17), (.n 18)]) (.tup [(.bi .len [(.call 180 [(.v 9), (.v 8)])]), (.bi (.rngL true) [(.idx (.v 4) (.c (.int 0)))])]),
  .asg (.n 13) (.bi .repr [(.tup [(.v 4), (.v 8)])]),
  .asg (.n 14) (.bi (.toTup false) [(.comp true .seq [(.v 18)] (.n 19) [(.cmp .lt (.bi .len [(.call 180 [(.v 9), (.bin (.add true) (.tup [(.v 19)]) (.v 8))])]) (.v 17))] (.v 19) [19])]),
  .asg (.n 15) (.bi (.toTup false) [(.comp true .seq [(.v 18)] (.n 19) [(.cmp .lt (.bi .len [(.call 180 [(.v 9), (.bin (.add true) (.v 8) (.tup [(.v 19)]))])]) (.v 17))] (.v 19) [19])]),
  .for .rng1 [(.c (.int 2))] (.n 16) [.blk [16] [
    .ife (.cmp .ne (.bi .repr [(.lst true [(.call 392 [(.v 4), (.v 8)]), (.call 613 [(.v 4), (.v 8)])])]) (.bi .repr [(.lst true [(.v 14), (.v 15)])])) [
      .ret (.c (.bl false))] []]],
  .ife (.cmp .ne (.bi .repr [(.tup [(.v 4), (.v 8)])]) (.v 13)) [
    .ret (.c (.bl false))] []]]) (mapD (eTup D.int) items) [w_0, w_1, some (.ref (h.length)), w_3, some ((e2 D.int (eTup (e4 D.int D.int D.int D.int))) x__law_net_here), w_5, w_6, w_7, none, some ((eLst (eDk D.int D.int)) x__law_gives_here), w_10, w_11, w_12, none, none, none, none, none, none, none] (h ++ [oPen o_0]) =
  sx (loopX (s_law_465_x_l4 x__law_net_here x__law_gives_here o_0) items ()) (fun (_ : Unit) => h) fun r => r.cas (fun s => .nx [w_0, w_1, some (.ref (h.length)), w_3, some ((e2 D.int (eTup (e4 D.int D.int D.int D.int))) x__law_net_here), w_5, w_6, w_7, none, some ((eLst (eDk D.int D.int)) x__law_gives_here), w_10, w_11, w_12, none, none, none, none, none, none, none] (h ++ [oPen o_0])) fun v s => .rt (D.bl v) (h) := by
  refine for_loop (σ := Unit) (fun s => [w_0, w_1, some (.ref (h.length)), w_3, some ((e2 D.int (eTup (e4 D.int D.int D.int D.int))) x__law_net_here), w_5, w_6, w_7, none, some ((eLst (eDk D.int D.int)) x__law_gives_here), w_10, w_11, w_12, none, none, none, none, none, none, none]) (fun s => h ++ [oPen o_0]) (fun (_ : Unit) => h) (fun s => h) D.bl (s_law_465_x_l4 x__law_net_here x__law_gives_here o_0) ?_ ?_ items ()
  · intro s; simp [stays]
  · intro a s
    unfold bodyN
    simp [x_asg, x_seti, x_ex, x_ret, x_retN, x_ife, x_for, x_raise, x_pass, x_brk, x_cont, x_blk, x_nil, x_cons, ev_v, ev_c, ev_tup, ev_lst, ev_dnewT, ev_dnewF, ev_dic, ev_un, ev_bin, ev_cmp, ev_call, ev_bi, ev_idx, ev_rev, evs_nil, evs_cons, evC_nil, evC_one, ev_and, ev_or, ev_cmp2, ev_ite, ev_sl, ev_mt, ev_comp, m_append', idx_ref, in_ref, notin_ref, len_ref, pop1_ref, toTup_ref, sorted_ref, seti_ref, get1_ref, get2_ref, update_ref, getD_oc, add_refL, tidyE_ok, sizeLine_eq, newL, stays, ty_beq, s_law_465_x_l4, fd_law_465_x_0, fd_law_465_x_1, fd_law_465_x_2, fd_law_465_x_3, fd_law_465_x_4, fd_law_465_x_5, c__law_cell_45_x_i, c__law_pen_202_i, c__law_net_157_p_i, c__law_gives_96_net, c__law_row_258_p_net_i, c__law_draw_58_p_i, c__law_normal_180_lfii_qi, c_begins_392_net_qi, c_stops_613_net_qi, q_law_465_x_c1, q_law_465_x_c2, q_law_465_x_l3, envOld_w hw_0, hw_0, envOld_w hw_1, hw_1, envOld_w hw_3, hw_3, envOld_w hw_5, hw_5, envOld_w hw_6, hw_6, envOld_w hw_7, hw_7, envOld_w hw_10, hw_10, envOld_w hw_11, hw_11, envOld_w hw_12, hw_12]
theorem q_law_465_x_l8 (h : Hc) (n : Nat)  (o_0 : Pen) (w_0 : Option D) (hw_0 : flatW w_0 = true) (w_1 : Option D) (hw_1 : flatW w_1 = true) (items : List Int) :
  forL (.n 3) [] (bodyN h (runF lw.T (n + 7)) [.blk [3, 4, 5, 6, 7, 8, 9, 10, 11, 12, 13, 14, 15, 16, 17, 18] [
  .asg (.n 4) (.call 157 [(.v 2), (.c (.int 5))]),
  .asg (.t [(.n 9), (.n 10)]) (.tup [(.call 96 [(.v 4)]), (.call 258 [(.v 2), (.v 4), (.c (.int 12))])]),
  .asg (.t [(.n 11), (.n 12)]) (.tup [(.call 58 [(.v 2), (.bin (.add true) (.bi .len [(.v 10)]) (.c (.int 1)))]), (.call 58 [(.v 2), (.idx (.v 4) (.c (.int 0)))])]),
  .asg (.n 5) (.call 258 [(.v 2), (.v 4), (.c (.int 14))]),
  .asg (.n 6) (.idx (.lst true [(.bin (.add true) (.bin (.add true) (.v 10) (.v 5)) (.rev true (.v 5))), (.call 258 [(.v 2), (.v 4), (.c (.int 40))])]) (.v 3)),
  .asg (.n 7) (.lst true [(.v 10), (.bin (.add true) (.bin (.add true) (.sl true (.v 10) (.c .non) (.v 11)) (.tup [(.v 12), (.v 12)])) (.sl true (.v 10) (.v 11) (.c .non))), (.rev true (.v 10)), (.tup [])]),
  .for .seq [(.bin (.add true) (.v 7) (.lst true [(.call 180 [(.v 9), (.v 10)]), (.v 6)]))] (.n 8) [.blk [8, 13, 14, 15, 16, 17, 18] [
    .asg (.t [(.n 17), (.n 18)]) (.tup [(.bi .len [(.call 180 [(.v 9), (.v 8)])]), (.bi (.rngL true) [(.idx (.v 4) (.c (.int 0)))])]),
    .asg (.n 13) (.bi .repr [(.tup [(.v 4), (.v 8)])]),
    .asg (.n 14) (.bi (.toTup false) [(.comp true .seq [(.v 18)] (.n 19) [(.cmp .lt (.bi .len [(.call 180 [(.v 9), (.bin (.add true) (.tup [(.v 19)]) (.v 8))])]) (.v 17))] (.v 19) [19])]),
    .asg (.n 15) (.bi (.toTup false) [(.comp true .seq [(.v 18)] (.n 19) [(.cmp .lt (.bi .len [(.call 180 [(.v 9), (.bin (.add true) (.v 8) (.tup [(.v 19)]))])]) (.v 17))] (.v 19) [19])]),
    .for .rng1 [(.c (.int 2))] (.n 16) [.blk [16] [
      .ife (.cmp .ne (.bi .repr [(.lst true [(.call 392 [(.v 4), (.v 8)]), (.call 613 [(.v 4), (.v 8)])])]) (.bi .repr [(.lst true [(.v 14), (.v 15)])])) [
        .ret (.c (.bl false))] []]],
    .ife (.cmp .ne (.bi .repr [(.tup [(.v 4), (.v 8)])]) (.v 13)) [
      .ret (.c (.bl false))] []]]]]) (mapD D.int items) [w_0, w_1, some (.ref (h.length)), none, none, none, none, none, none, none, none, none, none, none, none, none, none, none, none, none] (h ++ [oPen o_0]) =
  sx (loopX (s_law_465_x_l8 ) items o_0) (fun (_ : Unit) => h) fun r => r.cas (fun s => .nx [w_0, w_1, some (.ref (h.length)), none, none, none, none, none, none, none, none, none, none, none, none, none, none, none, none, none] (h ++ [oPen s])) fun v s => .rt (D.bl v) (h) := by
  refine for_loop (σ := Pen) (fun s => [w_0, w_1, some (.ref (h.length)), none, none, none, none, none, none, none, none, none, none, none, none, none, none, none, none, none]) (fun s => h ++ [oPen s]) (fun (_ : Unit) => h) (fun s => h) D.bl (s_law_465_x_l8 ) ?_ ?_ items o_0
  · intro s; simp [stays]
  · intro a s
    unfold bodyN
    simp [x_asg, x_seti, x_ex, x_ret, x_retN, x_ife, x_for, x_raise, x_pass, x_brk, x_cont, x_blk, x_nil, x_cons, ev_v, ev_c, ev_tup, ev_lst, ev_dnewT, ev_dnewF, ev_dic, ev_un, ev_bin, ev_cmp, ev_call, ev_bi, ev_idx, ev_rev, evs_nil, evs_cons, evC_nil, evC_one, ev_and, ev_or, ev_cmp2, ev_ite, ev_sl, ev_mt, ev_comp, m_append', idx_ref, in_ref, notin_ref, len_ref, pop1_ref, toTup_ref, sorted_ref, seti_ref, get1_ref, get2_ref, update_ref, getD_oc, add_refL, tidyE_ok, sizeLine_eq, newL, stays, ty_beq, s_law_465_x_l8, fd_law_465_x_0, fd_law_465_x_1, fd_law_465_x_2, fd_law_465_x_3, fd_law_465_x_4, fd_law_465_x_5, c__law_cell_45_x_i, c__law_pen_202_i, c__law_net_157_p_i, c__law_gives_96_net, c__law_row_258_p_net_i, c__law_draw_58_p_i, c__law_normal_180_lfii_qi, c_begins_392_net_qi, c_stops_613_net_qi, q_law_465_x_c1, q_law_465_x_c2, q_law_465_x_l3, q_law_465_x_l4, envOld_w hw_0, hw_0, envOld_w hw_1, hw_1]
theorem q_law_465_x_l16 (h : Hc) (n : Nat) (x__law_script : (List Int))  (items : List Int) :
  forL (.n 1) [] (bodyN h (runF lw.T (n + 7)) [.blk [1, 2, 3, 4, 5, 6, 7, 8, 9, 10, 11, 12, 13, 14, 15, 16, 17, 18] [
  .asg (.n 2) (.call 202 [(.call 45 [(.v 0), (.v 1)])]),
  .for .rng1 [(.c (.int 2))] (.n 3) [.blk [3, 4, 5, 6, 7, 8, 9, 10, 11, 12, 13, 14, 15, 16, 17, 18] [
    .asg (.n 4) (.call 157 [(.v 2), (.c (.int 5))]),
    .asg (.t [(.n 9), (.n 10)]) (.tup [(.call 96 [(.v 4)]), (.call 258 [(.v 2), (.v 4), (.c (.int 12))])]),
    .asg (.t [(.n 11), (.n 12)]) (.tup [(.call 58 [(.v 2), (.bin (.add true) (.bi .len [(.v 10)]) (.c (.int 1)))]), (.call 58 [(.v 2), (.idx (.v 4) (.c (.int 0)))])]),
    .asg (.n 5) (.call 258 [(.v 2), (.v 4), (.c (.int 14))]),
    .asg (.n 6) (.idx (.lst true [(.bin (.add true) (.bin (.add true) (.v 10) (.v 5)) (.rev true (.v 5))), (.call 258 [(.v 2), (.v 4), (.c (.int 40))])]) (.v 3)),
    .asg (.n 7) (.lst true [(.v 10), (.bin (.add true) (.bin (.add true) (.sl true (.v 10) (.c .non) (.v 11)) (.tup [(.v 12), (.v 12)])) (.sl true (.v 10) (.v 11) (.c .non))), (.rev true (.v 10)), (.tup [])]),
    .for .seq [(.bin (.add true) (.v 7) (.lst true [(.call 180 [(.v 9), (.v 10)]), (.v 6)]))] (.n 8) [.blk [8, 13, 14, 15, 16, 17, 18] [
      .asg (.t [(.n 17), (.n 18)]) (.tup [(.bi .len [(.call 180 [(.v 9), (.v 8)])]), (.bi (.rngL true) [(.idx (.v 4) (.c (.int 0)))])]),
      .asg (.n 13) (.bi .repr [(.tup [(.v 4), (.v 8)])]),
      .asg (.n 14) (.bi (.toTup false) [(.comp true .seq [(.v 18)] (.n 19) [(.cmp .lt (.bi .len [(.call 180 [(.v 9), (.bin (.add true) (.tup [(.v 19)]) (.v 8))])]) (.v 17))] (.v 19) [19])]),
      .asg (.n 15) (.bi (.toTup false) [(.comp true .seq [(.v 18)] (.n 19) [(.cmp .lt (.bi .len [(.call 180 [(.v 9), (.bin (.add true) (.v 8) (.tup [(.v 19)]))])]) (.v 17))] (.v 19) [19])]),
      .for .rng1 [(.c (.int 2))] (.n 16) [.blk [16] [
        .ife (.cmp .ne (.bi .repr [(.lst true [(.call 392 [(.v 4), (.v 8)]), (.call 613 [(.v 4), (.v 8)])])]) (.bi .repr [(.lst true [(.v 14), (.v 15)])])) [
          .ret (.c (.bl false))] []]],
      .ife (.cmp .ne (.bi .repr [(.tup [(.v 4), (.v 8)])]) (.v 13)) [
        .ret (.c (.bl false))] []]]]]]]) (mapD D.int items) [some (D.scr x__law_script), none, none, none, none, none, none, none, none, none, none, none, none, none, none, none, none, none, none, none] (h) =
  sx (loopX (s_law_465_x_l16 x__law_script) items ()) (fun (_ : Unit) => h) fun r => r.cas (fun s => .nx [some (D.scr x__law_script), none, none, none, none, none, none, none, none, none, none, none, none, none, none, none, none, none, none, none] (h)) fun v s => .rt (D.bl v) (h) := by
  refine for_loop (σ := Unit) (fun s => [some (D.scr x__law_script), none, none, none, none, none, none, none, none, none, none, none, none, none, none, none, none, none, none, none]) (fun s => h) (fun (_ : Unit) => h) (fun s => h) D.bl (s_law_465_x_l16 x__law_script) ?_ ?_ items ()
  · intro s; simp [stays]
  · intro a s
    unfold bodyN
    simp [x_asg, x_seti, x_ex, x_ret, x_retN, x_ife, x_for, x_raise, x_pass, x_brk, x_cont, x_blk, x_nil, x_cons, ev_v, ev_c, ev_tup, ev_lst, ev_dnewT, ev_dnewF, ev_dic, ev_un, ev_bin, ev_cmp, ev_call, ev_bi, ev_idx, ev_rev, evs_nil, evs_cons, evC_nil, evC_one, ev_and, ev_or, ev_cmp2, ev_ite, ev_sl, ev_mt, ev_comp, m_append', idx_ref, in_ref, notin_ref, len_ref, pop1_ref, toTup_ref, sorted_ref, seti_ref, get1_ref, get2_ref, update_ref, getD_oc, add_refL, tidyE_ok, sizeLine_eq, newL, stays, ty_beq, s_law_465_x_l16, fd_law_465_x_0, fd_law_465_x_1, fd_law_465_x_2, fd_law_465_x_3, fd_law_465_x_4, fd_law_465_x_5, c__law_cell_45_x_i, c__law_pen_202_i, c__law_net_157_p_i, c__law_gives_96_net, c__law_row_258_p_net_i, c__law_draw_58_p_i, c__law_normal_180_lfii_qi, c_begins_392_net_qi, c_stops_613_net_qi, q_law_465_x_c1, q_law_465_x_c2, q_law_465_x_l3, q_law_465_x_l4, q_law_465_x_l8]
theorem c_law_465_x (h : Hc) (n : Nat) (x__law_script : (List Int)) : runF lw.T (n + 8) 465 [D.scr x__law_script] h = rx (s_law_465_x x__law_script) (fun _ => h) fun v => .ok (D.bl v) h := by
  rw [runN (n := n + 7) (F := f_law_465) (by rfl) (by rfl)]
  simp [x_asg, x_seti, x_ex, x_ret, x_retN, x_ife, x_for, x_raise, x_pass, x_brk, x_cont, x_blk, x_nil, x_cons, ev_v, ev_c, ev_tup, ev_lst, ev_dnewT, ev_dnewF, ev_dic, ev_un, ev_bin, ev_cmp, ev_call, ev_bi, ev_idx, ev_rev, evs_nil, evs_cons, evC_nil, evC_one, ev_and, ev_or, ev_cmp2, ev_ite, ev_sl, ev_mt, ev_comp, m_append', idx_ref, in_ref, notin_ref, len_ref, pop1_ref, toTup_ref, sorted_ref, seti_ref, get1_ref, get2_ref, update_ref, getD_oc, add_refL, tidyE_ok, sizeLine_eq, newL, stays, ty_beq, f_law_465, b_law_465, s_law_465_x, fd_law_465_x_0, fd_law_465_x_1, fd_law_465_x_2, fd_law_465_x_3, fd_law_465_x_4, fd_law_465_x_5, c__law_cell_45_x_i, c__law_pen_202_i, c__law_net_157_p_i, c__law_gives_96_net, c__law_row_258_p_net_i, c__law_draw_58_p_i, c__law_normal_180_lfii_qi, c_begins_392_net_qi, c_stops_613_net_qi, q_law_465_x_c1, q_law_465_x_c2, q_law_465_x_l3, q_law_465_x_l4, q_law_465_x_l8, q_law_465_x_l16]
end Q
/-! M0: what a shallow result ends with. -/
namespace Q
open PySem
/-- it ends well, with something of which P holds -/
def Gets {ε α : Type} (x : X ε α) (P : α → Prop) : Prop := ∃ a, x = .ok a ∧ P a
section
variable {ε ζ α β σ : Type}
theorem Gets.ok {a : α} {P : α → Prop} (h : P a) : Gets (.ok a : X ε α) P := ⟨a, rfl, h⟩
theorem Gets.imp {x : X ε α} {P Q : α → Prop} (h : Gets x P) (i : ∀ a, P a → Q a) : Gets x Q := by
  obtain ⟨a, e, p⟩ := h
  exact ⟨a, e, i a p⟩
theorem Gets.bind {x : X ε α} {f : α → X ε β} {P : α → Prop} {Q : β → Prop} (h : Gets x P) (i : ∀ a, P a → Gets (f a) Q) : Gets (x.bind f) Q := by
  obtain ⟨a, rfl, p⟩ := h
  exact i a p
theorem Gets.out {x : X ε α} {P : α → Prop} (h : Gets x P) : Gets x.out P := by
  obtain ⟨a, rfl, p⟩ := h
  exact ⟨a, rfl, p⟩
theorem Gets.nox {x : X ε α} {P : α → Prop} (h : Gets x P) : Gets (x.nox : X ζ α) P := by
  obtain ⟨a, rfl, p⟩ := h
  exact ⟨a, rfl, p⟩
theorem Gets.opt {o : Option α} {a : α} {P : α → Prop} (e : o = some a) (p : P a) : Gets (X.opt o : X ε α) P := ⟨a, by rw [e]; rfl, p⟩
theorem Gets.fold {f : α → σ → X ε σ} {I : List α → σ → Prop} : ∀ (as done : List α) (s : σ), I done s → (∀ (l : List α) a (r : List α), done ++ as = l ++ a :: r → ∀ s, I l s → Gets (f a s) (I (l ++ [a]))) → Gets (foldX f as s) (I (done ++ as))
  | [], done, s, h, _ => ⟨s, rfl, by simpa using h⟩
  | a :: as, done, s, h, step => by
    rw [foldX]
    refine (step done a as rfl s h).bind fun s1 h1 => ?_
    have := Gets.fold as (done ++ [a]) s1 h1 fun l b r e => step l b r (by rw [← e]; simp)
    simpa using this
theorem Gets.loop {f : α → σ → X ε (Lp β σ)} {I : List α → σ → Prop} : ∀ (as done : List α) (s : σ), I done s → (∀ (l : List α) a (r : List α), done ++ as = l ++ a :: r → ∀ s, I l s → Gets (f a s) fun r => ∃ s, r = .nx s ∧ I (l ++ [a]) s) → Gets (loopX f as s) fun r => ∃ s, r = .nx s ∧ I (done ++ as) s
  | [], done, s, h, _ => ⟨.nx s, rfl, s, rfl, by simpa using h⟩
  | a :: as, done, s, h, step => by
    rw [loopX]
    refine (step done a as rfl s h).bind fun r hr => ?_
    obtain ⟨s1, rfl, h1⟩ := hr
    have := Gets.loop as (done ++ [a]) s1 h1 fun l b r e => step l b r (by rw [← e]; simp)
    simpa using this
/-- a comprehension over a state; the list made grows by one each time -/
theorem Gets.comp {f : α → σ → X ε (Option β × σ)} {I : σ → Prop} {P : β → Prop} : ∀ (as : List α) (acc : List β) (s : σ), I s → (∀ b ∈ acc, P b) → acc.length + as.length ≤ sizeLine → (∀ a ∈ as, ∀ s, I s → Gets (f a s) fun r => (∃ b, r.1 = some b ∧ P b) ∧ I r.2) →
    Gets (compX f as acc s) fun r => r.1.length = acc.length + as.length ∧ (∀ b ∈ r.1, P b) ∧ I r.2
  | [], acc, s, h, ha, _, _ => ⟨(acc, s), rfl, by simp, ha, h⟩
  | a :: as, acc, s, h, ha, hl, step => by
    rw [compX]
    refine (step a List.mem_cons_self s h).bind fun r hr => ?_
    obtain ⟨⟨b, e, pb⟩, h1⟩ := hr
    obtain ⟨o, s1⟩ := r
    simp only at e h1
    subst e
    simp only [List.length_cons] at hl
    simp only
    rw [if_pos (by omega)]
    refine (Gets.comp as (acc ++ [b]) s1 h1 (fun c hc => ?_) (by simp; omega) fun a ha => step a (List.mem_cons_of_mem _ ha)).imp fun r hr => ⟨?_, hr.2⟩
    · rcases List.mem_append.mp hc with q | q
      · exact ha c q
      · simp at q
        rw [q]
        exact pb
    · have := hr.1
      simp at this ⊢
      omega
theorem compP_filter {f : α → X ε (Option β)} (p : α → Bool) (g : α → β) : ∀ (as : List α) (acc : List β), acc.length + as.length ≤ sizeLine → (∀ a ∈ as, f a = .ok (if p a then some (g a) else none)) → compP f as acc = .ok (acc ++ (as.filter p).map g)
  | [], acc, _, _ => by simp [compP]
  | a :: as, acc, hl, hf => by
    simp only [List.length_cons] at hl
    rw [compP, hf a List.mem_cons_self, X.bind_ok]
    cases hp : p a with
    | true =>
      simp only [if_true]
      rw [if_pos (by omega), compP_filter p g as (acc ++ [g a]) (by simp; omega) fun b hb => hf b (List.mem_cons_of_mem _ hb)]
      simp [hp]
    | false =>
      simp only [Bool.false_eq_true, if_false]
      rw [compP_filter p g as acc (by omega) fun b hb => hf b (List.mem_cons_of_mem _ hb)]
      simp [hp]
theorem compP_map {f : α → X ε (Option β)} (g : α → β) (as : List α) (hl : as.length ≤ sizeLine) (hf : ∀ a ∈ as, f a = .ok (some (g a))) : compP f as [] = .ok (as.map g) := by
  have := compP_filter (fun _ => true) g as [] (by simpa using hl) (by simpa using hf)
  rw [this]
  have e : as.filter (fun _ => true) = as := List.filter_eq_self.mpr fun _ _ => rfl
  rw [e]
  rfl
theorem foldX_ok {f : α → σ → X ε σ} (g : α → σ → σ) {I : σ → Prop} : ∀ (as : List α) (s : σ), I s → (∀ a ∈ as, ∀ s, I s → f a s = .ok (g a s) ∧ I (g a s)) → foldX f as s = .ok (as.foldl (fun s a => g a s) s) ∧ I (as.foldl (fun s a => g a s) s)
  | [], s, h, _ => ⟨rfl, h⟩
  | a :: as, s, h, hf => by
    obtain ⟨h1, h2⟩ := hf a List.mem_cons_self s h
    rw [foldX, h1, X.bind_ok, List.foldl_cons]
    exact foldX_ok g as _ h2 fun b hb => hf b (List.mem_cons_of_mem _ hb)
theorem loopX_all {f : α → σ → X ε (Lp β σ)} (s : σ) : ∀ (as : List α), (∀ a ∈ as, f a s = .ok (.nx s)) → loopX f as s = .ok (.nx s)
  | [], _ => rfl
  | a :: as, hf => by
    rw [loopX, hf a List.mem_cons_self, X.bind_ok]
    exact loopX_all s as fun b hb => hf b (List.mem_cons_of_mem _ hb)
end
/-! ### bounds of the model -/
theorem small_l {i j : Int} (h : i.natAbs < 2 ^ 64) : small i j := .inl h
theorem small_r {i j : Int} (h : j.natAbs < 2 ^ 64) : small i j := .inr (.inl h)
theorem mulI_l {ε : Type} {i j : Int} (h : i.natAbs < 2 ^ 64) : (X.mulI i j : X ε Int) = .ok (i * j) := if_pos (small_l h)
theorem mulI_r {ε : Type} {i j : Int} (h : j.natAbs < 2 ^ 64) : (X.mulI i j : X ε Int) = .ok (i * j) := if_pos (small_r h)
theorem modI_ok {ε : Type} {i j : Int} (h : 0 < j) : (X.modI i j : X ε Int) = .ok (i % j) := if_pos h
theorem pow8 {j : Int} (h : j < 2 ^ 64) : j < 2 ^ 8000 := Int.lt_of_lt_of_le h (by
  have : (2 : Int) ^ 64 ≤ 2 ^ 8000 := by exact_mod_cast Nat.pow_le_pow_right (by decide) (by decide)
  exact this)
theorem fdivI_ok {ε : Type} {i j : Int} (h : 0 < j) (h2 : j < 2 ^ 64) : (X.fdivI i j : X ε Int) = .ok (i / j) := if_pos ⟨h, pow8 h2⟩
theorem rng_ok {i j : Int} (h1 : -1000 ≤ i) (h2 : i ≤ 100000) (h3 : -1000 ≤ j) (h4 : j ≤ 100000) : rng i j = some (rangeI i j) := by
  unfold rng
  rw [if_pos]
  refine ⟨⟨?_, ?_⟩, ?_, ?_⟩ <;> omega
theorem mem_rangeI {i j k : Int} : k ∈ rangeI i j ↔ i ≤ k ∧ k < j := by
  unfold rangeI
  simp only [List.mem_map, List.mem_range]
  constructor
  · rintro ⟨n, hn, rfl⟩
    omega
  · rintro ⟨h1, h2⟩
    exact ⟨(k - i).toNat, by omega, by omega⟩
theorem length_rangeI (i j : Int) : (rangeI i j).length = (j - i).toNat := by simp [rangeI]
theorem ixL_nat {α : Type} {xs : List α} {i : Int} (h0 : 0 ≤ i) : ixL xs i = xs[i.toNat]? := by
  unfold ixL ixD
  rw [if_pos h0]
  by_cases h : i < xs.length
  · rw [if_pos h]; rfl
  · rw [if_neg h]
    have : xs[i.toNat]? = none := List.getElem?_eq_none (by omega)
    rw [this]
    rfl
theorem setL_nat {α : Type} {xs : List α} {i : Int} {v : α} (h0 : 0 ≤ i) (h : i < xs.length) : setL xs i v = some (xs.set i.toNat v) := by
  unfold setL ixD
  rw [if_pos h0, if_pos h]
  rfl
theorem line_ge : 4000 ≤ sizeLine := by rw [sizeLine_eq]; decide
end Q

/-! M1: what pens draw. -/
namespace Q
open PySem
theorem mod_lt64 (i : Int) {j : Int} (h : 0 < j) (h2 : j < 2 ^ 32) : (i % j).natAbs < 2 ^ 64 := by
  have h3 := Int.emod_nonneg i (Int.ne_of_gt h)
  have h4 := Int.emod_lt_of_pos i h
  omega
abbrev Str4 := Int × Int × Int × Int
/-- a street with numbers in their bounds -/
structure StOk (m : Int) (s : Str4) : Prop where
  a0 : 0 ≤ s.1
  ab : s.1 < s.2.1
  bm : s.2.1 < m
  t1 : 1 ≤ s.2.2.1
  t3 : s.2.2.1 ≤ 3
  b1 : 1 ≤ s.2.2.2
  b3 : s.2.2.2 ≤ 3
  one : s.2.2.1 = 1 ∨ s.2.2.2 = 1
/-! ### dicts -/
section
variable {κ α : Type} [DecidableEq κ]
theorem keys_putA (kvs : List (κ × α)) (k : κ) (v : α) : (putA kvs k v).map (·.1) = if k ∈ kvs.map (·.1) then kvs.map (·.1) else kvs.map (·.1) ++ [k] := by
  unfold putA
  have e : (kvs.any fun kv => decide (kv.1 = k)) = true ↔ k ∈ kvs.map (·.1) := by
    simp only [List.any_eq_true, decide_eq_true_eq, List.mem_map]
  by_cases h : k ∈ kvs.map (·.1)
  · rw [if_pos h, if_pos (e.mpr h), List.map_map]
    refine List.map_congr_left fun p _ => ?_
    simp only [Function.comp]
    split
    · rfl
    · rfl
  · rw [if_neg h, if_neg fun q => h (e.mp q)]
    simp
theorem nodup_putA {kvs : List (κ × α)} {k : κ} {v : α} (h : (kvs.map (·.1)).Nodup) : ((putA kvs k v).map (·.1)).Nodup := by
  rw [keys_putA]
  split
  · exact h
  · rename_i hk
    exact List.nodup_append.mpr ⟨h, by simp, fun a ha b hb => by
      simp at hb
      subst hb
      exact fun e => hk (e ▸ ha)⟩
theorem mem_keys_putA {kvs : List (κ × α)} {k j : κ} {v : α} : j ∈ (putA kvs k v).map (·.1) ↔ j = k ∨ j ∈ kvs.map (·.1) := by
  rw [keys_putA]
  split
  · rename_i h
    constructor
    · exact .inr
    · rintro (rfl | q)
      · exact h
      · exact q
  · rw [List.mem_append, List.mem_singleton, or_comm]
theorem mem_putA {kvs : List (κ × α)} {k : κ} {v : α} {p : κ × α} (h : p ∈ putA kvs k v) : p = (k, v) ∨ p ∈ kvs := by
  unfold putA at h
  split at h
  · obtain ⟨q, hq, e⟩ := List.mem_map.mp h
    split at e
    · rename_i hk
      left
      rw [← e, hk]
    · right
      rw [← e]
      exact hq
  · rcases List.mem_append.mp h with q | q
    · exact .inr q
    · left
      simpa using q
theorem getA_isSome {kvs : List (κ × α)} {k : κ} : (getA kvs k).isSome = decide (k ∈ kvs.map (·.1)) := by
  unfold getA
  rw [Option.isSome_map, Bool.eq_iff_iff, List.find?_isSome]
  simp only [decide_eq_true_eq, List.mem_map]
end
/-! ### sorting -/
section
variable {α : Type} {lt : α → α → Bool}
theorem perm_insL (x : α) : ∀ ys : List α, (insL lt x ys).Perm (x :: ys)
  | [] => List.Perm.refl _
  | y :: ys => by
    rw [insL]
    split
    · exact ((perm_insL x ys).cons y).trans (List.Perm.swap x y ys)
    · exact List.Perm.refl _
theorem perm_sortL : ∀ xs : List α, (sortL lt xs).Perm xs
  | [] => List.Perm.refl _
  | x :: xs => (perm_insL x _).trans ((perm_sortL xs).cons x)
theorem sorted_insL (tr : ∀ a b c, lt a b = true → lt b c = true → lt a c = true) (tot : ∀ a b, lt a b = true ∨ a = b ∨ lt b a = true) (x : α) : ∀ ys : List α, ys.Pairwise (fun a b => lt a b = true ∨ a = b) → (insL lt x ys).Pairwise (fun a b => lt a b = true ∨ a = b)
  | [], _ => by simp [insL]
  | y :: ys, h => by
    rw [List.pairwise_cons] at h
    rw [insL]
    split
    · rename_i hy
      rw [List.pairwise_cons]
      refine ⟨fun z hz => ?_, sorted_insL tr tot x ys h.2⟩
      rcases List.mem_cons.mp ((perm_insL x ys).mem_iff.mp hz) with rfl | q
      · exact .inl hy
      · exact h.1 z q
    · rename_i hy
      rw [List.pairwise_cons]
      have hxy : lt x y = true ∨ x = y := by
        rcases tot x y with q | q | q
        · exact .inl q
        · exact .inr q
        · exact absurd q hy
      refine ⟨fun z hz => ?_, List.pairwise_cons.mpr h⟩
      rcases List.mem_cons.mp hz with rfl | q
      · exact hxy
      · rcases hxy with e | rfl
        · rcases h.1 z q with f | rfl
          · exact .inl (tr _ _ _ e f)
          · exact .inl e
        · exact h.1 z q
theorem sorted_sortL (tr : ∀ a b c, lt a b = true → lt b c = true → lt a c = true) (tot : ∀ a b, lt a b = true ∨ a = b ∨ lt b a = true) : ∀ xs : List α, (sortL lt xs).Pairwise (fun a b => lt a b = true ∨ a = b)
  | [] => List.Pairwise.nil
  | x :: xs => sorted_insL tr tot x _ (sorted_sortL tr tot xs)
end
/-! ### nets drawn -/
abbrev NetT := Int × List Str4
/-- what a drawn net is -/
structure Drawn (net : NetT) : Prop where
  m1 : 1 ≤ net.1
  m6 : net.1 ≤ 6
  st : ∀ s ∈ net.2, StOk net.1 s
  srt : net.2.Pairwise fun s t => ltII (s.1, s.2.1) (t.1, t.2.1) = true
  tree : ∀ t, 1 ≤ t → t < net.1 → ∃ s ∈ net.2, s.2.1 = t
  few : net.2.length ≤ 100
/-! ### a law's own loops -/
theorem law_top {ns : List Int} {c : Int} (hc : 0 ≤ c) (hc2 : c ≤ 1000) {f : Int → Unit → X Unit (Lp Bool Unit)} (hf : ∀ a, 0 ≤ a → Gets (f a ()) fun r => r = .nx ()) :
    ((X.opt (rng (0 : Int) (if (if c < (ns.length : Int) then c else (ns.length : Int)) > (1 : Int) then (if c < (ns.length : Int) then c else (ns.length : Int)) else (1 : Int))) : X Unit _).bind fun v1 => (loopX f v1 ()).bind fun q => q.cas (fun _ => X.ok true) (fun r _ => X.ok r)) = .ok true := by
  have hk : ∀ x : Int, x ≤ c → 0 ≤ (if x > 1 then x else 1) ∧ (if x > 1 then x else (1 : Int)) ≤ 1000 := fun x hx => by split <;> omega
  have hx : (if c < (ns.length : Int) then c else (ns.length : Int)) ≤ c := by split <;> omega
  have h2 := hk _ hx
  rw [rng_ok (by omega) (by omega) (by omega) (by omega), X.opt_some, X.bind_ok, loopX_all () _ fun a ha => ?_]
  · rfl
  · obtain ⟨r, e, rfl⟩ := hf a (mem_rangeI.mp ha).1
    exact e
end Q

/-! M2: what is known as a net, purses, a row. -/
namespace Q
open PySem
theorem whole_ok (i : Int) : s_is_whole_437_i i = .ok true := rfl
theorem among_ok (i a b : Int) : s_is_among_428_i_i_i i a b = .ok (decide (a ≤ i) && decide (i ≤ b)) := by
  unfold s_is_among_428_i_i_i
  rw [whole_ok, X.bind_ok]
  simp
theorem two_le : 2 ≤ sizeLine := by have := line_ge; omega
theorem nox_okE {ε ζ α : Type} (a : α) : (X.nox (.ok a : X ε α) : X ζ α) = .ok a := rfl
theorem streetX_ok (m : Int) (s : Str4) : s_is_street_435_i_t4iiii m s = .ok (((decide (0 ≤ s.1) && decide (s.1 ≤ m - 1)) && ((decide (0 ≤ s.2.1) && decide (s.2.1 ≤ m - 1)) && true)) && (((decide (1 ≤ s.2.2.1) && decide (s.2.2.1 ≤ 3)) && ((decide (1 ≤ s.2.2.2) && decide (s.2.2.2 ≤ 3)) && true)) && (decide (s.1 < s.2.1) && memB 1 [s.2.2.1, s.2.2.2]))) := by
  unfold s_is_street_435_i_t4iiii
  have e1 : compP (s_is_street_435_i_t4iiii_c1 m) [s.1, s.2.1] [] = .ok ([s.1, s.2.1].map fun a => decide (0 ≤ a) && decide (a ≤ m - 1)) :=
    compP_map _ _ (by simpa using two_le) fun a _ => by unfold s_is_street_435_i_t4iiii_c1; rw [among_ok]; rfl
  have e2 : compP s_is_street_435_i_t4iiii_c3 [s.2.2.1, s.2.2.2] [] = .ok ([s.2.2.1, s.2.2.2].map fun a => decide (1 ≤ a) && decide (a ≤ 3)) :=
    compP_map _ _ (by simpa using two_le) fun a _ => by unfold s_is_street_435_i_t4iiii_c3; rw [among_ok]; rfl
  rw [e1, e2]
  have e3 : s_are_some_389_t4iiii_i s 4 = .ok true := by unfold s_are_some_389_t4iiii_i; rfl
  rw [e3]
  simp only [X.bind_ok, Bool.not_true, Bool.false_eq_true, if_false, nox_okE, List.map_cons, List.map_nil, List.all_cons, List.all_nil, id]
  have key : ∀ b y : Bool, (if (!b) = true then X.ok false else X.ok y : X Unit Bool) = .ok (b && y) := fun b y => by cases b <;> rfl
  have key2 : ∀ (b : Bool) (x : X Unit Bool) (y : Bool), x = .ok y → (if (!b) = true then X.ok false else x) = .ok (b && y) := fun b x y e => by subst e; exact key b y
  exact key2 _ _ _ (key _ _)
theorem streetX_true {m : Int} {s : Str4} (h : StOk m s) : s_is_street_435_i_t4iiii m s = .ok true := by
  rw [streetX_ok]
  have h1 : memB (1 : Int) [s.2.2.1, s.2.2.2] = true := by
    unfold memB
    simp only [List.mem_cons, List.not_mem_nil, or_false, decide_eq_true_eq]
    rcases h.one with q | q
    · exact .inl q.symm
    · exact .inr q.symm
  rw [h1]
  obtain ⟨a, b, c, d, e, f, g, _⟩ := h
  have h2 : s.1 ≤ m - 1 := by omega
  have h3 : (0 : Int) ≤ s.2.1 := by omega
  have h4 : s.2.1 ≤ m - 1 := by omega
  simp [a, b, d, e, f, g, h2, h3, h4]
/-! ### streets hang together -/
abbrev Fd := List (Int × Bool)
def fdK (s : Fd) : List Int := s.map (·.1)
theorem upd_keys (s : Fd) (a b : Int) : ∀ j, j ∈ fdK ((putA (putA ([] : Fd) a true) b true).foldl (fun acc kv => putA acc kv.1 kv.2) s) ↔ j = a ∨ j = b ∨ j ∈ fdK s := by
  intro j
  have e : putA (putA ([] : Fd) a true) b true = if a = b then [(a, true)] else [(a, true), (b, true)] := by
    by_cases h : a = b
    · subst h; simp [putA]
    · simp [putA, h]
  rw [e]
  unfold fdK
  split
  · rename_i h
    subst h
    simp only [List.foldl_cons, List.foldl_nil, mem_keys_putA]
    constructor
    · rintro (q | q)
      · exact .inl q
      · exact .inr (.inr q)
    · rintro (q | q | q)
      · exact .inl q
      · exact .inl q
      · exact .inr q
  · simp only [List.foldl_cons, List.foldl_nil, mem_keys_putA]
    constructor
    · rintro (q | q | q)
      · exact .inr (.inl q)
      · exact .inl q
      · exact .inr (.inr q)
    · rintro (q | q | q)
      · exact .inr (.inl q)
      · exact .inl q
      · exact .inr (.inr q)
theorem upd_nodup (s : Fd) (a b : Int) (h : (fdK s).Nodup) : (fdK ((putA (putA ([] : Fd) a true) b true).foldl (fun acc kv => putA acc kv.1 kv.2) s)).Nodup := by
  generalize putA (putA ([] : Fd) a true) b true = l
  induction l generalizing s with
  | nil => exact h
  | cons p l ih => exact ih _ (nodup_putA h)
theorem more_len (a b : Int) : (putA (putA ([] : Fd) a true) b true).length ≤ 2 := by
  by_cases h : a = b
  · subst h; simp [putA]
  · simp [putA, h]
/-- unlike numbers below m -/
structure FdOk (m : Int) (s : Fd) : Prop where
  nd : (fdK s).Nodup
  lo : ∀ j ∈ fdK s, 0 ≤ j ∧ j < m
theorem nodup_lenI {m : Int} (hm : 0 ≤ m) {l : List Int} (h : l.Nodup) (hl : ∀ j ∈ l, 0 ≤ j ∧ j < m) : l.length ≤ m.toNat := by
  have : l.length ≤ (rangeI 0 m).length := by
    refine List.Nodup.length_le_of_subset h fun j hj => ?_
    rw [mem_rangeI]
    exact hl j hj
  rw [length_rangeI] at this
  omega
theorem range_nodup (m : Int) : (rangeI 0 m).Nodup := by
  unfold rangeI
  rw [List.nodup_iff_pairwise_ne, List.pairwise_map]
  refine List.Pairwise.imp (fun {a b} h => ?_) (List.pairwise_lt_range (n := (m - 0).toNat))
  omega
theorem full_len {m : Int} (hm : 0 ≤ m) {l : List Int} (h : l.Nodup) (hl : ∀ j ∈ l, 0 ≤ j ∧ j < m) (hf : ∀ j, 0 ≤ j → j < m → j ∈ l) : (l.length : Int) = m := by
  have h1 := nodup_lenI hm h hl
  have h2 : (rangeI 0 m).length ≤ l.length := List.Nodup.length_le_of_subset (range_nodup m) fun j hj => by
    rw [mem_rangeI] at hj
    exact hf j hj.1 hj.2
  rw [length_rangeI] at h2
  omega
theorem hang_step {m : Int} (m6 : m ≤ 6) (m1 : 1 ≤ m) {a : Str4} (ha : StOk m a) (s : Fd) (hs : FdOk m s) : Gets (s_hang_together_422_i_qt4iiii_l1 a s) fun s' => FdOk m s' ∧ (∀ j ∈ fdK s, j ∈ fdK s') ∧ (a.1 ∈ fdK s → a.2.1 ∈ fdK s') ∧ (∀ j ∈ fdK s', j ∈ fdK s ∨ ((a.1 ∈ fdK s ∨ a.2.1 ∈ fdK s) ∧ (j = a.1 ∨ j = a.2.1))) := by
  unfold s_hang_together_422_i_qt4iiii_l1
  rw [getA_isSome, getA_isSome]
  by_cases h : a.1 ∈ s.map (·.1) ∨ a.2.1 ∈ s.map (·.1)
  · have h' : (decide (a.1 ∈ s.map (·.1)) || decide (a.2.1 ∈ s.map (·.1))) = true := by simpa using h
    rw [if_pos h']
    have hl : s.length ≤ 6 := by
      have := nodup_lenI (by omega) hs.nd hs.lo
      rw [fdK, List.length_map] at this
      omega
    have e : (X.upd s (putA (putA [] a.1 true) a.2.1 true) : X Unit _) = .ok ((putA (putA ([] : Fd) a.1 true) a.2.1 true).foldl (fun acc kv => putA acc kv.1 kv.2) s) := if_pos (by have := more_len a.1 a.2.1; have := line_ge; omega)
    rw [e, X.bind_ok]
    refine Gets.ok ⟨⟨upd_nodup s _ _ hs.nd, fun j hj => ?_⟩, fun j hj => (upd_keys s _ _ j).mpr (.inr (.inr hj)), fun _ => (upd_keys s _ _ _).mpr (.inr (.inl rfl)), fun j hj => ?_⟩
    · rcases (upd_keys s _ _ j).mp hj with rfl | rfl | q
      · exact ⟨ha.a0, by have := ha.ab; have := ha.bm; omega⟩
      · exact ⟨by have := ha.ab; have := ha.a0; omega, ha.bm⟩
      · exact hs.lo j q
    · rcases (upd_keys s _ _ j).mp hj with q | q | q
      · exact .inr ⟨h, .inl q⟩
      · exact .inr ⟨h, .inr q⟩
      · exact .inl q
  · have h' : ¬ (decide (a.1 ∈ s.map (·.1)) || decide (a.2.1 ∈ s.map (·.1))) = true := by simpa using h
    rw [if_neg h']
    exact Gets.ok ⟨hs, fun j hj => hj, fun q => absurd (.inl q) h, fun j hj => .inl hj⟩
theorem hang_true {net : NetT} (h : Drawn net) : s_hang_together_422_i_qt4iiii net.1 net.2 = .ok true := by
  unfold s_hang_together_422_i_qt4iiii
  have m1 := h.m1
  have m6 := h.m6
  rw [rng_ok (by omega) (by omega) (by omega) (by omega), X.opt_some, X.bind_ok]
  have main := Gets.fold (f := s_hang_together_422_i_qt4iiii_l2 net.2) (I := fun done s => FdOk net.1 s ∧ ∀ j, 0 ≤ j → j < net.1 → j ≤ done.length → j ∈ fdK s) (rangeI 0 net.1) [] (putA [] (0 : Int) true) ⟨⟨by simp [fdK, putA], fun j hj => by simp [fdK, putA] at hj; subst hj; omega⟩, fun j h0 _ h1 => by
    have : j = 0 := by simp at h1; omega
    subst this
    simp [fdK, putA]⟩ fun l a r e s hs => by
      unfold s_hang_together_422_i_qt4iiii_l2
      have inner := Gets.fold (f := s_hang_together_422_i_qt4iiii_l1) (I := fun done s' => FdOk net.1 s' ∧ (∀ j ∈ fdK s, j ∈ fdK s') ∧ ∀ q ∈ done, q.1 ∈ fdK s → q.2.1 ∈ fdK s') net.2 [] s ⟨hs.1, fun j hj => hj, by simp⟩ fun l2 q r2 e2 s2 hs2 => by
        have hq : q ∈ net.2 := by simp only [List.nil_append] at e2; rw [e2]; simp
        refine (hang_step m6 m1 (h.st q hq) s2 hs2.1).imp fun s3 hs3 => ⟨hs3.1, fun j hj => hs3.2.1 j (hs2.2.1 j hj), fun p hp hp1 => ?_⟩
        rcases List.mem_append.mp hp with z | z
        · exact hs3.2.1 _ (hs2.2.2 p z hp1)
        · simp at z
          subst z
          exact hs3.2.2.1 (hs2.2.1 _ hp1)
      refine inner.bind fun s2 hs2 => Gets.ok ⟨hs2.1, fun j h0 hj hl => ?_⟩
      simp only [List.length_append, List.length_cons, List.length_nil] at hl
      by_cases hj2 : j ≤ l.length
      · exact hs2.2.1 j (hs.2 j h0 hj hj2)
      · obtain ⟨q, hq, e3⟩ := h.tree j (by omega) hj
        have so := h.st q hq
        have := hs2.2.2 q (by simpa using hq) (hs.2 q.1 so.a0 (by have := so.ab; omega) (by have := so.ab; omega))
        rw [e3] at this
        exact this
  obtain ⟨s, e, hs⟩ := main
  rw [e, X.bind_ok]
  have := full_len (by omega) hs.1.nd hs.1.lo fun j h0 hj => hs.2 j h0 hj (by
    simp only [List.nil_append, length_rangeI]
    omega)
  rw [fdK, List.length_map] at this
  rw [decide_eq_true this]
theorem zip_tail_all {α : Type} {R : α → α → Prop} : ∀ {l : List α}, l.Pairwise R → ∀ p ∈ l.zip (l.drop 1), R p.1 p.2
  | [], _, p, hp => by simp at hp
  | [x], _, p, hp => by simp at hp
  | x :: y :: l, h, p, hp => by
    rw [List.pairwise_cons] at h
    simp only [List.drop_succ_cons, List.drop_zero, List.zip_cons_cons, List.mem_cons] at hp
    rcases hp with rfl | hp
    · exact h.1 y (by simp)
    · exact zip_tail_all (l := y :: l) h.2 p (by simpa using hp)
theorem cut1 {α : Type} (l : List α) : cutL l (some 1) none = l.drop 1 := by
  unfold cutL cutLoI
  simp only
  have : ¬ ((1 : Int) < 0) := by decide
  rw [if_neg this]
  cases l with
  | nil => rfl
  | cons x l =>
    have : min (1 : Int).toNat (x :: l).length = 1 := by simp
    rw [this]
    simp
theorem net_true {net : NetT} (h : Drawn net) : s_is_net_430_net net = .ok true := by
  unfold s_is_net_430_net
  have m1 := h.m1
  have m6 := h.m6
  have e0 : s_are_some_389_net_i net 2 = .ok true := rfl
  have lf := h.few
  have lg := line_ge
  have e1 : compP (s_is_net_430_net_c1 net.1) net.2 [] = .ok (net.2.map fun _ => true) := compP_map _ _ (by omega) fun a ha => by
    unfold s_is_net_430_net_c1
    rw [streetX_true (h.st a ha)]
    rfl
  have e2 : compP s_is_net_430_net_c2 net.2 [] = .ok (net.2.map fun a => (a.1, a.2.1)) := compP_map _ _ (by omega) fun a _ => rfl
  have e3 : ∀ l : List ((Int × Int) × (Int × Int)), l.length ≤ 200 → compP s_is_net_430_net_c3 l [] = .ok (l.map fun a => ltII a.1 a.2) := fun l hl => compP_map _ _ (by omega) fun a _ => rfl
  rw [e0, e1, e2]
  simp only [X.bind_ok, Bool.not_true, Bool.false_eq_true, if_false, among_ok, decide_eq_true m1, decide_eq_true m6, Bool.and_self, Bool.or_self, nox_okE, cut1]
  have a1 : (net.2.map fun _ => true).all id = true := by simp
  simp only [a1, Bool.not_true, Bool.false_eq_true, if_false]
  rw [e3 _ (by simp; omega)]
  simp only [nox_okE, X.bind_ok]
  have hp : (net.2.map fun a => (a.1, a.2.1)).Pairwise fun a b => ltII a b = true := List.pairwise_map.mpr h.srt
  have a2 : (((net.2.map fun a => (a.1, a.2.1)).zip ((net.2.map fun a => (a.1, a.2.1)).drop 1)).map fun a => ltII a.1 a.2).all id = true := by
    rw [List.all_map, List.all_eq_true]
    intro p hpm
    exact zip_tail_all hp p hpm
  rw [a2, if_pos rfl, hang_true h]
  rfl
theorem need_net {net : NetT} (h : Drawn net) : s_need_net_562_net net = .ok () := by
  unfold s_need_net_562_net
  rw [net_true h]
  rfl
/-- purses of a net -/
structure PurseOk (net : NetT) (p : List Int) : Prop where
  len : (p.length : Int) = net.1
/-- a row of a net -/
def RowOk (net : NetT) (r : List Int) : Prop := ∀ x ∈ r, 0 ≤ x ∧ x < net.1
theorem row_ok {net : NetT} {r : List Int} (hr : RowOk net r) (hl : r.length ≤ sizeLine) : s_is_row_by_432_net_qi net r = .ok true := by
  unfold s_is_row_by_432_net_qi
  have e1 : compP (s_is_row_by_432_net_qi_c1 net) r [] = .ok (r.map fun _ => true) := compP_map _ _ hl fun a ha => by
    unfold s_is_row_by_432_net_qi_c1
    rw [among_ok]
    have := hr a ha
    rw [decide_eq_true this.1, decide_eq_true (by omega)]
    rfl
  rw [e1]
  simp [nox_okE]
theorem need_row {net : NetT} {r : List Int} (hr : RowOk net r) (hl : r.length ≤ sizeLine) : s_need_row_by_567_net_qi net r = .ok () := by
  unfold s_need_row_by_567_net_qi
  rw [row_ok hr hl]
  rfl
/-- the towns in debt -/
def debtsV (p : List Int) : List Int := ((enumL 0 p).filter fun a => decide (a.2 < 0)).map (·.1)
theorem enum_len {α : Type} : ∀ (i : Nat) (l : List α), (enumL i l).length = l.length
  | _, [] => rfl
  | i, x :: l => by simp [enumL, enum_len (i + 1) l]
theorem debts_of {p : List Int} (hl : p.length ≤ sizeLine) : s_debts_of_404_qi p = .ok (debtsV p) := by
  unfold s_debts_of_404_qi
  have e1 : compP s_debts_of_404_qi_c1 (enumL 0 p) [] = .ok (debtsV p) := by
    have := compP_filter (f := s_debts_of_404_qi_c1) (fun a => decide (a.2 < 0)) (·.1) (enumL 0 p) [] (by rw [enum_len]; simpa using hl) fun a _ => by
      unfold s_debts_of_404_qi_c1
      split <;> rfl
    exact this
  rw [e1]
  rfl
end Q

/-! M3: what towns give, turns, rows. -/
namespace Q
open PySem
abbrev Gv := List (Int × Int)
def piece (s : Str4) (t : Int) : Gv := if s.1 = t then [(s.2.1, s.2.2.1)] else if s.2.1 = t then [(s.1, s.2.2.2)] else []
/-- what a town gives, street by street -/
def rowRaw (ss : List Str4) (t : Int) : Gv := ss.flatMap fun s => piece s t
/-- how often a turn at t gives its number to k -/
def coef (ss : List Str4) (t k : Int) : Int := (((rowRaw ss t).filter fun p => decide (p.1 = k)).map (·.2)).sum
def givesV (net : NetT) : List Gv := (List.range net.1.toNat).map fun (t : Nat) => sortL ltII (rowRaw net.2 t)
/-- the purses behind a turn -/
def turnV (ss : List Str4) (p : List Int) (t : Int) : List Int := (enumL 0 p).map fun a => if a.1 = t then 0 - a.2 else a.2 + coef ss t a.1 * (p[t.toNat]?).getD 0
def playV (ss : List Str4) (p : List Int) (r : List Int) : List Int := r.foldl (fun p t => turnV ss p t) p
theorem rowRaw_snoc (ss : List Str4) (a : Str4) (t : Int) : rowRaw (ss ++ [a]) t = rowRaw ss t ++ piece a t := by simp [rowRaw]
theorem piece_len (s : Str4) (t : Int) : (piece s t).length ≤ 1 := by
  unfold piece
  split
  · simp
  · split <;> simp
theorem rowRaw_len (ss : List Str4) (t : Int) : (rowRaw ss t).length ≤ ss.length := by
  induction ss with
  | nil => simp [rowRaw]
  | cons s ss ih =>
    have := piece_len s t
    simp only [rowRaw, List.flatMap_cons, List.length_append, List.length_cons] at ih ⊢
    omega
theorem gives_ok {net : NetT} (h : Drawn net) : s_gives_of_420_net net = .ok (givesV net) := by
  have m1 := h.m1
  have m6 := h.m6
  have lg := line_ge
  unfold s_gives_of_420_net
  rw [rng_ok (by omega) (by omega) (by omega) (by omega), X.opt_some, X.bind_ok]
  have hl : (rangeI 0 net.1).length = net.1.toNat := by rw [length_rangeI]; congr 1; omega
  rw [hl, if_pos (by omega)]
  have main := Gets.fold (f := s_gives_of_420_net_l1) (I := fun done s => s = (List.range net.1.toNat).map fun t => rowRaw done (t : Nat)) net.2 [] (List.replicate net.1.toNat []) (by
    refine List.ext_getElem (by simp) fun i h1 h2 => ?_
    simp [rowRaw]) fun l a r e s hs => by
      simp only [List.nil_append] at e
      have ha : a ∈ net.2 := by rw [e]; simp
      have so := h.st a ha
      have hln : l.length ≤ 100 := by
        have := congrArg List.length e
        have := h.few
        simp only [List.length_append, List.length_cons] at *
        omega
      have sl : s.length = net.1.toNat := by rw [hs]; simp
      unfold s_gives_of_420_net_l1
      have get : ∀ i : Int, 0 ≤ i → i < net.1 → ixL s i = some (rowRaw l i) := fun i h0 h1 => by
        rw [ixL_nat h0, hs, List.getElem?_map, List.getElem?_range (by omega)]
        simp only [Option.map_some]
        congr 2
        omega
      rw [get a.1 so.a0 (by have := so.ab; have := so.bm; omega), X.opt_some, X.bind_ok]
      have p1 : ∀ (t : Int) (x : Int × Int), (X.push (rowRaw l t) x : X Unit _) = .ok (rowRaw l t ++ [x]) := fun t x => if_pos (by have := rowRaw_len l t; omega)
      rw [p1, X.bind_ok, setL_nat so.a0 (by have := so.ab; have := so.bm; omega), X.opt_some, X.bind_ok]
      have hne : a.1.toNat ≠ a.2.1.toNat := by have := so.ab; have := so.a0; omega
      have g2 : ixL (s.set a.1.toNat (rowRaw l a.1 ++ [(a.2.1, a.2.2.1)])) a.2.1 = some (rowRaw l a.2.1) := by
        rw [ixL_nat (by have := so.ab; have := so.a0; omega), List.getElem?_set_ne hne, ← ixL_nat (by have := so.ab; have := so.a0; omega)]
        exact get _ (by have := so.ab; have := so.a0; omega) so.bm
      rw [g2, X.opt_some, X.bind_ok, p1, X.bind_ok, setL_nat (by have := so.ab; have := so.a0; omega) (by rw [List.length_set]; have := so.bm; omega), X.opt_some]
      refine Gets.ok ?_
      refine List.ext_getElem (by simp [sl]) fun i h1 h2 => ?_
      simp only [List.length_set, sl] at h1
      rw [List.getElem_set, List.getElem_set]
      simp only [List.getElem_map, List.getElem_range, rowRaw_snoc]
      have a0 := so.a0
      have ab := so.ab
      have bm := so.bm
      by_cases h3 : a.2.1.toNat = i
      · rw [if_pos h3]
        have e1 : (i : Int) = a.2.1 := by omega
        rw [e1]
        unfold piece
        rw [if_neg (by omega), if_pos rfl]
      · rw [if_neg h3]
        by_cases h4 : a.1.toNat = i
        · rw [if_pos h4]
          have e1 : (i : Int) = a.1 := by omega
          rw [e1]
          unfold piece
          rw [if_pos rfl]
        · rw [if_neg h4]
          unfold piece
          rw [if_neg (by omega), if_neg (by omega), List.append_nil]
          simp only [hs, List.getElem_map, List.getElem_range]
  obtain ⟨s, e, hs⟩ := main
  simp only [List.nil_append] at hs
  rw [e, X.bind_ok, hs, if_pos (by simp; omega), List.map_map]
  rfl
/-! ### one turn -/
theorem rowRaw_mem {net : NetT} (h : Drawn net) {t : Int} {p : Int × Int} (hp : p ∈ rowRaw net.2 t) : 0 ≤ p.1 ∧ p.1 < net.1 ∧ 1 ≤ p.2 ∧ p.2 ≤ 3 ∧ p.1 ≠ t := by
  unfold rowRaw at hp
  obtain ⟨s, hs, hp⟩ := List.mem_flatMap.mp hp
  have so := h.st s hs
  obtain ⟨a0, ab, bm, t1, t3, b1, b3, _⟩ := so
  unfold piece at hp
  split at hp
  · simp at hp
    subst hp
    refine ⟨?_, ?_, ?_, ?_, ?_⟩ <;> simp only <;> omega
  · split at hp
    · simp at hp
      subst hp
      refine ⟨?_, ?_, ?_, ?_, ?_⟩ <;> simp only <;> omega
    · simp at hp
/-- numbers put to those of a list -/
def sumAt (row : Gv) (k : Int) : Int := ((row.filter fun p => decide (p.1 = k)).map (·.2)).sum
theorem sumAt_snoc (l : Gv) (a : Int × Int) (k : Int) : sumAt (l ++ [a]) k = sumAt l k + (if a.1 = k then a.2 else 0) := by
  unfold sumAt
  rw [List.filter_append, List.map_append, List.sum_append]
  congr 1
  by_cases h : a.1 = k <;> simp [h]
theorem perm_sum {l r : List Int} (h : l.Perm r) : l.sum = r.sum := by
  induction h with
  | nil => rfl
  | cons x _ ih => simp [ih]
  | swap x y l => simp; omega
  | trans _ _ h1 h2 => rw [h1, h2]
theorem sumAt_perm {l r : Gv} (h : l.Perm r) (k : Int) : sumAt l k = sumAt r k := by
  unfold sumAt
  have := (h.filter fun p => decide (p.1 = k)).map (·.2)
  exact perm_sum this
theorem enum_get {α : Type} : ∀ (i : Nat) (l : List α) (k : Nat), (enumL i l)[k]? = (l[k]?).map fun x => (((i + k : Nat) : Int), x)
  | _, [], k => by simp [enumL]
  | i, x :: l, 0 => by simp [enumL]
  | i, x :: l, k + 1 => by
    simp only [enumL, List.getElem?_cons_succ, enum_get (i + 1) l k]
    congr 1
    funext x
    congr 2
    omega
theorem turnV_len (ss : List Str4) (p : List Int) (t : Int) : (turnV ss p t).length = p.length := by simp [turnV, enum_len]
theorem turnV_get (ss : List Str4) (p : List Int) (t : Int) (k : Nat) : (turnV ss p t)[k]? = (p[k]?).map fun own => if (k : Int) = t then 0 - own else own + coef ss t k * (p[t.toNat]?).getD 0 := by
  unfold turnV
  rw [List.getElem?_map, enum_get, Option.map_map]
  congr 1
  funext x
  simp
theorem turn_ok {net : NetT} (h : Drawn net) {p : List Int} (hp : PurseOk net p) {t : Int} (h0 : 0 ≤ t) (ht : t < net.1) : s_turned_by_621_llt2ii_qi_i (givesV net) p t = .ok (turnV net.2 p t) := by
  have m6 := h.m6
  have pl := hp.len
  unfold s_turned_by_621_llt2ii_qi_i
  have g1 : ixL (givesV net) t = some (sortL ltII (rowRaw net.2 t)) := by
    rw [ixL_nat h0, givesV, List.getElem?_map, List.getElem?_range (by omega)]
    simp only [Option.map_some]
    congr 3
    omega
  rw [g1, X.opt_some, X.bind_ok]
  have htl : t.toNat < p.length := by omega
  have g2 : ixL p t = some p[t.toNat] := by rw [ixL_nat h0, List.getElem?_eq_getElem htl]
  have main := Gets.fold (f := s_turned_by_621_llt2ii_qi_i_l1 p t) (I := fun done s => s.length = p.length ∧ ∀ k : Nat, s[k]? = (p[k]?).map fun own => own + sumAt done k * p[t.toNat]) (sortL ltII (rowRaw net.2 t)) [] p ⟨rfl, fun k => by simp [sumAt]⟩ fun l a r e s hs => by
    have ha : a ∈ sortL ltII (rowRaw net.2 t) := by simp only [List.nil_append] at e; rw [e]; simp
    obtain ⟨b0, b1, b2, b3, b4⟩ := rowRaw_mem h ((perm_sortL _).mem_iff.mp ha)
    unfold s_turned_by_621_llt2ii_qi_i_l1
    have hk : a.1.toNat < p.length := by omega
    have g3 : ixL s a.1 = some (p[a.1.toNat] + sumAt l a.1.toNat * p[t.toNat]) := by
      rw [ixL_nat b0, hs.2, List.getElem?_eq_getElem hk]
      rfl
    have g4 : (X.mulI a.2 p[t.toNat] : X Unit Int) = .ok (a.2 * p[t.toNat]) := mulI_l (by omega)
    rw [g3, X.opt_some, X.bind_ok, g2, X.opt_some, X.bind_ok, g4, X.bind_ok, setL_nat b0 (by rw [hs.1]; omega), X.opt_some, X.bind_ok]
    refine Gets.ok ⟨by rw [List.length_set]; exact hs.1, fun k => ?_⟩
    rw [List.getElem?_set, sumAt_snoc]
    by_cases hkk : a.1.toNat = k
    · rw [if_pos hkk, if_pos (by rw [hs.1]; omega)]
      subst hkk
      rw [List.getElem?_eq_getElem hk]
      simp only [Option.map_some, Option.some.injEq]
      rw [if_pos (by omega)]
      rw [Int.add_mul]
      omega
    · rw [if_neg hkk, hs.2, if_neg (by omega)]
      simp
  obtain ⟨s, e, hs⟩ := main
  simp only [List.nil_append] at hs
  rw [e, X.bind_ok, g2, X.opt_some, X.bind_ok, setL_nat h0 (by rw [hs.1]; omega), X.opt_some, X.bind_ok]
  congr 1
  refine List.ext_getElem? fun k => ?_
  rw [List.getElem?_set, turnV_get]
  have gp : (p[t.toNat]?).getD 0 = p[t.toNat] := by rw [List.getElem?_eq_getElem htl]; rfl
  rw [gp]
  have cf : ∀ k : Int, sumAt (sortL ltII (rowRaw net.2 t)) k = coef net.2 t k := fun k => sumAt_perm (perm_sortL _) k
  by_cases hk : t.toNat = k
  · rw [if_pos hk, if_pos (by rw [hs.1]; omega)]
    subst hk
    rw [List.getElem?_eq_getElem htl]
    simp only [Option.map_some]
    rw [if_pos (by omega)]
  · rw [if_neg hk, hs.2]
    congr 1
    funext own
    rw [if_neg (by omega), cf]
theorem purse_turn {net : NetT} {p : List Int} (hp : PurseOk net p) (t : Int) : PurseOk net (turnV net.2 p t) := ⟨by rw [turnV_len]; exact hp.len⟩
theorem play_ok {net : NetT} (h : Drawn net) {p : List Int} (hp : PurseOk net p) {r : List Int} (hr : RowOk net r) : s_played_by_583_llt2ii_qi_qi (givesV net) p r = .ok (playV net.2 p r) ∧ PurseOk net (playV net.2 p r) := by
  unfold s_played_by_583_llt2ii_qi_qi
  obtain ⟨h1, h2⟩ := foldX_ok (f := s_played_by_583_llt2ii_qi_qi_l1 (givesV net)) (fun t p => turnV net.2 p t) (I := PurseOk net) r p hp fun t ht p hp => by
    unfold s_played_by_583_llt2ii_qi_qi_l1
    rw [turn_ok h hp (hr t ht).1 (hr t ht).2]
    exact ⟨rfl, purse_turn hp t⟩
  rw [h1, X.bind_ok]
  exact ⟨rfl, h2⟩
/-! ### the same by the law -/
theorem no_more {s : Str4} {ss : List Str4} (hs : (s :: ss).Pairwise fun s t => ltII (s.1, s.2.1) (t.1, t.2.1) = true) (q : Str4) (hq : q ∈ ss) : ¬ (q.1 = s.1 ∧ q.2.1 = s.2.1) := by
  rw [List.pairwise_cons] at hs
  have := hs.1 q hq
  unfold ltII at this
  simp only [decide_eq_true_eq] at this
  omega
theorem rowRaw_none {ss : List Str4} {t k : Int} (h : ∀ q ∈ ss, ¬ (q.1 = t ∧ q.2.1 = k) ∧ ¬ (q.1 = k ∧ q.2.1 = t)) : coef ss t k = 0 := by
  unfold coef
  have : (rowRaw ss t).filter (fun p => decide (p.1 = k)) = [] := by
    rw [List.filter_eq_nil_iff]
    intro p hp
    unfold rowRaw at hp
    obtain ⟨s, hs, hp⟩ := List.mem_flatMap.mp hp
    have := h s hs
    unfold piece at hp
    split at hp
    · simp at hp
      subst hp
      simp
      omega
    · split at hp
      · simp at hp
        subst hp
        simp
        omega
      · simp at hp
  rw [this]
  rfl
theorem coef_cons (s : Str4) (ss : List Str4) (t k : Int) : coef (s :: ss) t k = (((piece s t).filter fun p => decide (p.1 = k)).map (·.2)).sum + coef ss t k := by
  unfold coef rowRaw
  rw [List.flatMap_cons, List.filter_append, List.map_append, List.sum_append]
/-! ### how great numbers get -/
def Within (b : Nat) (p : List Int) : Prop := ∀ x ∈ p, x.natAbs ≤ b
end Q

/-! M4: repr of bounded things. -/
namespace Q
open PySem
section
variable {α β γ δ : Type}
/-- repr is served: n parts at most -/
structure Shows (e : α → D) {d : Nat} [Pyd e d] (x : α) (n : Nat) : Prop where
  sh : (Pyd.dat e x).showable = true
  len : (Pyd.dat e x).shown.length ≤ 1930 * n
theorem Shows.mono {e : α → D} {d : Nat} [Pyd e d] {x : α} {n m : Nat} (h : Shows e x n) (hm : n ≤ m) : Shows e x m := ⟨h.sh, Nat.le_trans h.len (Nat.mul_le_mul_left _ hm)⟩
theorem bits_ok {i : Int} (h : i.natAbs < 2 ^ 1900) : i.natAbs.log2 < 1900 := by
  by_cases h0 : i.natAbs = 0
  · rw [h0]; decide
  · exact (Nat.log2_lt h0).mpr h
theorem ofStr_len (s : String) : (Str.ofString s).length = s.length := ofString_length s
theorem shows_int {i : Int} (h : i.natAbs < 2 ^ 1900) : Shows D.int i 1 := by
  have h1 := bits_ok h
  refine ⟨?_, ?_⟩
  · show (PyData.int i).showable = true
    simp only [PyData.showable]
    exact decide_eq_true (by omega)
  · have h2 := int_text_length_le (a := i) (k := 1900) (by decide) h1
    show (PyData.int i).shown.length ≤ _
    simp only [PyData.shown]
    have e : ((toString i : String) : PySem.Str).length = (toString i).length := ofStr_len _
    rw [e]
    omega
section
variable {e : α → D} {d : Nat} [Pyd e d]
theorem showsAll : ∀ {xs : List α} {k : Nat}, (∀ x ∈ xs, Shows e x k) → PyData.showableAll (xs.map (Pyd.dat e)) = true
  | [], _, _ => by simp [PyData.showableAll]
  | x :: xs, k, h => by
    simp only [List.map_cons, PyData.showableAll, (h x List.mem_cons_self).sh, showsAll fun y hy => h y (List.mem_cons_of_mem _ hy), Bool.and_self]
theorem lenAll : ∀ {xs : List α} {k : Nat}, (∀ x ∈ xs, Shows e x k) → (((PyData.shownAll (xs.map (Pyd.dat e))).map (·.length)).sum ≤ 1930 * (k * xs.length)) ∧ (PyData.shownAll (xs.map (Pyd.dat e))).length = xs.length
  | [], _, _ => by simp [PyData.shownAll]
  | x :: xs, k, h => by
    obtain ⟨h1, h2⟩ := lenAll fun y hy => h y (List.mem_cons_of_mem _ hy)
    have h3 := (h x List.mem_cons_self).len
    simp only [List.map_cons, PyData.shownAll, List.sum_cons, List.length_cons, h2, Nat.mul_add]
    simp only [Nat.mul_one]
    refine ⟨?_, trivial⟩
    omega
theorem shows_tup {xs : List α} {k : Nat} (h : ∀ x ∈ xs, Shows e x k) : Shows (eTup e) xs (1 + xs.length + k * xs.length) := by
  refine ⟨?_, ?_⟩
  · show (PyData.tuple (xs.map (Pyd.dat e))).showable = true
    simp only [PyData.showable]
    exact showsAll h
  · show (PyData.tuple (xs.map (Pyd.dat e))).shown.length ≤ _
    simp only [PyData.shown]
    obtain ⟨h1, h2⟩ := lenAll h
    have := tupleText_len_le (PyData.shownAll (xs.map (Pyd.dat e)))
    rw [h2] at this
    omega
theorem shows_lst {xs : List α} {k : Nat} (h : ∀ x ∈ xs, Shows e x k) : Shows (eLst e) xs (1 + xs.length + k * xs.length) := by
  refine ⟨?_, ?_⟩
  · show (PyData.list (xs.map (Pyd.dat e))).showable = true
    simp only [PyData.showable]
    exact showsAll h
  · show (PyData.list (xs.map (Pyd.dat e))).shown.length ≤ _
    simp only [PyData.shown]
    obtain ⟨h1, h2⟩ := lenAll h
    have := listText_len_le (PyData.shownAll (xs.map (Pyd.dat e)))
    rw [h2] at this
    omega
end
theorem shows_e2 {a : α → D} {b : β → D} {i j : Nat} [Pyd a i] [Pyd b j] {p : α × β} {n m : Nat} (h1 : Shows a p.1 n) (h2 : Shows b p.2 m) : Shows (e2 a b) p (2 + n + m) := by
  refine ⟨?_, ?_⟩
  · show (PyData.tuple [Pyd.dat a p.1, Pyd.dat b p.2]).showable = true
    simp [PyData.showable, PyData.showableAll, h1.sh, h2.sh]
  · show (PyData.tuple [Pyd.dat a p.1, Pyd.dat b p.2]).shown.length ≤ _
    have := tupleText_len_le (PyData.shownAll [Pyd.dat a p.1, Pyd.dat b p.2])
    have h1 := h1.len
    have h2 := h2.len
    simp only [PyData.shown, PyData.shownAll, List.map_cons, List.map_nil, List.sum_cons, List.sum_nil, List.length_cons, List.length_nil] at *
    omega
theorem shows_e4 {a : α → D} {b : β → D} {c : γ → D} {z : δ → D} {i j k l : Nat} [Pyd a i] [Pyd b j] [Pyd c k] [Pyd z l] {p : α × β × γ × δ} {n m o q : Nat} (h1 : Shows a p.1 n) (h2 : Shows b p.2.1 m) (h3 : Shows c p.2.2.1 o) (h4 : Shows z p.2.2.2 q) : Shows (e4 a b c z) p (2 + n + m + o + q) := by
  refine ⟨?_, ?_⟩
  · show (PyData.tuple [Pyd.dat a p.1, Pyd.dat b p.2.1, Pyd.dat c p.2.2.1, Pyd.dat z p.2.2.2]).showable = true
    simp [PyData.showable, PyData.showableAll, h1.sh, h2.sh, h3.sh, h4.sh]
  · show (PyData.tuple [Pyd.dat a p.1, Pyd.dat b p.2.1, Pyd.dat c p.2.2.1, Pyd.dat z p.2.2.2]).shown.length ≤ _
    have := tupleText_len_le (PyData.shownAll [Pyd.dat a p.1, Pyd.dat b p.2.1, Pyd.dat c p.2.2.1, Pyd.dat z p.2.2.2])
    have h1 := h1.len
    have h2 := h2.len
    have h3 := h3.len
    have h4 := h4.len
    simp only [PyData.shown, PyData.shownAll, List.map_cons, List.map_nil, List.sum_cons, List.sum_nil, List.length_cons, List.length_nil] at *
    omega
/-- repr of something bounded -/
def shownOf (e : α → D) {d : Nat} [Pyd e d] (x : α) : PySem.Str := (Pyd.dat e x).shown
theorem rpr_ok {e : α → D} {d : Nat} [Pyd e d] {x : α} {n : Nat} (h : Shows e x n) (hn : n ≤ 8000) : rpr e x = some (shownOf e x) := by
  unfold rpr shownOf
  have h2 := h.len
  rw [h.sh, decide_eq_true (by rw [sizeLine_eq]; omega)]
  rfl
end
abbrev eNet : NetT → D := e2 D.int (eTup (e4 D.int D.int D.int D.int))
abbrev eInts : List Int → D := eTup D.int
theorem lt_big {n : Nat} (k : Nat) (hk : k ≤ 1900) (h : n < 2 ^ k) : n < 2 ^ 1900 := Nat.lt_of_lt_of_le h (Nat.pow_le_pow_right (by decide) hk)
theorem shows_ints {p : List Int} {b : Nat} (h : Within b p) (hb : b < 2 ^ 1900) : Shows eInts p (1 + 2 * p.length) := by
  refine (shows_tup fun x hx => shows_int (Nat.lt_of_le_of_lt (h x hx) hb)).mono ?_
  omega
theorem shows_lit {x : Int} (h : x.natAbs < 2 ^ 10) : Shows D.int x 1 := shows_int (lt_big 10 (by decide) h)
theorem shows_net {n : NetT} (h : Drawn n) : Shows eNet n 1000 := by
  have m1 := h.m1
  have m6 := h.m6
  have hf := h.few
  refine (shows_e2 (a := D.int) (b := eTup (e4 D.int D.int D.int D.int)) (p := n) (shows_lit (by omega)) (shows_tup (k := 6) fun s hs => ?_)).mono ?_
  · obtain ⟨a0, ab, bm, t1, t3, b1, b3, _⟩ := h.st s hs
    exact shows_e4 (p := s) (shows_lit (by omega)) (shows_lit (by omega)) (shows_lit (by omega)) (shows_lit (by omega))
  · omega
theorem shows_row {n : NetT} (h : Drawn n) {r : List Int} (hr : RowOk n r) : Shows eInts r (1 + 2 * r.length) := by
  have m6 := h.m6
  refine shows_ints (b := 6) (fun x hx => ?_) (lt_big 10 (by decide) (by decide))
  have := hr x hx
  omega
end Q

/-! MC: turns as reflections: rows that do the same, short rows. -/
namespace Q
/-- m towns, what a turn at a town gives to another -/
structure Web where
  m : Int
  c : Int → Int → Int
def Web.In (W : Web) (t : Int) : Prop := 0 ≤ t ∧ t < W.m
structure WebOk (W : Web) : Prop where
  two : ∀ s t, W.In s → W.In t → s ≠ t → (W.c s t = 0 ∧ W.c t s = 0) ∨ (W.c s t = 1 ∧ W.c t s = 1) ∨ (W.c s t = 1 ∧ W.c t s = 2) ∨ (W.c s t = 2 ∧ W.c t s = 1) ∨ (W.c s t = 1 ∧ W.c t s = 3) ∨ (W.c s t = 3 ∧ W.c t s = 1)
  out : ∀ t j, ¬ W.In j → W.c t j = 0
abbrev Pf := Int → Int
section
variable (W : Web)
def tn (t : Int) (p : Pf) : Pf := fun j => if j = t then - p t else p j + W.c t j * p t
def pl (r : List Int) (p : Pf) : Pf := r.foldl (fun p t => tn W t p) p
def Row (r : List Int) : Prop := ∀ x ∈ r, W.In x
def Same (r r' : List Int) : Prop := ∀ p, pl W r p = pl W r' p
def Short (r : List Int) : Prop := ∀ r', Row W r' → Same W r r' → r.length ≤ r'.length
def NonN (p : Pf) : Prop := ∀ j, W.In j → 0 ≤ p j
def PosP (p : Pf) : Prop := ∀ j, W.In j → 0 < p j
def Pos (r : List Int) (s : Int) : Prop := ∀ p, NonN W p → 0 ≤ pl W r p s
end
section
variable {W : Web}
theorem tn_at (t : Int) (p : Pf) : tn W t p t = - p t := if_pos rfl
theorem tn_ne {t j : Int} (p : Pf) (h : j ≠ t) : tn W t p j = p j + W.c t j * p t := if_neg h
theorem tn_tn (t : Int) (p : Pf) : tn W t (tn W t p) = p := by
  funext j
  by_cases h : j = t
  · subst h
    rw [tn_at, tn_at]
    omega
  · rw [tn_ne _ h, tn_ne _ h, tn_at, Int.mul_neg]
    omega
theorem pl_nil (p : Pf) : pl W [] p = p := rfl
theorem pl_cons (t : Int) (r : List Int) (p : Pf) : pl W (t :: r) p = pl W r (tn W t p) := rfl
theorem pl_app (r r' : List Int) (p : Pf) : pl W (r ++ r') p = pl W r' (pl W r p) := by
  unfold pl
  rw [List.foldl_append]
theorem pl_one (t : Int) (p : Pf) : pl W [t] p = tn W t p := rfl
theorem pl_rev : ∀ (r : List Int) (p : Pf), pl W r.reverse (pl W r p) = p
  | [], p => rfl
  | t :: r, p => by
    rw [List.reverse_cons, pl_app, pl_one, pl_cons, pl_rev r, tn_tn]
theorem pl_rev' (r : List Int) (p : Pf) : pl W r (pl W r.reverse p) = p := by
  have := pl_rev (W := W) r.reverse p
  rwa [List.reverse_reverse] at this
theorem Same.refl (r : List Int) : Same W r r := fun _ => rfl
theorem Same.symm {r r' : List Int} (h : Same W r r') : Same W r' r := fun p => (h p).symm
theorem Same.trans {r r' r'' : List Int} (h : Same W r r') (h' : Same W r' r'') : Same W r r'' := fun p => (h p).trans (h' p)
theorem Same.app {r r' u u' : List Int} (h : Same W r r') (h' : Same W u u') : Same W (r ++ u) (r' ++ u') := fun p => by rw [pl_app, pl_app, h, h']
theorem Same.rev {r r' : List Int} (h : Same W r r') : Same W r.reverse r'.reverse := fun p => by
  have h1 := h (pl W r.reverse p)
  rw [pl_rev'] at h1
  have h2 := pl_rev (W := W) r' (pl W r.reverse p)
  rw [← h1] at h2
  exact h2.symm
theorem same_two (x : Int) : Same W [x, x] [] := fun p => by rw [pl_cons, pl_one, tn_tn]; rfl
theorem same_back (r : List Int) : Same W (r ++ r.reverse) [] := fun p => by rw [pl_app, pl_rev]; rfl
theorem Row.app {r r' : List Int} (h : Row W r) (h' : Row W r') : Row W (r ++ r') := fun x hx => (List.mem_append.mp hx).elim (h x) (h' x)
theorem Row.left {r r' : List Int} (h : Row W (r ++ r')) : Row W r := fun x hx => h x (List.mem_append.mpr (.inl hx))
theorem Row.right {r r' : List Int} (h : Row W (r ++ r')) : Row W r' := fun x hx => h x (List.mem_append.mpr (.inr hx))
theorem Row.one {x : Int} (h : W.In x) : Row W [x] := fun y hy => by simp at hy; rw [hy]; exact h
theorem Row.nil : Row W [] := fun y hy => by simp at hy
theorem Row.rev {r : List Int} (h : Row W r) : Row W r.reverse := fun x hx => h x (List.mem_reverse.mp hx)
theorem short_of : ∀ (n : Nat) (r : List Int), r.length ≤ n → Row W r → ∃ w, Row W w ∧ Same W r w ∧ Short W w
  | 0, r, hn, hr => ⟨r, hr, Same.refl r, fun r' _ _ => by omega⟩
  | n + 1, r, hn, hr => by
    by_cases h : Short W r
    · exact ⟨r, hr, Same.refl r, h⟩
    · unfold Short at h
      have : ∃ r', Row W r' ∧ Same W r r' ∧ r'.length < r.length := by
        apply Classical.byContradiction
        intro z
        exact h fun r' h1 h2 => by
          apply Classical.byContradiction
          intro h3
          exact z ⟨r', h1, h2, by omega⟩
      obtain ⟨r', h1, h2, h3⟩ := this
      obtain ⟨w, a, b, c⟩ := short_of n r' (by omega) h1
      exact ⟨w, a, h2.trans b, c⟩
/-! ### two towns by turns -/
/-- k turns of two towns by turns, the last one a -/
def altW (a b : Int) : Nat → List Int
  | 0 => []
  | k + 1 => altW b a k ++ [a]
/-- what stands ahead of k turns -/
def ftW (a b : Int) : Nat → Int
  | 0 => a
  | k + 1 => ftW b a k
theorem alt_len (k : Nat) : ∀ a b : Int, (altW a b k).length = k := by
  induction k with
  | zero => intro a b; rfl
  | succ k ih => intro a b; rw [altW, List.length_append, ih]; rfl
theorem alt_cons (k : Nat) : ∀ a b : Int, ftW a b k :: altW a b k = altW a b (k + 1) := by
  induction k with
  | zero => intro a b; rfl
  | succ k ih =>
    intro a b
    have := ih b a
    rw [ftW, altW, altW, ← this]
    rfl
theorem ft_two (k : Nat) : ∀ a b x : Int, x = a ∨ x = b → x = ftW a b k ∨ x = ftW a b (k + 1) := by
  induction k with
  | zero => intro a b x h; exact h
  | succ k ih => intro a b x h; exact ih b a x h.symm
theorem alt_row {a b : Int} (ha : W.In a) (hb : W.In b) (k : Nat) : Row W (altW a b k) := by
  induction k generalizing a b with
  | zero => exact Row.nil
  | succ k ih => exact (ih hb ha).app (Row.one ha)
theorem alt_split (a b : Int) {j : Nat} : ∀ {k : Nat}, j ≤ k → ∃ u, altW a b k = u ++ altW a b j ∧ u.length + j = k ∧ ∀ x ∈ u, x = a ∨ x = b := by
  intro k
  induction k with
  | zero =>
    intro h
    have : j = 0 := by omega
    subst this
    exact ⟨[], rfl, rfl, by simp⟩
  | succ k ih =>
    intro h
    by_cases hj : j = k + 1
    · subst hj
      exact ⟨[], rfl, by simp, by simp⟩
    · obtain ⟨u, e, l, hu⟩ := ih (by omega)
      refine ⟨ftW a b k :: u, ?_, by simp; omega, fun x hx => ?_⟩
      · rw [← alt_cons, e]
        rfl
      · rcases List.mem_cons.mp hx with rfl | hx
        · have hf : ∀ (k : Nat) (a b : Int), ftW a b k = a ∨ ftW a b k = b := by
            intro k
            induction k with
            | zero => intro a b; exact .inl rfl
            | succ k ih => intro a b; exact (ih b a).symm
          exact hf k a b
        · exact hu x hx
/-- how many turns are exchanged -/
def mmW (W : Web) (s t : Int) : Nat := if W.c s t * W.c t s = 0 then 2 else if W.c s t * W.c t s = 1 then 3 else if W.c s t * W.c t s = 2 then 4 else 6
/-- what two towns do -/
theorem pair_factsM (ok : WebOk W) {s t : Int} (hs : W.In s) (ht : W.In t) (hne : s ≠ t) : ∃ mm : Nat, mm = mmW W s t ∧ 2 ≤ mm ∧ (∀ k < mm, ∀ q : Pf, 0 ≤ q s → 0 ≤ q t → 0 ≤ pl W (altW t s k) q s) ∧ Same W (altW t s mm) (altW s t mm) := by
  have hne' : t ≠ s := fun z => hne z.symm
  have key : ∀ (mm : Nat), (∀ k < mm, ∀ q : Pf, 0 ≤ q s → 0 ≤ q t → 0 ≤ pl W (altW t s k) q s) → (∀ q : Pf, pl W (altW t s mm) q s = pl W (altW s t mm) q s ∧ pl W (altW t s mm) q t = pl W (altW s t mm) q t ∧ ∀ j, j ≠ s → j ≠ t → pl W (altW t s mm) q j = pl W (altW s t mm) q j) → (∀ k < mm, ∀ q : Pf, 0 ≤ q s → 0 ≤ q t → 0 ≤ pl W (altW t s k) q s) ∧ Same W (altW t s mm) (altW s t mm) := fun mm h1 h2 => ⟨h1, fun q => by
    funext j
    by_cases h : j = s
    · rw [h]; exact (h2 q).1
    · by_cases h' : j = t
      · rw [h']; exact (h2 q).2.1
      · exact (h2 q).2.2 j h h'⟩
  rcases ok.two s t hs ht hne with ⟨e1, e2⟩ | ⟨e1, e2⟩ | ⟨e1, e2⟩ | ⟨e1, e2⟩ | ⟨e1, e2⟩ | ⟨e1, e2⟩
  · refine ⟨2, by simp [mmW, e1, e2], by decide, key 2 (fun k hk q q1 q2 => ?_) fun q => ⟨?_, ?_, fun j j1 j2 => ?_⟩⟩
    · have : k = 0 ∨ k = 1 := by omega
      rcases this with rfl | rfl <;> simp [altW, pl, tn, hne, hne', e1, e2] <;> omega
    · simp [altW, pl, tn, hne, hne', e1, e2]
    · simp [altW, pl, tn, hne, hne', e1, e2]
    · simp [altW, pl, tn, hne, hne', e1, e2, j1, j2]; grind
  · refine ⟨3, by simp [mmW, e1, e2], by decide, key 3 (fun k hk q q1 q2 => ?_) fun q => ⟨?_, ?_, fun j j1 j2 => ?_⟩⟩
    · have : k = 0 ∨ k = 1 ∨ k = 2 := by omega
      rcases this with rfl | rfl | rfl <;> simp [altW, pl, tn, hne, hne', e1, e2] <;> omega
    · simp [altW, pl, tn, hne, hne', e1, e2]; try omega
    · simp [altW, pl, tn, hne, hne', e1, e2]; try omega
    · simp [altW, pl, tn, hne, hne', e1, e2, j1, j2]; grind
  · refine ⟨4, by simp [mmW, e1, e2], by decide, key 4 (fun k hk q q1 q2 => ?_) fun q => ⟨?_, ?_, fun j j1 j2 => ?_⟩⟩
    · have : k = 0 ∨ k = 1 ∨ k = 2 ∨ k = 3 := by omega
      rcases this with rfl | rfl | rfl | rfl <;> simp [altW, pl, tn, hne, hne', e1, e2] <;> omega
    · simp [altW, pl, tn, hne, hne', e1, e2]; try omega
    · simp [altW, pl, tn, hne, hne', e1, e2]; try omega
    · simp [altW, pl, tn, hne, hne', e1, e2, j1, j2]; grind
  · refine ⟨4, by simp [mmW, e1, e2], by decide, key 4 (fun k hk q q1 q2 => ?_) fun q => ⟨?_, ?_, fun j j1 j2 => ?_⟩⟩
    · have : k = 0 ∨ k = 1 ∨ k = 2 ∨ k = 3 := by omega
      rcases this with rfl | rfl | rfl | rfl <;> simp [altW, pl, tn, hne, hne', e1, e2] <;> omega
    · simp [altW, pl, tn, hne, hne', e1, e2]; try omega
    · simp [altW, pl, tn, hne, hne', e1, e2]; try omega
    · simp [altW, pl, tn, hne, hne', e1, e2, j1, j2]; grind
  · refine ⟨6, by simp [mmW, e1, e2], by decide, key 6 (fun k hk q q1 q2 => ?_) fun q => ⟨?_, ?_, fun j j1 j2 => ?_⟩⟩
    · have : k = 0 ∨ k = 1 ∨ k = 2 ∨ k = 3 ∨ k = 4 ∨ k = 5 := by omega
      rcases this with rfl | rfl | rfl | rfl | rfl | rfl <;> simp [altW, pl, tn, hne, hne', e1, e2] <;> omega
    · simp [altW, pl, tn, hne, hne', e1, e2]; try omega
    · simp [altW, pl, tn, hne, hne', e1, e2]; try omega
    · simp [altW, pl, tn, hne, hne', e1, e2, j1, j2]; grind
  · refine ⟨6, by simp [mmW, e1, e2], by decide, key 6 (fun k hk q q1 q2 => ?_) fun q => ⟨?_, ?_, fun j j1 j2 => ?_⟩⟩
    · have : k = 0 ∨ k = 1 ∨ k = 2 ∨ k = 3 ∨ k = 4 ∨ k = 5 := by omega
      rcases this with rfl | rfl | rfl | rfl | rfl | rfl <;> simp [altW, pl, tn, hne, hne', e1, e2] <;> omega
    · simp [altW, pl, tn, hne, hne', e1, e2]; try omega
    · simp [altW, pl, tn, hne, hne', e1, e2]; try omega
    · simp [altW, pl, tn, hne, hne', e1, e2, j1, j2]; grind
theorem pair_facts (ok : WebOk W) {s t : Int} (hs : W.In s) (ht : W.In t) (hne : s ≠ t) : ∃ mm : Nat, 2 ≤ mm ∧ (∀ k < mm, ∀ q : Pf, 0 ≤ q s → 0 ≤ q t → 0 ≤ pl W (altW t s k) q s) ∧ Same W (altW t s mm) (altW s t mm) :=
  (pair_factsM ok hs ht hne).elim fun mm h => ⟨mm, h.2⟩
end
section
variable {W : Web}
theorem short_left {v u w : List Int} (hv : Row W v) (hu : Row W u) (sw : Short W w) (sm : Same W w (v ++ u)) (hl : v.length + u.length = w.length) : Short W v := fun v' hv' h => by
  have := sw (v' ++ u) (hv'.app hu) (sm.trans (h.app (Same.refl u)))
  rw [List.length_append] at this
  omega
/-- a short row: behind it a town has no debt, or the row can end with the town -/
theorem dich (ok : WebOk W) : ∀ (n : Nat) (w : List Int), w.length = n → Row W w → Short W w → ∀ s, W.In s → Pos W w s ∨ ∃ w', Row W w' ∧ w'.length + 1 = w.length ∧ Same W w (w' ++ [s]) := by
  intro n
  induction n using Nat.strongRecOn with
  | ind n ih =>
    intro w hn hw sw s hs
    rcases List.eq_nil_or_concat w with rfl | ⟨w0, t, rfl⟩
    · exact .inl fun p hp => hp s hs
    have ew : w0.concat t = w0 ++ [t] := List.concat_eq_append
    rw [ew] at hn hw sw ⊢
    have hw0 : Row W w0 := hw.left
    have ht : W.In t := hw t (by simp)
    by_cases hst : t = s
    · subst hst
      exact .inr ⟨w0, hw0, by simp, Same.refl _⟩
    have hne : s ≠ t := fun z => hst z.symm
    let D : Nat → Prop := fun k => ∃ v, Row W v ∧ v.length + (k + 1) = n ∧ Same W (w0 ++ [t]) (v ++ altW t s (k + 1))
    have d0 : D 0 := ⟨w0, hw0, by simpa using hn, Same.refl _⟩
    have dmax : ∃ k, D k ∧ ¬ D (k + 1) := by
      apply Classical.byContradiction
      intro z
      have all : ∀ k, D k := fun k => by
        induction k with
        | zero => exact d0
        | succ k ihk =>
          apply Classical.byContradiction
          intro y
          exact z ⟨k, ihk, y⟩
      obtain ⟨v, _, h, _⟩ := all n
      omega
    obtain ⟨k, ⟨v, hv, hl, sm⟩, hmax⟩ := dmax
    have sv : Short W v := short_left hv (alt_row ht hs (k + 1)) sw sm (by rw [alt_len]; omega)
    have pos : ∀ x, x = t ∨ x = s → Pos W v x := fun x hx => by
      have hx' : W.In x := by rcases hx with rfl | rfl <;> assumption
      rcases ih v.length (by omega) v rfl hv sv x hx' with h | ⟨v', hv', hl', sm'⟩
      · exact h
      · exfalso
        rcases ft_two k t s x hx with e | e
        · have h1 : Same W (w0 ++ [t]) (v' ++ altW t s k) := by
            refine sm.trans ?_
            have h2 : Same W (v ++ altW t s (k + 1)) ((v' ++ [x]) ++ altW t s (k + 1)) := sm'.app (Same.refl _)
            refine h2.trans ?_
            rw [← alt_cons, ← e, List.append_assoc]
            refine (Same.refl v').app ?_
            have h3 : ([x] ++ x :: altW t s k) = [x, x] ++ altW t s k := rfl
            rw [h3]
            exact (same_two x).app (Same.refl _)
          have := sw _ (hv'.app (alt_row ht hs k)) h1
          rw [List.length_append (as := v'), alt_len, hn] at this
          omega
        · refine hmax ⟨v', hv', by omega, ?_⟩
          refine sm.trans ?_
          have h2 : Same W (v ++ altW t s (k + 1)) ((v' ++ [x]) ++ altW t s (k + 1)) := sm'.app (Same.refl _)
          refine h2.trans ?_
          rw [← alt_cons (k + 1), ← e, List.append_assoc]
          exact Same.refl _
    obtain ⟨mm, h2, nn, br⟩ := pair_facts ok hs ht hne
    by_cases hk : k + 1 < mm
    · left
      intro p hp
      rw [sm p, pl_app]
      exact nn (k + 1) hk _ (pos s (.inr rfl) p hp) (pos t (.inl rfl) p hp)
    · right
      obtain ⟨u, eu, lu, hu⟩ := alt_split t s (j := mm) (k := k + 1) (by omega)
      have hur : Row W u := fun x hx => by
        rcases hu x hx with rfl | rfl <;> assumption
      obtain ⟨m', rfl⟩ : ∃ m', mm = m' + 1 := ⟨mm - 1, by omega⟩
      refine ⟨v ++ (u ++ altW t s m'), hv.app (hur.app (alt_row ht hs m')), ?_, ?_⟩
      · rw [hn]
        simp only [List.length_append, alt_len]
        omega
      · refine sm.trans ?_
        rw [eu, List.append_assoc, List.append_assoc]
        refine (Same.refl v).app ((Same.refl u).app ?_)
        exact br
theorem tn_lin (t : Int) (N : Int) (p q : Pf) : tn W t (fun j => N * p j - q j) = fun j => N * tn W t p j - tn W t q j := by
  funext j
  by_cases h : j = t
  · subst h
    simp only [tn_at]
    grind
  · simp only [tn_ne _ h]
    grind
theorem pl_lin (N : Int) : ∀ (r : List Int) (p q : Pf), pl W r (fun j => N * p j - q j) = fun j => N * pl W r p j - pl W r q j
  | [], p, q => rfl
  | t :: r, p, q => by
    rw [pl_cons, tn_lin, pl_lin N r]
    rfl
theorem bounded (q : Pf) : ∀ k : Nat, ∃ N : Int, 0 ≤ N ∧ ∀ j : Int, 0 ≤ j → j < k → q j ≤ N
  | 0 => ⟨0, by omega, fun j h h' => by omega⟩
  | k + 1 => by
    obtain ⟨N, h0, h⟩ := bounded q k
    refine ⟨N + (if q k < 0 then 0 else q k), by split <;> omega, fun j h1 h2 => ?_⟩
    by_cases hj : j = k
    · subst hj
      split <;> omega
    · have := h j h1 (by omega)
      split <;> omega
theorem strict {w : List Int} {s : Int} (hs : W.In s) (h : Pos W w s) {p : Pf} (hp : PosP W p) : 0 < pl W w p s := by
  let un : Pf := fun j => if j = s then 1 else 0
  let q := pl W w.reverse un
  have hq : pl W w q s = 1 := by
    show pl W w (pl W w.reverse un) s = 1
    rw [pl_rev']
    exact if_pos rfl
  obtain ⟨N, h0, hb⟩ := bounded q W.m.toNat
  have h1 : NonN W (fun j => N * p j - q j) := fun j hj => by
    have a1 := hb j hj.1 (by have := hj.2; omega)
    have a2 : N * 1 ≤ N * p j := Int.mul_le_mul_of_nonneg_left (hp j hj) h0
    show 0 ≤ N * p j - q j
    omega
  have h2 := h _ h1
  rw [pl_lin] at h2
  simp only [hq] at h2
  apply Classical.byContradiction
  intro h3
  have h4 : N * pl W w p s ≤ 0 := Int.mul_nonpos_of_nonneg_of_nonpos h0 (by omega)
  omega
theorem ones_pos : PosP W (fun _ => 1) := fun _ _ => Int.one_pos
/-- a town behind a short row: in wealth, and the row with its turn is short, or in debt, and the row can end with its turn -/
theorem cut (ok : WebOk W) {w : List Int} (hw : Row W w) (sw : Short W w) {s : Int} (hs : W.In s) : ((∀ p, PosP W p → 0 < pl W w p s) ∧ Pos W w s ∧ Short W (w ++ [s])) ∨ ((∀ p, PosP W p → pl W w p s < 0) ∧ ∃ w', Row W w' ∧ Short W w' ∧ w'.length + 1 = w.length ∧ Same W w (w' ++ [s]) ∧ Pos W w' s) := by
  rcases dich ok w.length w rfl hw sw s hs with h | ⟨w', hw', hl, sm⟩
  · left
    have h1 : ∀ p, PosP W p → 0 < pl W w p s := fun p hp => strict hs h hp
    refine ⟨h1, h, fun r' hr' sm => ?_⟩
    obtain ⟨x, hx, sx, shx⟩ := short_of r'.length r' (Nat.le_refl _) hr'
    have hxl := shx
    have h2 : x.length ≤ r'.length := shx r' hr' sx.symm
    rcases dich ok x.length x rfl hx shx s hs with h3 | ⟨x', hx', hl', sm'⟩
    · exfalso
      have h4 := h1 _ ones_pos
      have h5 := strict hs h3 (ones_pos (W := W))
      have h6 := congrFun ((sm.trans sx) (fun _ => 1)) s
      rw [pl_app, pl_one, tn_at] at h6
      omega
    · have h7 : Same W w x' := by
        have e1 : Same W (w ++ [s] ++ [s]) w := by
          rw [List.append_assoc]
          have := (Same.refl (W := W) w).app (same_two (W := W) s)
          rwa [List.append_nil] at this
        have e2 : Same W (x' ++ [s] ++ [s]) x' := by
          rw [List.append_assoc]
          have := (Same.refl (W := W) x').app (same_two (W := W) s)
          rwa [List.append_nil] at this
        exact e1.symm.trans ((((sm.trans sx).trans sm').app (Same.refl [s])).trans e2)
      have := sw x' hx' h7
      rw [List.length_append]
      simp only [List.length_cons, List.length_nil]
      omega
  · right
    have sw' : Short W w' := short_left hw' (Row.one hs) sw sm (by simpa using hl)
    have hp : Pos W w' s := by
      rcases dich ok w'.length w' rfl hw' sw' s hs with h | ⟨x, hx, hl', sm'⟩
      · exact h
      · exfalso
        have e2 : Same W (x ++ [s] ++ [s]) x := by
          rw [List.append_assoc]
          have := (Same.refl (W := W) x).app (same_two (W := W) s)
          rwa [List.append_nil] at this
        have := sw x hx ((sm.trans (sm'.app (Same.refl [s]))).trans e2)
        omega
    refine ⟨fun p hpp => ?_, w', hw', sw', hl, sm, hp⟩
    have := strict hs hp hpp
    have e := congrFun (sm p) s
    rw [pl_app, pl_one, tn_at] at e
    omega
/-! ### how long a row must be -/
theorem short_rev {w : List Int} (h : Short W w) : Short W w.reverse := fun r' hr' sm => by
  have := h r'.reverse hr'.rev (by have := sm.rev; rwa [List.reverse_reverse] at this)
  simpa using this
theorem short_same {w w' : List Int} (hw' : Row W w') (h : Short W w) (sm : Same W w w') (hl : w'.length ≤ w.length) : Short W w' := fun r' hr' s' => Nat.le_trans hl (h r' hr' (sm.trans s'))
def LenIs (W : Web) (r : List Int) (n : Nat) : Prop := ∃ w, Row W w ∧ Same W r w ∧ Short W w ∧ w.length = n
theorem LenIs.uniq {r : List Int} {n n' : Nat} (h : LenIs W r n) (h' : LenIs W r n') : n = n' := by
  obtain ⟨w, a, b, c, rfl⟩ := h
  obtain ⟨w', a', b', c', rfl⟩ := h'
  have := c w' a' (b.symm.trans b')
  have := c' w a (b'.symm.trans b)
  omega
theorem LenIs.same {r r' : List Int} {n : Nat} (h : LenIs W r n) (s : Same W r r') : LenIs W r' n := by
  obtain ⟨w, a, b, c, d⟩ := h
  exact ⟨w, a, s.symm.trans b, c, d⟩
theorem LenIs.zero {r : List Int} (h : LenIs W r 0) : Same W r [] := by
  obtain ⟨w, a, b, c, d⟩ := h
  cases w with
  | nil => exact b
  | cons _ _ => simp at d
theorem LenIs.short {w : List Int} {n : Nat} (hw : Row W w) (h : LenIs W w n) (e : n = w.length) : Short W w := by
  obtain ⟨x, a, b, c, d⟩ := h
  exact short_same hw c b.symm (by omega)
theorem LenIs.rev {r : List Int} {n : Nat} (h : LenIs W r n) : LenIs W r.reverse n := by
  obtain ⟨w, a, b, c, d⟩ := h
  exact ⟨w.reverse, a.rev, b.rev, short_rev c, by simpa using d⟩
theorem LenIs.le {r : List Int} {n : Nat} (hr : Row W r) (h : LenIs W r n) : n ≤ r.length := by
  obtain ⟨w, a, b, c, rfl⟩ := h
  exact c r hr b.symm
theorem LenIs.snoc (ok : WebOk W) {r : List Int} {n : Nat} (h : LenIs W r n) {s : Int} (hs : W.In s) : ((∀ p, PosP W p → 0 < pl W r p s) ∧ LenIs W (r ++ [s]) (n + 1)) ∨ ((∀ p, PosP W p → pl W r p s < 0) ∧ ∃ n', n = n' + 1 ∧ LenIs W (r ++ [s]) n') := by
  obtain ⟨w, a, b, c, rfl⟩ := h
  rcases cut ok a c hs with ⟨h1, _, h2⟩ | ⟨h1, w', hw', sw', hl, sm, _⟩
  · left
    exact ⟨fun p hp => by rw [b]; exact h1 p hp, w ++ [s], a.app (Row.one hs), b.app (Same.refl _), h2, by simp⟩
  · right
    refine ⟨fun p hp => by rw [b]; exact h1 p hp, w'.length, hl.symm, w', hw', ?_, sw', rfl⟩
    have e2 : Same W (w' ++ [s] ++ [s]) w' := by
      rw [List.append_assoc]
      have := (Same.refl (W := W) w').app (same_two (W := W) s)
      rwa [List.append_nil] at this
    exact ((b.trans sm).app (Same.refl [s])).trans e2
end
end Q

/-! MN: a drawn net as a web of reflections. -/
namespace Q
open PySem
def webOf (net : NetT) : Web := ⟨net.1, fun t j => if 0 ≤ j ∧ j < net.1 then coef net.2 t j else 0⟩
theorem coef_st : ∀ {m : Int} {ss : List Str4}, (∀ s ∈ ss, StOk m s) → (ss.Pairwise fun s t => ltII (s.1, s.2.1) (t.1, t.2.1) = true) → ∀ s t : Int, s < t → (coef ss s t = 0 ∧ coef ss t s = 0) ∨ ∃ q ∈ ss, q.1 = s ∧ q.2.1 = t ∧ coef ss s t = q.2.2.1 ∧ coef ss t s = q.2.2.2
  | m, [], _, _, s, t, _ => .inl ⟨rfl, rfl⟩
  | m, q :: ss, hs, hp, s, t, hlt => by
    have ih := coef_st (m := m) (fun q hq => hs q (List.mem_cons_of_mem _ hq)) (List.pairwise_cons.mp hp).2 s t hlt
    have so := hs q List.mem_cons_self
    have ab := so.ab
    rw [coef_cons, coef_cons]
    by_cases h : q.1 = s ∧ q.2.1 = t
    · right
      refine ⟨q, List.mem_cons_self, h.1, h.2, ?_, ?_⟩
      · rw [rowRaw_none fun r hr => ⟨fun z => no_more hp r hr (by omega), fun z => by have := (hs r (List.mem_cons_of_mem _ hr)).ab; omega⟩]
        unfold piece
        simp [h.1, h.2]
      · rw [rowRaw_none fun r hr => ⟨fun z => by have := (hs r (List.mem_cons_of_mem _ hr)).ab; omega, fun z => no_more hp r hr (by omega)⟩]
        unfold piece
        have hst : ¬ s = t := by omega
        simp [h.1, h.2, hst]
    · have e1 : ((((if q.1 = s then [(q.2.1, q.2.2.1)] else if q.2.1 = s then [(q.1, q.2.2.2)] else []) : Gv).filter fun p => decide (p.1 = t)).map (·.2)).sum = 0 := by
        by_cases q1 : q.1 = s
        · have : ¬ q.2.1 = t := fun z => h ⟨q1, z⟩
          simp [q1, this]
        · by_cases q2 : q.2.1 = s
          · have : ¬ q.1 = t := by omega
            simp [q1, q2, this]
          · simp [q1, q2]
      have e2 : ((((if q.1 = t then [(q.2.1, q.2.2.1)] else if q.2.1 = t then [(q.1, q.2.2.2)] else []) : Gv).filter fun p => decide (p.1 = s)).map (·.2)).sum = 0 := by
        by_cases q1 : q.1 = t
        · have : ¬ q.2.1 = s := by omega
          simp [q1, this]
        · by_cases q2 : q.2.1 = t
          · have : ¬ q.1 = s := fun z => h ⟨z, q2⟩
            simp [q1, q2, this]
          · simp [q1, q2]
      unfold piece
      rw [e1, e2, Int.zero_add, Int.zero_add]
      rcases ih with ih | ⟨r, hr, ih⟩
      · exact .inl ih
      · exact .inr ⟨r, List.mem_cons_of_mem _ hr, ih⟩
theorem web_ok {net : NetT} (h : Drawn net) : WebOk (webOf net) := by
  refine ⟨fun s t hs ht hne => ?_, fun t j hj => if_neg hj⟩
  have e1 : (webOf net).c s t = coef net.2 s t := if_pos ht
  have e2 : (webOf net).c t s = coef net.2 t s := if_pos hs
  rw [e1, e2]
  by_cases hlt : s < t
  · rcases coef_st h.st h.srt s t hlt with q | ⟨q, hq, _, _, c1, c2⟩
    · exact .inl q
    · obtain ⟨_, _, _, t1, t3, b1, b3, one⟩ := h.st q hq
      omega
  · rcases coef_st h.st h.srt t s (by omega) with q | ⟨q, hq, _, _, c1, c2⟩
    · exact .inl ⟨q.2, q.1⟩
    · obtain ⟨_, _, _, t1, t3, b1, b3, one⟩ := h.st q hq
      omega
/-- purses as a function -/
def fnP (net : NetT) (p : List Int) : Pf := fun j => if 0 ≤ j ∧ j < net.1 then (p[j.toNat]?).getD 0 else 0
theorem fnP_in {net : NetT} {p : List Int} {j : Int} (h : (webOf net).In j) : fnP net p j = (p[j.toNat]?).getD 0 := if_pos h
theorem fnP_out {net : NetT} {p : List Int} {j : Int} (h : ¬ (webOf net).In j) : fnP net p j = 0 := if_neg h
theorem fn_turn {net : NetT} (h : Drawn net) {p : List Int} (hp : PurseOk net p) {t : Int} (ht : (webOf net).In t) : fnP net (turnV net.2 p t) = tn (webOf net) t (fnP net p) := by
  funext j
  have pl := hp.len
  by_cases hj : (webOf net).In j
  · have hj' : 0 ≤ j ∧ j < net.1 := hj
    have ht' : 0 ≤ t ∧ t < net.1 := ht
    have gj : p[j.toNat]? = some p[j.toNat] := List.getElem?_eq_getElem (by omega)
    rw [fnP_in hj, turnV_get, gj]
    simp only [Option.map_some, Option.getD_some]
    have ej : ((j.toNat : Nat) : Int) = j := by omega
    rw [ej]
    by_cases hjt : j = t
    · subst hjt
      rw [if_pos rfl, tn_at, fnP_in hj, gj, Option.getD_some]
      omega
    · rw [if_neg hjt, tn_ne _ hjt, fnP_in hj, fnP_in ht, gj, Option.getD_some]
      have : (webOf net).c t j = coef net.2 t j := if_pos hj
      rw [this]
  · have hjt : j ≠ t := fun z => hj (z ▸ ht)
    rw [fnP_out hj, tn_ne _ hjt, fnP_out hj, (web_ok h).out t j hj]
    omega
theorem fn_play {net : NetT} (h : Drawn net) : ∀ {r : List Int} {p : List Int}, PurseOk net p → Row (webOf net) r → fnP net (playV net.2 p r) = pl (webOf net) r (fnP net p)
  | [], p, _, _ => rfl
  | t :: r, p, hp, hr => by
    have := fn_play h (r := r) (purse_turn hp t) (fun x hx => hr x (List.mem_cons_of_mem _ hx))
    rw [pl_cons, ← fn_turn h hp (hr t List.mem_cons_self)]
    exact this
theorem fn_inj {net : NetT} {p q : List Int} (hp : PurseOk net p) (hq : PurseOk net q) (e : fnP net p = fnP net q) : p = q := by
  have pl := hp.len
  have ql := hq.len
  refine List.ext_getElem (by omega) fun i h1 h2 => ?_
  have hi : (webOf net).In (i : Int) := ⟨by omega, by show (i : Int) < net.1; omega⟩
  have := congrFun e (i : Int)
  rw [fnP_in hi, fnP_in hi, Int.toNat_natCast, List.getElem?_eq_getElem h1, List.getElem?_eq_getElem h2] at this
  exact this
theorem purse_play {net : NetT} : ∀ {r : List Int} {p : List Int}, PurseOk net p → PurseOk net (playV net.2 p r)
  | [], p, hp => hp
  | t :: r, p, hp => purse_play (r := r) (purse_turn hp t)
theorem mem_debts {net : NetT} {p : List Int} (hp : PurseOk net p) {t : Int} : t ∈ debtsV p ↔ (webOf net).In t ∧ fnP net p t < 0 := by
  have pl := hp.len
  unfold debtsV
  rw [List.mem_map]
  constructor
  · rintro ⟨a, ha, rfl⟩
    rw [List.mem_filter, decide_eq_true_eq] at ha
    obtain ⟨k, hk, e⟩ := List.getElem_of_mem ha.1
    rw [enum_len] at hk
    have e2 := enum_get 0 p k
    rw [List.getElem?_eq_getElem (by rw [enum_len]; exact hk), e, List.getElem?_eq_getElem hk] at e2
    simp only [Option.map_some, Option.some.injEq, Nat.zero_add] at e2
    have hin : (webOf net).In a.1 := by rw [e2]; exact ⟨by simp only; omega, by show (k : Int) < net.1; omega⟩
    refine ⟨hin, ?_⟩
    rw [fnP_in hin]
    have h2 := ha.2
    rw [e2] at h2 ⊢
    simp only [Int.toNat_natCast] at h2 ⊢
    rw [List.getElem?_eq_getElem hk]
    exact h2
  · rintro ⟨h1, h2⟩
    have h1' : 0 ≤ t ∧ t < net.1 := h1
    have htl : t.toNat < p.length := by omega
    rw [fnP_in h1, List.getElem?_eq_getElem htl, Option.getD_some] at h2
    refine ⟨(t, p[t.toNat]), ?_, rfl⟩
    rw [List.mem_filter, decide_eq_true_eq]
    refine ⟨?_, h2⟩
    have e2 := enum_get 0 p t.toNat
    rw [List.getElem?_eq_getElem htl] at e2
    simp only [Option.map_some, Nat.zero_add] at e2
    have e3 : ((t.toNat : Nat) : Int) = t := by omega
    rw [e3] at e2
    exact List.mem_of_getElem? e2
theorem debts_nil {net : NetT} {p : List Int} (hp : PurseOk net p) : debtsV p = [] ↔ NonN (webOf net) (fnP net p) := by
  constructor
  · intro h j hj
    apply Classical.byContradiction
    intro z
    have := (mem_debts hp).mpr ⟨hj, by omega⟩
    rw [h] at this
    cases this
  · intro h
    rw [List.eq_nil_iff_forall_not_mem]
    intro t ht
    have := (mem_debts hp).mp ht
    have := h t this.1
    omega
/-! ### units -/
section
variable {W : Web}
theorem pl_congr {r : List Int} (hr : Row W r) : ∀ {p q : Pf}, (∀ j, W.In j → p j = q j) → ∀ j, W.In j → pl W r p j = pl W r q j := by
  induction r with
  | nil => intro p q h j hj; exact h j hj
  | cons t r ih =>
    intro p q h j hj
    rw [pl_cons, pl_cons]
    refine ih (fun x hx => hr x (List.mem_cons_of_mem _ hx)) (fun k hk => ?_) j hj
    unfold tn
    rw [h k hk, h t (hr t List.mem_cons_self)]
def un (a : Int) : Pf := fun j => if j = a then 1 else 0
end
end Q

/-! MS: shortest rows, rows unlike. -/
namespace Q
open PySem
abbrev SameN (net : NetT) : List Int → List Int → Prop := Same (webOf net)
abbrev ShortN (net : NetT) : List Int → Prop := Short (webOf net)
theorem row_web {net : NetT} {r : List Int} : RowOk net r ↔ Row (webOf net) r := Iff.rfl
def onesL (net : NetT) : List Int := List.replicate net.1.toNat 1
theorem purse_ones {net : NetT} (h : Drawn net) : PurseOk net (onesL net) := ⟨by simp [onesL]; have := h.m1; omega⟩
theorem fn_ones {net : NetT} {j : Int} (hj : (webOf net).In j) : fnP net (onesL net) j = 1 := by
  have hj' : 0 ≤ j ∧ j < net.1 := hj
  rw [fnP_in hj, onesL, List.getElem?_replicate, if_pos (by omega)]
  rfl
theorem pos_ones {net : NetT} : PosP (webOf net) (fnP net (onesL net)) := fun j hj => by rw [fn_ones hj]; decide
theorem mul_one {net : NetT} (h : Drawn net) : (X.mulL [(1 : Int)] net.1 : X Unit _) = .ok (onesL net) := by
  have m1 := h.m1
  have m6 := h.m6
  unfold X.mulL
  rw [if_pos ⟨by omega, by simp, by omega⟩]
  congr 1
  unfold onesL
  generalize net.1.toNat = k
  induction k with
  | zero => rfl
  | succ k ih => rw [List.replicate_succ, List.replicate_succ, List.flatten_cons, ih]; rfl
def aheadV (net : NetT) (row : List Int) : List Int := playV net.2 (onesL net) row.reverse
theorem ahead_ok {net : NetT} (h : Drawn net) {row : List Int} (hr : RowOk net row) : s_ahead_by_384_net_qi net row = .ok (aheadV net row) := by
  unfold s_ahead_by_384_net_qi
  rw [gives_ok h, X.bind_ok, mul_one h, X.bind_ok, (play_ok h (purse_ones h) (r := row.reverse) (fun x hx => hr x (List.mem_reverse.mp hx))).1]
  rfl
theorem purse_ahead {net : NetT} (h : Drawn net) (row : List Int) : PurseOk net (aheadV net row) := purse_play (purse_ones h)
theorem fn_ahead {net : NetT} (h : Drawn net) {row : List Int} (hr : RowOk net row) : fnP net (aheadV net row) = pl (webOf net) row.reverse (fnP net (onesL net)) :=
  fn_play h (purse_ones h) (Row.rev (row_web.mp hr))
theorem ahead_same {net : NetT} (h : Drawn net) {r r' : List Int} (hr : RowOk net r) (hr' : RowOk net r') (s : SameN net r r') : aheadV net r = aheadV net r' := by
  refine fn_inj (purse_ahead h r) (purse_ahead h r') ?_
  rw [fn_ahead h hr, fn_ahead h hr', s.rev]
theorem debts_len {net : NetT} {p : List Int} (hp : PurseOk net p) (h : Drawn net) : p.length ≤ sizeLine := by
  have := hp.len
  have := h.m6
  have := line_ge
  omega
/-- the first town in debt, turn by turn -/
def gr (net : NetT) : Nat → List Int → List Int
  | 0, _ => []
  | k + 1, p => match debtsV p with
    | [] => []
    | t :: _ => t :: gr net k (turnV net.2 p t)
theorem gr_nil {net : NetT} {p : List Int} (h : debtsV p = []) : ∀ k, gr net k p = []
  | 0 => rfl
  | k + 1 => by unfold gr; rw [h]
theorem gr_cons {net : NetT} {p : List Int} {t : Int} {ts : List Int} (h : debtsV p = t :: ts) (k : Nat) : gr net (k + 1) p = t :: gr net k (turnV net.2 p t) := by
  rw [gr, h]
/-- a short row's purses are relieved to wealth -/
theorem gr_loop {net : NetT} (h : Drawn net) : ∀ (n : Nat) (x p : List Int), x.length = n → RowOk net x → ShortN net x → PurseOk net p → fnP net p = pl (webOf net) x (fnP net (onesL net)) →
    (∀ k, n ≤ k → gr net k p = gr net n p) ∧ RowOk net (gr net n p) ∧ SameN net x.reverse (gr net n p) ∧ (gr net n p).length = n ∧ debtsV (playV net.2 p (gr net n p)) = [] := by
  have ok := web_ok h
  intro n
  induction n with
  | zero =>
    intro x p hx hr hs hp hf
    have : x = [] := List.length_eq_zero_iff.mp hx
    subst this
    have hd : debtsV p = [] := (debts_nil hp).mpr fun j hj => by rw [hf, pl_nil, fn_ones hj]; decide
    exact ⟨fun k _ => by rw [gr_nil hd, gr_nil hd], (fun y hy => by cases hy), Same.refl _, rfl, hd⟩
  | succ n ih =>
    intro x p hx hr hs hp hf
    have hne : debtsV p ≠ [] := fun z => by
      have z := (debts_nil hp).mp z
      rcases List.eq_nil_or_concat x with rfl | ⟨x0, t, rfl⟩
      · cases hx
      · rw [List.concat_eq_append] at hx hr hs hf
        have ht : (webOf net).In t := hr t (by simp)
        have hx0 : Row (webOf net) x0 := Row.left (row_web.mp hr)
        have z1 := z t ht
        rw [hf] at z1
        rcases cut ok (row_web.mp hr) hs ht with ⟨_, _, q⟩ | ⟨q, _⟩
        · have sm : SameN net (x0 ++ [t] ++ [t]) x0 := by
            rw [List.append_assoc]
            have := (Same.refl (W := webOf net) x0).app (same_two (W := webOf net) t)
            rwa [List.append_nil] at this
          have := q x0 hx0 sm
          simp only [List.length_append, List.length_cons, List.length_nil] at this
          omega
        · have := q _ (pos_ones (net := net))
          omega
    obtain ⟨i, ds, hd⟩ : ∃ i ds, debtsV p = i :: ds := by
      cases hq : debtsV p with
      | nil => exact absurd hq hne
      | cons i ds => exact ⟨i, ds, rfl⟩
    obtain ⟨hi, hneg⟩ := (mem_debts hp).mp (by rw [hd]; exact List.mem_cons_self : i ∈ debtsV p)
    rw [hf] at hneg
    rcases cut ok (row_web.mp hr) hs hi with ⟨q, _⟩ | ⟨_, x', hx', sx', hl', sm, _⟩
    · have := q _ (pos_ones (net := net))
      omega
    · have hp1 := purse_turn hp i
      have hf1 : fnP net (turnV net.2 p i) = pl (webOf net) x' (fnP net (onesL net)) := by
        rw [fn_turn h hp hi, hf, sm, pl_app, pl_one, tn_tn]
      obtain ⟨e, rg, sg, lg2, dg⟩ := ih x' (turnV net.2 p i) (by omega) hx' sx' hp1 hf1
      rw [gr_cons hd]
      refine ⟨fun k hk => ?_, fun y hy => ?_, ?_, by simp [lg2], dg⟩
      · obtain ⟨k, rfl⟩ : ∃ k', k = k' + 1 := ⟨k - 1, by omega⟩
        rw [gr_cons hd, e k (by omega)]
      · rcases List.mem_cons.mp hy with rfl | hy
        · exact hi
        · exact rg y hy
      · have := sm.rev
        rw [List.reverse_append] at this
        exact this.trans ((Same.refl (W := webOf net) [i]).app sg)
/-- the least of the shortest rows -/
def shV (net : NetT) (row : List Int) : List Int := gr net 1000 (aheadV net row)
theorem sh_gr {net : NetT} (h : Drawn net) {row : List Int} (hr : RowOk net row) (hl : row.length ≤ 900) : ∃ n, n ≤ row.length ∧ (∀ k, n ≤ k → gr net k (aheadV net row) = gr net n (aheadV net row)) ∧ RowOk net (gr net n (aheadV net row)) ∧ SameN net row (gr net n (aheadV net row)) ∧ ShortN net (gr net n (aheadV net row)) ∧ (gr net n (aheadV net row)).length = n ∧ debtsV (playV net.2 (aheadV net row) (gr net n (aheadV net row))) = [] := by
  obtain ⟨w, hw, sw, shw⟩ := short_of row.length row (Nat.le_refl _) (row_web.mp hr)
  have hwl : w.length ≤ row.length := shw row hr sw.symm
  have hf : fnP net (aheadV net row) = pl (webOf net) w.reverse (fnP net (onesL net)) := by rw [fn_ahead h hr, sw.rev]
  obtain ⟨e, rg, sg, lg, dg⟩ := gr_loop h w.length w.reverse (aheadV net row) (by simp) (Row.rev hw) (short_rev shw) (purse_ahead h row) hf
  rw [List.reverse_reverse] at sg
  exact ⟨w.length, hwl, e, rg, sw.trans sg, short_same (row_web.mp rg) shw sg (by omega), lg, dg⟩
theorem sh_v {net : NetT} (h : Drawn net) {row : List Int} (hr : RowOk net row) (hl : row.length ≤ 900) : RowOk net (shV net row) ∧ SameN net row (shV net row) ∧ ShortN net (shV net row) ∧ (shV net row).length ≤ row.length := by
  obtain ⟨n, hn, e, a, b, c, d, _⟩ := sh_gr h hr hl
  have : shV net row = gr net n (aheadV net row) := e 1000 (by omega)
  rw [this]
  exact ⟨a, b, c, by omega⟩
theorem sh_cong {net : NetT} (h : Drawn net) {r r' : List Int} (hr : RowOk net r) (hr' : RowOk net r') (s : SameN net r r') : shV net r = shV net r' := by
  unfold shV
  rw [ahead_same h hr hr' s]
theorem need_row2 {net : NetT} (h : Drawn net) {row : List Int} (hr : RowOk net row) (hl : row.length ≤ 900) : s_need_row_566_net_qi net row = .ok () := by
  have lg := line_ge
  unfold s_need_row_566_net_qi
  rw [need_net h, X.bind_ok, need_row hr (by omega)]
  rfl
theorem sh_len {net : NetT} (h : Drawn net) {row : List Int} (hr : RowOk net row) (hl : row.length ≤ 900) : LenIs (webOf net) row (shV net row).length := by
  obtain ⟨a, b, c, _⟩ := sh_v h hr hl
  exact ⟨_, a, b, c, rfl⟩
theorem begins_ok {net : NetT} (h : Drawn net) {row : List Int} (hr : RowOk net row) (hl : row.length ≤ 900) : s_begins_392_net_qi net row = .ok (debtsV (aheadV net row)) := by
  unfold s_begins_392_net_qi
  rw [need_row2 h hr hl, X.bind_ok, ahead_ok h hr, X.bind_ok, debts_of (debts_len (purse_ahead h row) h)]
  rfl
theorem row_rev {net : NetT} {r : List Int} (h : RowOk net r) : RowOk net r.reverse := fun x hx => h x (List.mem_reverse.mp hx)
theorem row_app {net : NetT} {r r' : List Int} (h : RowOk net r) (h' : RowOk net r') : RowOk net (r ++ r') := fun x hx => (List.mem_append.mp hx).elim (h x) (h' x)
theorem stops_ok {net : NetT} (h : Drawn net) {row : List Int} (hr : RowOk net row) (hl : row.length ≤ 900) : s_stops_613_net_qi net row = .ok (debtsV (aheadV net row.reverse)) := by
  unfold s_stops_613_net_qi
  rw [need_row2 h hr hl, X.bind_ok, ahead_ok h (row_rev hr), X.bind_ok, debts_of (debts_len (purse_ahead h _) h)]
  rfl
/-! ### unlike rows -/
def unitV (net : NetT) (a : Int) : List Int := (rangeI 0 net.1).map fun j => if j = a then 1 else 0
/-- where a turn ahead, behind makes a row shorter -/
theorem begins_mem {net : NetT} (h : Drawn net) {row : List Int} (hr : RowOk net row) {t : Int} (ht : (webOf net).In t) {n : Nat} (hn : LenIs (webOf net) row n) : LenIs (webOf net) (t :: row) (if t ∈ debtsV (aheadV net row) then n - 1 else n + 1) ∧ (t ∈ debtsV (aheadV net row) → 1 ≤ n) := by
  have hm : t ∈ debtsV (aheadV net row) ↔ fnP net (aheadV net row) t < 0 := by
    rw [mem_debts (purse_ahead h row)]
    exact ⟨fun z => z.2, fun z => ⟨ht, z⟩⟩
  rw [fn_ahead h hr] at hm
  have key : ∀ k, LenIs (webOf net) (row.reverse ++ [t]) k → LenIs (webOf net) (t :: row) k := fun k hk => by
    have := hk.rev
    rwa [List.reverse_append, List.reverse_reverse] at this
  rcases (hn.rev).snoc (web_ok h) ht with ⟨a, b⟩ | ⟨a, n', e, b⟩
  · have := a _ (pos_ones (net := net))
    have hno : ¬ t ∈ debtsV (aheadV net row) := fun z => by have := hm.mp z; omega
    rw [if_neg hno]
    exact ⟨key _ b, fun z => absurd z hno⟩
  · have := a _ (pos_ones (net := net))
    rw [if_pos (hm.mpr this), e, Nat.add_sub_cancel]
    exact ⟨key _ b, fun _ => by omega⟩
theorem stops_mem {net : NetT} (h : Drawn net) {row : List Int} (hr : RowOk net row) {t : Int} (ht : (webOf net).In t) {n : Nat} (hn : LenIs (webOf net) row n) : LenIs (webOf net) (row ++ [t]) (if t ∈ debtsV (aheadV net row.reverse) then n - 1 else n + 1) ∧ (t ∈ debtsV (aheadV net row.reverse) → 1 ≤ n) := by
  obtain ⟨a, b⟩ := begins_mem h (row_rev hr) ht hn.rev
  refine ⟨?_, b⟩
  have := a.rev
  rwa [List.reverse_cons, List.reverse_reverse] at this
theorem begins_nil {net : NetT} (h : Drawn net) {row : List Int} (hr : RowOk net row) (hl : row.length ≤ 900) : debtsV (aheadV net row) = [] ↔ shV net row = [] := by
  obtain ⟨rg, sg, shg, lg⟩ := sh_v h hr hl
  constructor
  · intro hd
    cases hw : shV net row with
    | nil => rfl
    | cons t r =>
      have ht : (webOf net).In t := rg t (by rw [hw]; exact List.mem_cons_self)
      have e2 : aheadV net row = aheadV net (shV net row) := ahead_same h hr rg sg
      have hn := sh_len h hr hl
      have hq := (begins_mem h hr ht hn).1
      rw [hd] at hq
      simp only [List.not_mem_nil, if_false] at hq
      have sm : SameN net (t :: row) r := by
        have h1 : SameN net (t :: row) (t :: t :: r) := by
          have := (Same.refl (W := webOf net) [t]).app (sg.trans (by rw [hw]; exact Same.refl _))
          exact this
        exact h1.trans ((same_two (W := webOf net) t).app (Same.refl r))
      have hrr : Row (webOf net) r := fun x hx => rg x (by rw [hw]; exact List.mem_cons_of_mem _ hx)
      have := (hq.same sm).le hrr
      rw [hw] at this
      simp at this
      omega
  · intro hw
    rw [hw] at sg
    have : aheadV net row = aheadV net [] := ahead_same h hr (fun x hx => by cases hx) sg
    rw [this]
    refine (debts_nil (purse_ahead h [])).mpr fun j hj => ?_
    rw [fn_ahead h (fun x hx => by cases hx)]
    show 0 ≤ fnP net (onesL net) j
    rw [fn_ones hj]
    decide
end Q

/-! MD: what the pens of the stage of rows draw. -/
namespace Q
open PySem
/-- a pen that has drawn k times at most -/
def PenN (k : Int) (pn : Pen) : Prop := 0 ≤ pn.2.1 ∧ pn.2.1 ≤ 2147483648 ∧ 0 ≤ pn.2.2 ∧ pn.2.2 ≤ k
theorem PenN.mono {k k' : Int} {pn : Pen} (h : PenN k pn) (hk : k ≤ k') : PenN k' pn := ⟨h.1, h.2.1, h.2.2.1, Int.le_trans h.2.2.2 hk⟩
theorem draw2_gets (pn : Pen) {many k : Int} (hk : PenN k pn) (hk2 : k ≤ 1000000) (h : 0 < many) (h2 : many < 2 ^ 32) : Gets (s__law_draw_58_p_i pn many) fun r => (0 ≤ r.1 ∧ r.1 < many) ∧ PenN (k + 1) r.2 := by
  have h64 : many < 2 ^ 64 := by omega
  have hm : ∀ x : Int, 0 ≤ x % many ∧ x % many < many := fun x => ⟨Int.emod_nonneg x (Int.ne_of_gt h), Int.emod_lt_of_pos x h⟩
  obtain ⟨k1, k2, k3, k4⟩ := hk
  unfold s__law_draw_58_p_i
  split
  · rw [modI_ok h, X.bind_ok, fdivI_ok h h64]
    exact Gets.ok ⟨hm _, k1, k2, k3, by simp only; omega⟩
  · have e1 : ∀ x : Int, (X.mulI 17 x : X Pen Int) = .ok (17 * x) := fun x => mulI_l (by decide)
    have e2 : ∀ x : Int, (X.mulI 2 x : X Pen Int) = .ok (2 * x) := fun x => mulI_l (by decide)
    have e3 : ∀ x : Int, (X.modI x 2147483647 : X Pen Int) = .ok (x % 2147483647) := fun x => modI_ok (by decide)
    have e4 : ∀ x y : Int, (X.mulI (x % 2147483647) y : X Pen Int) = .ok (x % 2147483647 * y) := fun x y => mulI_l (mod_lt64 x (by decide) (by decide))
    have e5 : ∀ x : Int, (X.mulI 40503 x : X Pen Int) = .ok (40503 * x) := fun x => mulI_l (by decide)
    have e6 : ∀ x : Int, (X.modI x 2147483629 : X Pen Int) = .ok (x % 2147483629) := fun x => modI_ok (by decide)
    have e7 : ∀ x : Int, (X.mulI x 48271 : X Pen Int) = .ok (x * 48271) := fun x => mulI_r (by decide)
    have e8 : ∀ x : Int, (X.fdivI x 32 : X Pen Int) = .ok (x / 32) := fun x => fdivI_ok (by decide) (by decide)
    have e9 : ∀ x : Int, (X.modI x many : X Pen Int) = .ok (x % many) := fun x => modI_ok h
    have e10 : (X.mulI (pn.2.1 + 17 * (pn.2.2 + 1)) (69621 + 2 * (pn.2.2 + 1)) : X Pen Int) = .ok ((pn.2.1 + 17 * (pn.2.2 + 1)) * (69621 + 2 * (pn.2.2 + 1))) := mulI_l (by omega)
    simp only [e1, e2, e3, e4, e5, e6, e7, e8, e9, e10, X.bind_ok]
    exact Gets.ok ⟨hm _, k1, k2, by simp only; omega, by simp only; omega⟩
theorem pen2_gets (c : Int) : Gets (s__law_pen_202_i c) fun r => PenN 0 r := by
  unfold s__law_pen_202_i
  have e1 : (X.powI 10 18 : X Unit Int) = .ok (10 ^ (18 : Int).toNat) := if_pos (by decide)
  have e2 : (X.modI c 1000000007 : X Unit Int) = .ok (c % 1000000007) := modI_ok (by decide)
  rw [e1, X.bind_ok, e2]
  have h3 := Int.emod_nonneg c (b := 1000000007) (by decide)
  have h4 := Int.emod_lt_of_pos c (b := 1000000007) (by decide)
  exact Gets.ok ⟨h3, by simp only; omega, Int.le_refl _, Int.le_refl _⟩
theorem cell2_gets (ns : List Int) {k : Int} (h : 0 ≤ k) : Gets (s__law_cell_45_x_i ns k) fun _ => True := by
  unfold s__law_cell_45_x_i
  split
  · rename_i hk
    simp only [decide_eq_true_eq] at hk
    rw [ixL_nat h, List.getElem?_eq_getElem (by omega)]
    exact ⟨_, rfl, trivial⟩
  · exact ⟨_, rfl, trivial⟩
theorem pick2_gets (pn : Pen) {k : Int} (hk : PenN k pn) (hk2 : k ≤ 1000000) {l : List (Int × Int)} (h0 : 0 < l.length) (h1 : l.length ≤ 1000) : Gets (s__law_pick_204_p_lt2ii pn l) fun r => r.1 ∈ l ∧ PenN (k + 1) r.2 := by
  unfold s__law_pick_204_p_lt2ii
  refine (draw2_gets pn hk hk2 (many := (l.length : Int)) (by omega) (by omega)).bind fun r hr => ?_
  have hi : r.1.toNat < l.length := by omega
  rw [ixL_nat hr.1.1, List.getElem?_eq_getElem (by omega)]
  exact Gets.ok ⟨List.getElem_mem _, hr.2⟩
theorem Gets.compI {ε α β σ : Type} {f : α → σ → X ε (Option β × σ)} {I : List α → List β → σ → Prop} : ∀ (as done : List α) (acc : List β) (s : σ), I done acc s → acc.length + as.length ≤ sizeLine → (∀ (l : List α) a (r : List α), done ++ as = l ++ a :: r → ∀ acc s, I l acc s → Gets (f a s) fun q => ∃ b, q.1 = some b ∧ I (l ++ [a]) (acc ++ [b]) q.2) →
    Gets (compX f as acc s) fun r => I (done ++ as) r.1 r.2
  | [], done, acc, s, h, _, _ => ⟨(acc, s), rfl, by simpa using h⟩
  | a :: as, done, acc, s, h, hl, step => by
    rw [compX]
    refine (step done a as rfl acc s h).bind fun r hr => ?_
    obtain ⟨b, e, h1⟩ := hr
    obtain ⟨o, s1⟩ := r
    simp only at e h1
    subst e
    simp only [List.length_cons] at hl
    simp only
    rw [if_pos (by omega)]
    have := Gets.compI as (done ++ [a]) (acc ++ [b]) s1 h1 (by simp; omega) fun l b r e => step l b r (by rw [← e]; simp)
    simpa using this
theorem ltI4_tr (a b c : Str4) (h1 : ltI4 a b = true) (h2 : ltI4 b c = true) : ltI4 a c = true := by
  unfold ltI4 at *
  simp only [decide_eq_true_eq] at *
  omega
theorem ltI4_tot (a b : Str4) : ltI4 a b = true ∨ a = b ∨ ltI4 b a = true := by
  obtain ⟨a1, a2, a3, a4⟩ := a
  obtain ⟨b1, b2, b3, b4⟩ := b
  unfold ltI4
  simp only [decide_eq_true_eq, Prod.mk.injEq]
  omega
/-- streets sorted, no two between the same towns -/
theorem sorted_streets {xs : List Str4} (h : (xs.map fun s => (s.1, s.2.1)).Nodup) : (sortL ltI4 xs).Pairwise fun s t => ltII (s.1, s.2.1) (t.1, t.2.1) = true := by
  have h1 := sorted_sortL ltI4_tr ltI4_tot xs
  have h2 : ((sortL ltI4 xs).map fun s => (s.1, s.2.1)).Nodup := ((perm_sortL xs).map _).nodup_iff.mpr h
  rw [List.nodup_iff_pairwise_ne, List.pairwise_map] at h2
  refine List.Pairwise.imp₂ (fun a b h1 h2 => ?_) h1 h2
  have h2 : ¬ ((a.1, a.2.1) = (b.1, b.2.1)) := h2
  rw [Prod.mk.injEq] at h2
  rcases h1 with q | q
  · unfold ltI4 at q
    unfold ltII
    simp only [decide_eq_true_eq] at q ⊢
    omega
  · subst q
    exact absurd ⟨rfl, rfl⟩ h2
theorem net2_gets (pn : Pen) {most k : Int} (hk : PenN k pn) (hk2 : k ≤ 100000) (h1 : 1 ≤ most) (h6 : most ≤ 6) : Gets (s__law_net_157_p_i pn most) fun r => Drawn r.1 ∧ r.1.1 ≤ most ∧ PenN (k + 60) r.2 := by
  have lg := line_ge
  unfold s__law_net_157_p_i
  refine (draw2_gets pn hk (by omega) (many := most) (by omega) (by omega)).bind fun r hr => ?_
  obtain ⟨v, pn1⟩ := r
  obtain ⟨hv, hp1⟩ := hr
  simp only at hv hp1 ⊢
  have hm : ∀ m : Int, m = 1 + v → 1 ≤ m ∧ m ≤ 6 := fun m e => by omega
  generalize hmd : 1 + v = m at *
  obtain ⟨m1, m6⟩ := hm m rfl
  rw [rng_ok (by omega) (by omega) (by omega) (by omega), X.opt_some, X.bind_ok]
  let I : List (Int × Int) → Prop := fun l => ∀ p ∈ l, 0 ≤ p.1 ∧ p.1 < p.2 ∧ p.2 < m
  -- the pairs of the tree
  have c1 := Gets.compI (f := s__law_net_157_p_i_c1 []) (I := fun done acc s => I acc ∧ acc.map (·.2) = done ∧ PenN (k + 1 + done.length) s) (rangeI 1 m) [] [] pn1 ⟨fun p hp => (by cases hp), rfl, hp1.mono (by simp)⟩ (by simp [length_rangeI]; omega) fun l a r e acc s hs => by
    have ha : a ∈ rangeI 1 m := by simp only [List.nil_append] at e; rw [e]; simp
    rw [mem_rangeI] at ha
    have hl : l.length ≤ 6 := by
      have := congrArg List.length e
      simp [length_rangeI] at this
      omega
    unfold s__law_net_157_p_i_c1
    refine (draw2_gets s hs.2.2 (by omega) (many := a) (by omega) (by omega)).bind fun q hq => Gets.ok ⟨_, rfl, ?_, ?_, ?_⟩
    · intro p hp
      rcases List.mem_append.mp hp with z | z
      · exact hs.1 p z
      · simp only [List.mem_cons, List.not_mem_nil, or_false] at z
        subst z
        exact ⟨hq.1.1, hq.1.2, ha.2⟩
    · rw [List.map_append, hs.2.1]
      rfl
    · exact hq.2.mono (by simp; omega)
  refine c1.nox.bind fun v4 h4 => ?_
  simp only [List.nil_append] at h4
  have l4 : v4.1.length = (m - 1).toNat := by
    have := congrArg List.length h4.2.1
    rw [List.length_map, length_rangeI] at this
    exact this
  have p4 : PenN (k + 6) v4.2 := h4.2.2.mono (by rw [length_rangeI]; omega)
  refine (draw2_gets v4.2 p4 (by omega) (many := 3) (by decide) (by decide)).bind fun r3 hr3 => ?_
  have e1 : (X.mulI r3.1 (if decide (2 < m) = true then (1 : Int) else 0) : X Pen Int) = .ok (r3.1 * (if decide (2 < m) = true then (1 : Int) else 0)) := mulI_l (by omega)
  rw [e1, X.bind_ok]
  have hx : 0 ≤ r3.1 * (if decide (2 < m) = true then (1 : Int) else 0) ∧ r3.1 * (if decide (2 < m) = true then (1 : Int) else 0) ≤ 3 ∧ (0 < r3.1 * (if decide (2 < m) = true then (1 : Int) else 0) → 2 < m) := by
    by_cases h : 2 < m
    · simp [h]; omega
    · simp [h]
  generalize hxd : r3.1 * (if decide (2 < m) = true then (1 : Int) else 0) = x at *
  rw [rng_ok (by omega) (by omega) (by omega) (by omega), X.opt_some, X.bind_ok]
  -- streets more
  have c2 := Gets.fold (f := s__law_net_157_p_i_l2 m []) (I := fun done s => I s.1 ∧ (∀ t, 1 ≤ t → t < m → ∃ p ∈ s.1, p.2 = t) ∧ s.1.length ≤ 6 + done.length ∧ PenN (k + 7 + 2 * done.length) s.2) (rangeI 0 x) [] (v4.1, r3.2) ⟨h4.1, fun t t1 t2 => by
      have : t ∈ v4.1.map (·.2) := by rw [h4.2.1]; exact mem_rangeI.mpr ⟨t1, t2⟩
      obtain ⟨p, hp, e⟩ := List.mem_map.mp this
      exact ⟨p, hp, e⟩, by simp only [List.length_nil]; omega, hr3.2.mono (by simp; omega)⟩ fun l a r e s hs => by
    have ha : a ∈ rangeI 0 x := by simp only [List.nil_append] at e; rw [e]; simp
    rw [mem_rangeI] at ha
    have hm2 := hx.2.2 (by omega)
    have hl : l.length ≤ 6 := by
      have := congrArg List.length e
      simp only [List.nil_append, length_rangeI, List.length_append, List.length_cons] at this
      omega
    unfold s__law_net_157_p_i_l2
    refine (draw2_gets s.2 hs.2.2.2 (by omega) (many := m - 1) (by omega) (by omega)).bind fun q1 hq1 => ?_
    refine (draw2_gets q1.2 hq1.2 (by omega) (many := m - 1 - q1.1) (by omega) (by omega)).bind fun q2 hq2 => ?_
    have e2 : ∀ y, (X.push s.1 y : X Pen _) = .ok (s.1 ++ [y]) := fun y => if_pos (by have := hs.2.2.1; omega)
    rw [e2, X.bind_ok]
    refine Gets.ok ⟨?_, fun t t1 t2 => ?_, ?_, ?_⟩
    · intro p hp
      rcases List.mem_append.mp hp with z | z
      · exact hs.1 p z
      · simp only [List.mem_cons, List.not_mem_nil, or_false] at z
        subst z
        simp only
        omega
    · obtain ⟨p, hp, e⟩ := hs.2.1 t t1 t2
      exact ⟨p, List.mem_append.mpr (.inl hp), e⟩
    · have := hs.2.2.1
      simp only [List.length_append, List.length_cons, List.length_nil]
      omega
    · exact hq2.2.mono (by simp; omega)
  refine c2.bind fun v11 h11 => ?_
  simp only [List.nil_append, length_rangeI] at h11
  have l11 : v11.1.length ≤ 10 := by have := h11.2.2.1; omega
  have p11 : PenN (k + 13) v11.2 := h11.2.2.2.mono (by omega)
  -- what the streets give
  let G : List (Int × Int) := [(1, 1), (1, 1), (1, 1), (1, 1), (1, 1), (1, 1), (1, 2), (2, 1), (1, 3), (3, 1)]
  have hG : ∀ g ∈ G, 1 ≤ g.1 ∧ g.1 ≤ 3 ∧ 1 ≤ g.2 ∧ g.2 ≤ 3 ∧ (g.1 = 1 ∨ g.2 = 1) := by decide
  have g1 : (X.mulL [((1 : Int), (1 : Int))] 6 : X Pen _) = .ok [(1, 1), (1, 1), (1, 1), (1, 1), (1, 1), (1, 1)] := by
    unfold X.mulL
    rw [if_pos ⟨by decide, by simp, by decide⟩]
    rfl
  have g2 : (X.addL [((1 : Int), (1 : Int)), (1, 1), (1, 1), (1, 1), (1, 1), (1, 1)] [(1, 2), (2, 1), (1, 3), (3, 1)] : X Pen _) = .ok G := by
    unfold X.addL
    rw [if_pos (by simp; omega)]
    rfl
  have c3 := Gets.fold (f := s__law_net_157_p_i_l3 v11.1) (I := fun done s => (s.1.map (·.1)).Nodup ∧ (∀ q ∈ s.1, q.1 ∈ v11.1 ∧ q.2 ∈ G) ∧ (∀ p ∈ done, p ∈ s.1.map (·.1)) ∧ s.1.length ≤ done.length ∧ PenN (k + 13 + done.length) s.2) v11.1 [] ([], v11.2) ⟨by simp, fun q hq => (by cases hq), fun q hq => (by cases hq), by simp, p11.mono (by simp)⟩ fun l a r e s hs => by
    simp only [List.nil_append] at e
    have hav : a ∈ v11.1 := by rw [e]; simp
    have hl : l.length ≤ 10 := by
      have := congrArg List.length e
      simp only [List.length_append, List.length_cons] at this
      omega
    unfold s__law_net_157_p_i_l3
    rw [g1, X.bind_ok, g2, X.bind_ok]
    refine (pick2_gets s.2 hs.2.2.2.2 (by omega) (l := G) (by decide) (by decide)).bind fun q hq => ?_
    have e3 : (X.put s.1 a q.1 : X Pen _) = .ok (putA s.1 a q.1) := if_pos (by have := hs.2.2.2.1; omega)
    rw [e3, X.bind_ok]
    refine Gets.ok ⟨nodup_putA hs.1, fun z hz => ?_, fun z hz => ?_, ?_, ?_⟩
    · rcases mem_putA hz with rfl | y
      · exact ⟨hav, hq.1⟩
      · exact hs.2.1 z y
    · rcases List.mem_append.mp hz with y | y
      · exact mem_keys_putA.mpr (.inr (hs.2.2.1 z y))
      · simp only [List.mem_cons, List.not_mem_nil, or_false] at y
        exact mem_keys_putA.mpr (.inl y)
    · have e4 := congrArg List.length (keys_putA s.1 a q.1)
      rw [List.length_map] at e4
      have := hs.2.2.2.1
      split at e4 <;> simp at e4 ⊢ <;> omega
    · exact hq.2.mono (by simp; omega)
  refine c3.bind fun v16 h16 => ?_
  simp only [List.nil_append] at h16
  obtain ⟨nd, hval, hkeys, hlen, hp16⟩ := h16
  let F : (Int × Int) × (Int × Int) → Str4 := fun a => (a.1.1, a.1.2, a.2.1, a.2.2)
  have c4 : compP (s__law_net_157_p_i_c4 v16.1 v11.1 v16.2) v16.1 [] = .ok (v16.1.map F) := compP_map _ _ (by omega) fun a _ => rfl
  rw [c4, nox_okE, X.bind_ok]
  refine Gets.ok ⟨⟨m1, m6, fun s hs => ?_, ?_, fun t t1 t2 => ?_, ?_⟩, by simp only; omega, hp16.mono (by omega)⟩
  · obtain ⟨a, ha, rfl⟩ := List.mem_map.mp ((perm_sortL _).mem_iff.mp hs)
    obtain ⟨q1, q2⟩ := hval a ha
    obtain ⟨z1, z2, z3⟩ := h11.1 a.1 q1
    obtain ⟨g1, g2, g3, g4, g5⟩ := hG a.2 q2
    exact ⟨z1, z2, z3, g1, g2, g3, g4, g5⟩
  · refine sorted_streets ?_
    rw [List.map_map]
    exact nd
  · obtain ⟨p, hp, e⟩ := h11.2.1 t t1 t2
    obtain ⟨a, ha, rfl⟩ := List.mem_map.mp (hkeys p hp)
    exact ⟨F a, (perm_sortL _).mem_iff.mpr (List.mem_map.mpr ⟨a, ha, rfl⟩), e⟩
  · rw [(perm_sortL _).length_eq, List.length_map]
    omega
theorem ixL_last2 {l : List Int} (h : 1 < l.length) : ∃ x, ixL l (-2) = some x ∧ x ∈ l := by
  unfold ixL ixD
  rw [if_neg (by decide), if_pos (by omega)]
  refine ⟨l[(-2 + (l.length : Int)).toNat]'(by omega), ?_, List.getElem_mem _⟩
  rw [Option.bind_some, List.getElem?_eq_getElem]
theorem row2_gets (pn : Pen) {k : Int} (hk : PenN k pn) (hk2 : k ≤ 100000) {net : NetT} (hd : Drawn net) {most : Int} (h0 : 0 ≤ most) (h1 : most ≤ 60) : Gets (s__law_row_258_p_net_i pn net most) fun r => RowOk net r.1 ∧ (r.1.length : Int) ≤ most ∧ PenN (k + 1 + 2 * most) r.2 := by
  have lg := line_ge
  have m1 := hd.m1
  have m6 := hd.m6
  unfold s__law_row_258_p_net_i
  refine (draw2_gets pn hk (by omega) (many := most + 1) (by omega) (by omega)).bind fun r hr => ?_
  rw [rng_ok (by omega) (by omega) (by omega) (by omega), X.opt_some, X.bind_ok]
  have main := Gets.fold (f := s__law_row_258_p_net_i_l1 net) (I := fun done s => RowOk net s.1 ∧ s.1.length = done.length ∧ PenN (k + 1 + 2 * done.length) s.2) (rangeI 0 r.1) [] ([], r.2) ⟨fun x hx => (by cases hx), rfl, hr.2.mono (by simp)⟩ fun l a r' e s hs => by
    have hl : (l.length : Int) < most := by
      have := congrArg List.length e
      simp only [List.nil_append, length_rangeI, List.length_append, List.length_cons] at this
      omega
    unfold s__law_row_258_p_net_i_l1
    have add : ∀ x, (X.addL s.1 [x] : X Pen _) = .ok (s.1 ++ [x]) := fun x => if_pos (by simp [hs.2.1]; omega)
    have fin : ∀ (q : Bool × Pen), (q.1 = true → 1 < s.1.length) → PenN (k + 1 + 2 * l.length + 1) q.2 → Gets (((if q.1 = true then (X.opt (ixL s.1 (-2)) : X Pen _).bind fun v5 => X.ok (v5, q.2) else (s__law_draw_58_p_i q.2 net.1).bind fun v6 => X.ok (v6.1, v6.2)) : X Pen _).bind fun v7 => (X.addL s.1 [v7.1] : X Pen _).bind fun v8 => X.ok (v8, v7.2)) fun r => RowOk net r.1 ∧ r.1.length = (l ++ [a]).length ∧ PenN (k + 1 + 2 * (l ++ [a]).length) r.2 := fun q hq hp => by
      refine Gets.bind (P := fun v => (0 ≤ v.1 ∧ v.1 < net.1) ∧ PenN (k + 1 + 2 * l.length + 2) v.2) ?_ fun v hv => ?_
      · by_cases hb : q.1 = true
        · rw [if_pos hb]
          obtain ⟨x, ex, hx⟩ := ixL_last2 (hq hb)
          rw [ex, X.opt_some, X.bind_ok]
          exact Gets.ok ⟨hs.1 x hx, hp.mono (by omega)⟩
        · rw [if_neg hb]
          exact (draw2_gets q.2 hp (by omega) (many := net.1) (by omega) (by omega)).bind fun v hv => Gets.ok ⟨hv.1, hv.2.mono (by omega)⟩
      · rw [add, X.bind_ok]
        refine Gets.ok ⟨fun x hx => ?_, by simp [hs.2.1], hv.2.mono (by simp; omega)⟩
        rcases List.mem_append.mp hx with z | z
        · exact hs.1 x z
        · simp only [List.mem_cons, List.not_mem_nil, or_false] at z
          subst z
          exact hv.1
    refine Gets.bind (P := fun q : Bool × Pen => (q.1 = true → 1 < s.1.length) ∧ PenN (k + 1 + 2 * l.length + 1) q.2) ?_ fun q hq => fin q hq.1 hq.2
    by_cases hb : (1 : Int) < (s.1.length : Int)
    · rw [if_pos (decide_eq_true hb)]
      exact (draw2_gets s.2 hs.2.2 (by omega) (many := 3) (by decide) (by decide)).bind fun v hv => Gets.ok ⟨fun _ => by omega, hv.2⟩
    · rw [if_neg (by simpa using hb)]
      exact Gets.ok ⟨fun z => by simp at z, hs.2.2.mono (by omega)⟩
  refine main.bind fun s hs => Gets.ok ⟨hs.1, ?_, hs.2.2.mono ?_⟩
  · have := hs.2.1
    simp only [List.nil_append, length_rangeI] at this
    simp only
    omega
  · simp only [List.nil_append, length_rangeI]
    omega
theorem law_pens2 {l : List Int} {pn : Pen} (k : Int) (hk : 0 ≤ k) (hp : PenN 0 pn) (hl : l.length * k ≤ 90000) {f : Int → Pen → X Unit (Lp Bool Pen)} (hf : ∀ a ∈ l, ∀ s c, PenN c s → 0 ≤ c → c ≤ 90000 → Gets (f a s) fun r => ∃ s, r = .nx s ∧ PenN (c + k) s) :
    Gets ((loopX f l pn).bind fun q => q.cas (fun _ => (X.ok (.nx ()) : X Unit (Lp Bool Unit))) fun r _ => X.ok (.rt r ())) fun r => r = .nx () := by
  obtain ⟨q, e, s', rfl, _⟩ := Gets.loop (f := f) (I := fun done s => PenN (done.length * k) s) l [] pn (by simpa using hp) fun d a r e s hs => by
    simp only [List.nil_append] at e
    have ha : a ∈ l := by rw [e]; simp
    have h1 : (0 : Int) ≤ d.length * k := Int.mul_nonneg (by omega) hk
    have h2 : (d.length : Int) * k ≤ l.length * k := Int.mul_le_mul_of_nonneg_right (by
      have := congrArg List.length e
      simp only [List.length_append, List.length_cons] at this
      omega) hk
    refine (hf a ha s _ hs h1 (by omega)).imp fun r ⟨s, e, hs⟩ => ⟨s, e, ?_⟩
    have h3 : (((d ++ [a]).length : Nat) : Int) * k = d.length * k + k := by
      rw [List.length_append]
      simp only [List.length_cons, List.length_nil]
      have : ((d.length + 1 : Nat) : Int) = d.length + 1 := by omega
      rw [this, Int.add_mul, Int.one_mul]
    rw [h3]
    exact hs
  rw [e]
  exact Gets.ok rfl
end Q

/-! MG: what the law's own dicts of towns given say. -/
namespace Q
open PySem
/-- the law's dicts, in the order of the streets -/
def lgV (net : NetT) : List Gv := (List.range net.1.toNat).map fun (t : Nat) => rowRaw net.2 t
theorem putA_new {κ α : Type} [DecidableEq κ] {kvs : List (κ × α)} {k : κ} (v : α) (h : k ∉ kvs.map (·.1)) : putA kvs k v = kvs ++ [(k, v)] := by
  unfold putA
  rw [if_neg]
  rw [List.any_eq_true]
  intro ⟨p, hp, hk⟩
  exact h (List.mem_map.mpr ⟨p, hp, of_decide_eq_true hk⟩)
theorem raw_keys {ss : List Str4} {t k : Int} : k ∈ (rowRaw ss t).map (·.1) → ∃ q ∈ ss, (q.1 = t ∧ q.2.1 = k) ∨ (q.1 = k ∧ q.2.1 = t) := by
  intro h
  obtain ⟨p, hp, hk⟩ := List.mem_map.mp h
  obtain ⟨q, hq, hp⟩ := List.mem_flatMap.mp hp
  refine ⟨q, hq, ?_⟩
  unfold piece at hp
  split at hp
  · rename_i e
    simp only [List.mem_cons, List.not_mem_nil, or_false] at hp
    rw [hp] at hk
    exact .inl ⟨e, hk⟩
  · split at hp
    · rename_i e
      simp only [List.mem_cons, List.not_mem_nil, or_false] at hp
      rw [hp] at hk
      exact .inr ⟨hk, e⟩
    · cases hp
theorem raw_nd {m : Int} : ∀ {ss : List Str4}, (∀ s ∈ ss, StOk m s) → (ss.Pairwise fun s t => ltII (s.1, s.2.1) (t.1, t.2.1) = true) → ∀ t : Int, ((rowRaw ss t).map (·.1)).Nodup
  | [], _, _, t => by simp [rowRaw]
  | s :: ss, hs, hp, t => by
    have ih := raw_nd (fun q hq => hs q (List.mem_cons_of_mem _ hq)) hp.of_cons t
    have so := hs s List.mem_cons_self
    have e : rowRaw (s :: ss) t = piece s t ++ rowRaw ss t := rfl
    have fresh : ∀ k, (s.1 = t ∧ s.2.1 = k) ∨ (s.1 = k ∧ s.2.1 = t) → k ∉ (rowRaw ss t).map (·.1) := fun k hk hm => by
      obtain ⟨q, hq, h⟩ := raw_keys hm
      have nm := no_more hp q hq
      have qo := hs q (List.mem_cons_of_mem _ hq)
      have := qo.ab
      have := so.ab
      rcases hk with ⟨h1, h2⟩ | ⟨h1, h2⟩ <;> rcases h with ⟨h3, h4⟩ | ⟨h3, h4⟩
      · exact nm ⟨by omega, by omega⟩
      · omega
      · omega
      · exact nm ⟨by omega, by omega⟩
    rw [e]
    unfold piece
    split
    · rename_i e1
      simp only [List.cons_append, List.nil_append, List.map_cons, List.nodup_cons]
      exact ⟨fresh _ (.inl ⟨e1, rfl⟩), ih⟩
    · split
      · rename_i e1
        simp only [List.cons_append, List.nil_append, List.map_cons, List.nodup_cons]
        exact ⟨fresh _ (.inr ⟨rfl, e1⟩), ih⟩
      · exact ih
theorem lg_at {net : NetT} {t : Int} (h0 : 0 ≤ t) (h1 : t < net.1) : ixL (lgV net) t = some (rowRaw net.2 t) := by
  rw [ixL_nat h0, lgV, List.getElem?_map, List.getElem?_range (by omega)]
  simp only [Option.map_some]
  congr 2
  omega
theorem lg_len {net : NetT} : (lgV net).length = net.1.toNat := by simp [lgV]
theorem lg96_ok {net : NetT} (h : Drawn net) : s__law_gives_96_net net = .ok (lgV net) := by
  have m1 := h.m1
  have m6 := h.m6
  have lg := line_ge
  unfold s__law_gives_96_net
  rw [rng_ok (by omega) (by omega) (by omega) (by omega), X.opt_some, X.bind_ok]
  have hl : (rangeI 0 net.1).length = net.1.toNat := by rw [length_rangeI]; congr 1; omega
  rw [hl, if_pos (by omega)]
  have main := Gets.fold (f := s__law_gives_96_net_l1) (I := fun done s => s = (List.range net.1.toNat).map fun t => rowRaw done (t : Nat)) net.2 [] (List.replicate net.1.toNat []) (by
    refine List.ext_getElem (by simp) fun i h1 h2 => ?_
    simp [rowRaw]) fun l a r e s hs => by
      simp only [List.nil_append] at e
      have ha : a ∈ net.2 := by rw [e]; simp
      have so := h.st a ha
      have hln : l.length ≤ 100 := by
        have := congrArg List.length e
        have := h.few
        simp only [List.length_append, List.length_cons] at *
        omega
      have nd : ∀ t : Int, ((rowRaw (l ++ [a]) t).map (·.1)).Nodup := fun t => by
        have := raw_nd h.st h.srt t
        rw [e, show l ++ a :: r = (l ++ [a]) ++ r by simp] at this
        unfold rowRaw at this ⊢
        rw [List.flatMap_append, List.map_append] at this
        exact (List.nodup_append.mp this).1
      have nw : ∀ (t : Int) (x : Int × Int), piece a t = [x] → x.1 ∉ (rowRaw l t).map (·.1) := fun t x hx hm => by
        have := nd t
        rw [rowRaw_snoc, hx, List.map_append] at this
        exact (List.nodup_append.mp this).2.2 _ hm x.1 (by simp) rfl
      have sl : s.length = net.1.toNat := by rw [hs]; simp
      unfold s__law_gives_96_net_l1
      have get : ∀ i : Int, 0 ≤ i → i < net.1 → ixL s i = some (rowRaw l i) := fun i h0 h1 => by
        rw [ixL_nat h0, hs, List.getElem?_map, List.getElem?_range (by omega)]
        simp only [Option.map_some]
        congr 2
        omega
      rw [get a.1 so.a0 (by have := so.ab; have := so.bm; omega), X.opt_some, X.bind_ok]
      have p1 : ∀ (t : Int) (x : Int × Int), piece a t = [x] → (X.put (rowRaw l t) x.1 x.2 : X Unit _) = .ok (rowRaw l t ++ [x]) := fun t x hx => by
        unfold X.put
        rw [if_pos (by have := rowRaw_len l t; omega), putA_new _ (nw t x hx)]
      have ab := so.ab
      have e1 : piece a a.1 = [(a.2.1, a.2.2.1)] := by unfold piece; rw [if_pos rfl]
      have e2 : piece a a.2.1 = [(a.1, a.2.2.2)] := by unfold piece; rw [if_neg (by omega), if_pos rfl]
      rw [p1 a.1 (a.2.1, a.2.2.1) e1, X.bind_ok, setL_nat so.a0 (by have := so.ab; have := so.bm; omega), X.opt_some, X.bind_ok]
      have hne : a.1.toNat ≠ a.2.1.toNat := by have := so.ab; have := so.a0; omega
      have g2 : ixL (s.set a.1.toNat (rowRaw l a.1 ++ [(a.2.1, a.2.2.1)])) a.2.1 = some (rowRaw l a.2.1) := by
        rw [ixL_nat (by have := so.ab; have := so.a0; omega), List.getElem?_set_ne hne, ← ixL_nat (by have := so.ab; have := so.a0; omega)]
        exact get _ (by have := so.ab; have := so.a0; omega) so.bm
      rw [g2, X.opt_some, X.bind_ok, p1 a.2.1 (a.1, a.2.2.2) e2, X.bind_ok, setL_nat (by have := so.ab; have := so.a0; omega) (by rw [List.length_set]; have := so.bm; omega), X.opt_some]
      refine Gets.ok ?_
      refine List.ext_getElem (by simp [sl]) fun i h1 h2 => ?_
      simp only [List.length_set, sl] at h1
      rw [List.getElem_set, List.getElem_set]
      simp only [List.getElem_map, List.getElem_range, rowRaw_snoc]
      have a0 := so.a0
      have bm := so.bm
      by_cases h3 : a.2.1.toNat = i
      · rw [if_pos h3]
        have e3 : (i : Int) = a.2.1 := by omega
        rw [e3, e2]
      · rw [if_neg h3]
        by_cases h4 : a.1.toNat = i
        · rw [if_pos h4]
          have e3 : (i : Int) = a.1 := by omega
          rw [e3, e1]
        · rw [if_neg h4]
          unfold piece
          rw [if_neg (by omega), if_neg (by omega), List.append_nil]
          simp only [hs, List.getElem_map, List.getElem_range]
  obtain ⟨s, e, hs⟩ := main
  simp only [List.nil_append] at hs
  rw [e, hs]
  rfl
/-! ### turns by them -/
theorem lunit_ok {net : NetT} (h : Drawn net) (a : Int) : s__law_unit_360_i_i net.1 a = .ok (unitV net a) := by
  have m1 := h.m1
  have m6 := h.m6
  have lg := line_ge
  unfold s__law_unit_360_i_i
  rw [rng_ok (by omega) (by omega) (by omega) (by omega), X.opt_some, X.bind_ok, compP_map (fun j => if j = a then (1 : Int) else 0) (rangeI 0 net.1) (by rw [length_rangeI]; omega) fun j hj => by
    unfold s__law_unit_360_i_i_c1
    congr 2
    by_cases e : j = a <;> simp [e]]
  rfl
theorem lg_leni {net : NetT} (h : Drawn net) : ((lgV net).length : Int) = net.1 := by
  have := h.m1
  rw [lg_len]
  omega
end Q

/-! MX: exchanges of turns of two towns by turns. -/
namespace Q
open PySem
theorem kutLo {xs : List Int} {v : Int} (h0 : 0 ≤ v) : cutL xs none (some v) = xs.take v.toNat := by
  unfold cutL cutLoI
  simp only [if_neg (show ¬ v < 0 by omega), List.drop_zero, Nat.sub_zero]
  by_cases h : v.toNat ≤ xs.length
  · rw [Nat.min_eq_left h]
  · rw [Nat.min_eq_right (by omega), List.take_length, List.take_of_length_le (by omega)]
theorem kutHi {xs : List Int} {v : Int} (h0 : 0 ≤ v) : cutL xs (some v) none = xs.drop v.toNat := by
  unfold cutL cutLoI
  simp only [if_neg (show ¬ v < 0 by omega)]
  by_cases h : v.toNat ≤ xs.length
  · rw [Nat.min_eq_left h]
    rw [List.take_of_length_le (by rw [List.length_drop]; exact Nat.le_refl _)]
  · rw [Nat.min_eq_right (by omega), List.drop_length, List.drop_eq_nil_of_le (by omega)]
    simp
end Q

/-! MY: small things of rows and what is shown. -/
namespace Q
open PySem
theorem addY {α ε : Type} {xs ys : List α} (h : xs.length + ys.length ≤ 4000) : (X.addL xs ys : X ε _) = .ok (xs ++ ys) := if_pos (by have := line_ge; omega)
theorem row_two {net : NetT} {t : Int} (h : 0 ≤ t ∧ t < net.1) : RowOk net [t, t] := fun x hx => by
  simp only [List.mem_cons, List.not_mem_nil, or_false, or_self] at hx
  rw [hx]
  exact h
theorem row_take {net : NetT} {r : List Int} (h : RowOk net r) (n : Nat) : RowOk net (r.take n) := fun x hx => h x (List.mem_of_mem_take hx)
theorem row_drop {net : NetT} {r : List Int} (h : RowOk net r) (n : Nat) : RowOk net (r.drop n) := fun x hx => h x (List.mem_of_mem_drop hx)
end Q

/-! MA: orders of the towns, nets and purses called otherwise. -/
namespace Q
open PySem
theorem rngS_ok {m : Int} (h0 : 0 ≤ m) (h1 : m ≤ 1000) : rngS m = some (rangeI 0 m) := by
  unfold rngS
  rw [if_pos]
  exact ⟨by omega, by omega⟩
end Q

/-! MK: claims: what a town has behind a row, told by what the towns had. -/
namespace Q
open PySem
section
variable {W : Web}
theorem fun_units (ok : WebOk W) {r : List Int} (hr : Row W r) {t x a : Int} (ht : W.In t) (hx : W.In x) (h : ∀ j, W.In j → pl W r (un j) t = a * un j x) (p : Pf) : pl W r p t = a * p x := by
  have key : ∀ (k : Nat) (p : Pf), (∀ j : Int, ¬ (0 ≤ j ∧ j < k) → p j = 0) → (k : Int) ≤ W.m → pl W r p t = a * p x := by
    intro k
    induction k with
    | zero =>
      intro p hp _
      have z0 : ∀ i, p i = 0 := fun i => hp i (by omega)
      have e : p = fun i => 0 * p i - p i := by funext i; rw [z0 i]; rfl
      have e2 := congrFun (pl_lin (W := W) 0 r p p) t
      rw [← e] at e2
      rw [z0 x]
      omega
    | succ k ih =>
      intro p hp hk
      have e1 := congrFun (pl_lin (W := W) (p k) r (un k) p) t
      have hin : W.In (k : Int) := ⟨by omega, by omega⟩
      have e3 := ih (fun j => p k * un k j - p j) (fun i hi => by
        unfold un
        by_cases hik : i = k
        · subst hik; simp
        · rw [if_neg hik, hp i (by omega)]
          simp) (by omega)
      rw [e1, h _ hin, Int.mul_sub, Int.mul_left_comm] at e3
      omega
  have hm : 0 ≤ W.m := by have := ht.1; have := ht.2; omega
  have e : ∀ i, W.In i → p i = (fun i => if 0 ≤ i ∧ i < W.m then p i else 0) i := fun i hi => (if_pos hi).symm
  rw [pl_congr hr e t ht, e x hx]
  exact key W.m.toNat _ (fun i hi => if_neg (by omega)) (by omega)
/-- a town behind a row: all that is in wealth leaves it in wealth, or all in debt -/
theorem sides (ok : WebOk W) {r : List Int} (hr : Row W r) {t : Int} (ht : W.In t) : ((∀ p, PosP W p → 0 < pl W r p t) ∧ Pos W r t) ∨ ((∀ p, PosP W p → pl W r p t < 0) ∧ ∀ p, NonN W p → pl W r p t ≤ 0) := by
  obtain ⟨w, hw, sm, sw⟩ := short_of r.length r (Nat.le_refl _) hr
  rcases cut ok hw sw ht with ⟨h1, h2, _⟩ | ⟨h1, w', hw', _, _, sm', h2⟩
  · exact .inl ⟨fun p hp => by rw [sm p]; exact h1 p hp, fun p hp => by rw [sm p]; exact h2 p hp⟩
  · refine .inr ⟨fun p hp => by rw [sm p]; exact h1 p hp, fun p hp => ?_⟩
    rw [sm p, sm' p, pl_app, pl_one, tn_at]
    have := h2 p hp
    omega
theorem two_off (r : List Int) (t : Int) : Same W (r ++ [t] ++ [t]) r := by
  rw [List.append_assoc]
  have := (Same.refl (W := W) r).app (same_two (W := W) t)
  rwa [List.append_nil] at this
theorem pos_zero (ok : WebOk W) {r : List Int} (hr : Row W r) (h : ∀ s, W.In s → 0 < pl W r (fun _ => 1) s) : Same W r [] := by
  obtain ⟨w, hw, sm, sw⟩ := short_of r.length r (Nat.le_refl _) hr
  rcases List.eq_nil_or_concat w with rfl | ⟨u, t, rfl⟩
  · exact sm
  · exfalso
    rw [List.concat_eq_append] at hw sw sm
    have ht : W.In t := hw t (by simp)
    rcases cut ok hw sw ht with ⟨_, _, q⟩ | ⟨q, _⟩
    · have := q u (Row.left hw) (two_off u t)
      simp only [List.length_append, List.length_cons, List.length_nil] at this
      omega
    · have z := q _ ones_pos
      rw [← sm] at z
      have := h t ht
      omega
/-- where a town's claim ahead of a turn is the turn's town: the turn goes for one of the town ahead -/
theorem refl_same (ok : WebOk W) {r : List Int} (hr : Row W r) {t x : Int} (ht : W.In t) (hx : W.In x) (h : ∀ p, pl W r.reverse p t = p x) : Same W (t :: (r ++ [x])) r := by
  let al : Int → Pf := fun s j => if j = s then 2 else - W.c s j
  have tn_al : ∀ (s : Int) (p : Pf), tn W s p = fun j => 1 * p j - (fun j => p s * al s j - 0) j := fun s p => by
    funext j
    show (if j = s then - p s else p j + W.c s j * p s) = 1 * p j - (p s * (if j = s then 2 else - W.c s j) - 0)
    by_cases e : j = s
    · subst e; simp; omega
    · simp only [if_neg e, Int.mul_neg, Int.mul_comm]
      omega
  let be : Pf := pl W r (al t)
  have zero : ∀ (q : List Int), pl W q (fun _ => 0) = fun _ => 0 := fun q => by
    have := pl_lin (W := W) 1 q (fun _ => 0) (fun _ => 0)
    have e : (fun j : Int => 1 * (fun _ => (0 : Int)) j - (fun _ => (0 : Int)) j) = fun _ => 0 := rfl
    rw [e] at this
    rw [this]
    funext j
    omega
  have hv : ∀ p, pl W (r.reverse ++ [t] ++ r) p = fun j => p j - p x * be j := fun p => by
    rw [pl_app, pl_app, pl_one, tn_al, pl_lin, pl_rev', h]
    have := pl_lin (W := W) (p x) r (al t) (fun _ => 0)
    rw [this, zero]
    funext j
    show 1 * p j - (p x * be j - 0) = _
    omega
  have bx : be x = 2 := by
    rw [← h be]
    show pl W r.reverse (pl W r (al t)) t = 2
    rw [pl_rev]
    exact if_pos rfl
  have hw : ∀ p, pl W (r.reverse ++ [t] ++ r ++ [x]) p = fun j => p j + p x * (al x j - be j) := fun p => by
    rw [pl_app, hv, pl_one, tn_al]
    funext j
    show 1 * (p j - p x * be j) - ((p x - p x * be x) * al x j - 0) = _
    rw [bx]
    have : p x - p x * 2 = - p x := by omega
    rw [this, Int.neg_mul, Int.mul_sub (p x)]
    omega
  have hrow : Row W (r.reverse ++ [t] ++ r ++ [x]) := ((hr.rev.app (Row.one ht)).app hr).app (Row.one hx)
  have alx : al x x = 2 := if_pos rfl
  have key : ∀ j, W.In j → 0 ≤ al x j - be j := fun j hj => by
    apply Classical.byContradiction
    intro hneg
    have hjx : j ≠ x := fun e => by
      subst e
      rw [alx, bx] at hneg
      omega
    rcases sides ok hrow hj with ⟨h1, _⟩ | ⟨h1, _⟩
    · have := h1 (fun i => if i = x then 2 else 1) fun i _ => by show (0 : Int) < if i = x then 2 else 1; split <;> decide
      rw [hw] at this
      simp only [if_neg hjx, if_true] at this
      omega
    · have := h1 (fun i => if i = j then (1 - (al x j - be j)) else 1) fun i _ => by
        show (0 : Int) < if i = j then (1 - (al x j - be j)) else 1
        split <;> omega
      rw [hw] at this
      simp only [if_true, if_neg (fun e : x = j => hjx e.symm)] at this
      omega
  have s0 : Same W (r.reverse ++ [t] ++ r ++ [x]) [] := pos_zero ok hrow fun s hs => by
    rw [hw]
    have := key s hs
    show (0 : Int) < 1 + 1 * (al x s - be s)
    omega
  have s1 := (Same.refl (W := W) r).app s0
  have s2 : Same W (r ++ r.reverse ++ (t :: (r ++ [x]))) (t :: (r ++ [x])) := by
    have := (same_back (W := W) r).app (Same.refl (W := W) (t :: (r ++ [x])))
    rwa [List.nil_append] at this
  have e : r ++ (r.reverse ++ [t] ++ r ++ [x]) = r ++ r.reverse ++ (t :: (r ++ [x])) := by simp
  rw [e, List.append_nil] at s1
  exact s2.symm.trans s1
/-- a row that leaves a town in debt at once has such a turn -/
theorem ex_place (ok : WebOk W) {t : Int} (ht : W.In t) : ∀ (n : Nat) (row : List Int), row.length = n → Row W row → (∀ p, PosP W p → pl W row.reverse p t < 0) → ∃ r x rest, row = r ++ x :: rest ∧ ∀ p, pl W r.reverse p t = p x := by
  intro n
  induction n with
  | zero =>
    intro row hl _ h
    have : row = [] := List.length_eq_zero_iff.mp hl
    subst this
    have z : (1 : Int) < 0 := h _ ones_pos
    omega
  | succ n ih =>
    intro row hl hr h
    rcases List.eq_nil_or_concat row with rfl | ⟨r, x, rfl⟩
    · cases hl
    · rw [List.concat_eq_append] at hl hr h
      have hx : W.In x := hr x (by simp)
      have hr0 : Row W r := Row.left hr
      rcases sides ok hr0.rev ht with ⟨h1, h2⟩ | ⟨h1, _⟩
      · refine ⟨r, x, [], List.concat_eq_append, ?_⟩
        have hs : ∀ p, NonN W p → pl W (r ++ [x]).reverse p t ≤ 0 := by
          rcases sides ok hr.rev ht with ⟨h3, _⟩ | ⟨_, h4⟩
          · have := h _ ones_pos
            have := h3 _ ones_pos
            omega
          · exact h4
        have nu : ∀ j, NonN W (un j) := fun j i _ => by unfold un; split <;> decide
        have h3 : ∀ j, W.In j → pl W r.reverse (un j) t = pl W r.reverse (un x) t * un j x := fun j hj => by
          by_cases e : j = x
          · subst e
            rw [show un j j = 1 from if_pos rfl, Int.mul_one]
          · rw [show un j x = 0 from if_neg fun z => e z.symm, Int.mul_zero]
            have a1 := h2 _ (nu j)
            have a2 := hs _ (nu j)
            have e2 : (r ++ [x]).reverse = x :: r.reverse := by simp
            rw [e2, pl_cons] at a2
            have e3 : tn W x (un j) = un j := by
              funext i
              unfold tn
              rw [show un j x = 0 from if_neg fun z => e z.symm]
              by_cases hi : i = x
              · rw [if_pos hi, hi, show un j x = 0 from if_neg fun z => e z.symm]
                rfl
              · rw [if_neg hi, Int.mul_zero, Int.add_zero]
            rw [e3] at a2
            omega
        have h4 := fun_units ok hr0.rev ht hx h3
        have k0 : 0 < pl W r.reverse (un x) t := by
          have a1 := h1 _ ones_pos
          rw [h4] at a1
          omega
        have k1 : pl W r.reverse (un x) t = 1 := by
          have a1 := h4 (pl W r (un t))
          rw [pl_rev, show un t t = 1 from if_pos rfl] at a1
          exact Int.eq_one_of_mul_eq_one_right (Int.le_of_lt k0) a1.symm
        intro p
        rw [h4 p, k1, Int.one_mul]
      · obtain ⟨r', x', rest, e, hp⟩ := ih r (by simpa using hl) hr0 h1
        exact ⟨r', x', rest ++ [x], by rw [List.concat_eq_append, e]; simp, hp⟩
end
end Q

/-! ML: claims as lists, begins by claims. -/
namespace Q
open PySem
theorem un_sym (a b : Int) : un a b = un b a := by
  unfold un
  by_cases h : a = b
  · subst h; rfl
  · rw [if_neg (fun z => h z.symm), if_neg h]
theorem tn_un {W : Web} {x j : Int} (h : j ≠ x) : tn W x (un j) = un j := by
  have e0 : un j x = 0 := if_neg fun z => h z.symm
  funext i
  unfold tn
  rw [e0]
  by_cases hi : i = x
  · rw [if_pos hi, hi, e0]
    rfl
  · rw [if_neg hi, Int.mul_zero, Int.add_zero]
/-- a town's claim behind a row ahead -/
noncomputable def clV (net : NetT) (r : List Int) (t : Int) : List Int := (rangeI 0 net.1).map fun j => pl (webOf net) r.reverse (un j) t
theorem cl_len {net : NetT} (r : List Int) (t : Int) : (clV net r t).length = net.1.toNat := by
  rw [clV, List.length_map, length_rangeI]
  congr 1
  omega
theorem rng_get {m j : Int} (h0 : 0 ≤ j) (h1 : j < m) : (rangeI 0 m)[j.toNat]? = some j := by
  unfold rangeI
  rw [List.getElem?_map, List.getElem?_range (by omega)]
  simp only [Option.map_some, Option.some.injEq]
  omega
theorem cl_at {net : NetT} (r : List Int) (t : Int) {j : Int} (hj : (webOf net).In j) : ixL (clV net r t) j = some (pl (webOf net) r.reverse (un j) t) := by
  rw [ixL_nat hj.1, clV, List.getElem?_map, rng_get (m := net.1) hj.1 hj.2]
  rfl
theorem cl_eq {net : NetT} {r r' : List Int} {t t' : Int} : clV net r t = clV net r' t' ↔ ∀ j, (webOf net).In j → pl (webOf net) r.reverse (un j) t = pl (webOf net) r'.reverse (un j) t' := by
  constructor
  · intro h j hj
    have := congrArg (fun l => ixL l j) h
    simp only [cl_at _ _ hj, Option.some.injEq] at this
    exact this
  · intro h
    unfold clV
    exact List.map_congr_left fun j hj => h j (mem_rangeI.mp hj)
theorem cl_nil (net : NetT) (t : Int) : clV net [] t = unitV net t := by
  unfold clV unitV
  refine List.map_congr_left fun j _ => ?_
  show un j t = _
  rw [un_sym]
  rfl
theorem sum_units (W : Web) (r : List Int) (t : Int) : ∀ (gv : Gv) (q : Pf), pl W r (fun j => (gv.map fun a => a.2 * un a.1 j).sum - q j) t = (gv.map fun a => a.2 * pl W r (un a.1) t).sum - pl W r q t
  | [], q => by
    have e := congrFun (pl_lin (W := W) 0 r q q) t
    simp only [Int.zero_mul] at e
    exact e
  | a :: gv, q => by
    have ih := sum_units W r t gv q
    have e : (fun j => (((a :: gv).map fun a => a.2 * un a.1 j).sum - q j)) = fun j => a.2 * un a.1 j - (fun j => 0 * un a.1 j - (fun j => (gv.map fun a => a.2 * un a.1 j).sum - q j) j) j := by
      funext j
      simp only [List.map_cons, List.sum_cons]
      omega
    have e2 := congrFun (pl_lin (W := W) a.2 r (un a.1) (fun j => 0 * un a.1 j - (fun j => (gv.map fun a => a.2 * un a.1 j).sum - q j) j)) t
    have e3 := congrFun (pl_lin (W := W) 0 r (un a.1) (fun j => (gv.map fun a => a.2 * un a.1 j).sum - q j)) t
    rw [e, e2, e3, ih, List.map_cons, List.sum_cons]
    omega
theorem sum_at (gv : Gv) (j : Int) : (gv.map fun a => a.2 * un a.1 j).sum = sumAt gv j := by
  induction gv with
  | nil => rfl
  | cons a gv ih =>
    rw [List.map_cons, List.sum_cons, ih]
    unfold sumAt
    by_cases h : a.1 = j
    · have e : un a.1 j = 1 := if_pos h.symm
      rw [e]
      simp [h]
    · have e : un a.1 j = 0 := if_neg fun z => h z.symm
      rw [e]
      simp [h]
theorem cl_step {net : NetT} (h : Drawn net) {r : List Int} (hr : RowOk net r) {t x : Int} (ht : (webOf net).In t) (hx : (webOf net).In x) {gv : Gv} (hp : gv.Perm (rowRaw net.2 x)) : (gv.map fun a => a.2 * pl (webOf net) r.reverse (un a.1) t).sum - pl (webOf net) r.reverse (un x) t = pl (webOf net) (r ++ [x]).reverse (un x) t := by
  rw [← sum_units, List.reverse_append]
  show _ = pl (webOf net) (x :: r.reverse) (un x) t
  rw [pl_cons]
  refine pl_congr (W := webOf net) (Row.rev (row_web.mp hr)) (fun j hj => ?_) t ht
  have e1 : sumAt gv j = coef net.2 x j := sumAt_perm hp j
  show (gv.map fun a => a.2 * un a.1 j).sum - un x j = tn (webOf net) x (un x) j
  rw [sum_at, e1]
  by_cases e : j = x
  · subst e
    rw [tn_at]
    have z : coef net.2 j j = 0 := by
      unfold coef
      rw [List.filter_eq_nil_iff.mpr fun p hp => by
        have := (rowRaw_mem h hp).2.2.2.2
        simpa using this]
      rfl
    rw [z]
    omega
  · rw [tn_ne _ e]
    have e3 : (webOf net).c x j = coef net.2 x j := if_pos hj
    have e4 : un x x = 1 := if_pos rfl
    have e5 : un x j = 0 := if_neg e
    rw [e3, e4, e5]
    omega
/-- a claim ahead of one turn more -/
theorem claim_ok {net : NetT} (h : Drawn net) {r : List Int} (hr : RowOk net r) {t x : Int} (ht : (webOf net).In t) (hx : (webOf net).In x) {G : List Gv} {gv : Gv} (hg : ixL G x = some gv) (hp : gv.Perm (rowRaw net.2 x)) : s__law_claim_47_lfii_qi_i G (clV net r t) x = .ok (clV net (r ++ [x]) t) := by
  have m6 := h.m6
  have lg := line_ge
  unfold s__law_claim_47_lfii_qi_i
  rw [hg, X.opt_some, X.bind_ok]
  have gl : gv.length ≤ 100 := by
    rw [hp.length_eq]
    have := rowRaw_len net.2 x
    have := h.few
    omega
  rw [compP_map (fun a => a.2 * pl (webOf net) r.reverse (un a.1) t) gv (by omega) fun a ha => by
    obtain ⟨b0, b1, b2, b3, b4⟩ := rowRaw_mem h (hp.mem_iff.mp ha)
    unfold s__law_claim_47_lfii_qi_i_c1
    rw [cl_at r t ⟨b0, b1⟩, X.opt_some, X.bind_ok, mulI_l (by omega)]
    rfl]
  rw [nox_okE, X.bind_ok, cl_at r t hx, X.opt_some, X.bind_ok, cl_step h hr ht hx hp]
  have hl : x < ((clV net r t).length : Int) := by
    rw [cl_len]
    have := hx.2
    have : x < net.1 := this
    omega
  rw [setL_nat hx.1 hl, X.opt_some, X.bind_ok]
  congr 1
  refine List.ext_getElem? fun k => ?_
  rw [List.getElem?_set]
  by_cases hk : k < net.1.toNat
  · have hin : (webOf net).In (k : Int) := ⟨by omega, by show (k : Int) < net.1; omega⟩
    have g := cl_at (net := net) (r ++ [x]) t hin
    rw [ixL_nat hin.1, Int.toNat_natCast] at g
    rw [g]
    by_cases hkx : x.toNat = k
    · have e : (k : Int) = x := by have := hx.1; omega
      rw [if_pos hkx, if_pos (by rw [cl_len]; omega), e]
    · rw [if_neg hkx]
      have g2 := cl_at (net := net) r t hin
      rw [ixL_nat hin.1, Int.toNat_natCast] at g2
      rw [g2, List.reverse_append]
      congr 1
      show _ = pl (webOf net) (x :: r.reverse) (un k) t
      rw [pl_cons, tn_un (by have := hx.1; omega)]
  · rw [if_neg (by have := hx.1; have : x < net.1 := hx.2; omega), List.getElem?_eq_none (by rw [cl_len]; omega), List.getElem?_eq_none (by rw [cl_len]; omega)]
theorem claim_lg {net : NetT} (h : Drawn net) {r : List Int} (hr : RowOk net r) {t x : Int} (ht : (webOf net).In t) (hx : (webOf net).In x) : s__law_claim_47_lfii_qi_i (lgV net) (clV net r t) x = .ok (clV net (r ++ [x]) t) :=
  claim_ok h hr ht hx (lg_at hx.1 hx.2) (List.Perm.refl _)
/-! ### the least -/
theorem ext_foldl : ∀ (xs : List Int) (m : Int), (xs.foldl (fun a y => if decide (y < a) = true then y else a) m ≤ m) ∧ (∀ y ∈ xs, xs.foldl (fun a y => if decide (y < a) = true then y else a) m ≤ y) ∧ (xs.foldl (fun a y => if decide (y < a) = true then y else a) m = m ∨ xs.foldl (fun a y => if decide (y < a) = true then y else a) m ∈ xs)
  | [], m => ⟨Int.le_refl _, (fun y hy => by cases hy), .inl rfl⟩
  | x :: xs, m => by
    rw [List.foldl_cons]
    by_cases hx : x < m
    · rw [if_pos (decide_eq_true hx)]
      obtain ⟨h1, h2, h3⟩ := ext_foldl xs x
      refine ⟨by omega, fun y hy => ?_, ?_⟩
      · rcases List.mem_cons.mp hy with rfl | hy
        · exact h1
        · exact h2 y hy
      · rcases h3 with h3 | h3
        · exact .inr (by rw [h3]; exact List.mem_cons_self)
        · exact .inr (List.mem_cons_of_mem _ h3)
    · rw [if_neg (by simpa using hx)]
      obtain ⟨h1, h2, h3⟩ := ext_foldl xs m
      refine ⟨h1, fun y hy => ?_, ?_⟩
      · rcases List.mem_cons.mp hy with rfl | hy
        · omega
        · exact h2 y hy
      · rcases h3 with h3 | h3
        · exact .inl h3
        · exact .inr (List.mem_cons_of_mem _ h3)
theorem minI_neg {xs : List Int} (h : xs ≠ []) : ∃ m, minI xs = some m ∧ (m < 0 ↔ ∃ y ∈ xs, y < 0) := by
  cases xs with
  | nil => exact absurd rfl h
  | cons x xs =>
    obtain ⟨h1, h2, h3⟩ := ext_foldl xs x
    refine ⟨xs.foldl (fun a y => if decide (y < a) = true then y else a) x, rfl, ?_⟩
    constructor
    · intro hm
      rcases h3 with h3 | h3
      · exact ⟨x, List.mem_cons_self, by rw [← h3]; exact hm⟩
      · exact ⟨_, List.mem_cons_of_mem _ h3, hm⟩
    · rintro ⟨y, hy, hn⟩
      rcases List.mem_cons.mp hy with rfl | hy
      · omega
      · have := h2 y hy
        omega
/-- some claim below 0: in debt behind the row -/
theorem neg_claim {net : NetT} (h : Drawn net) {r : List Int} (hr : RowOk net r) {t : Int} (ht : (webOf net).In t) : (∃ y ∈ clV net r t, y < 0) ↔ fnP net (aheadV net r) t < 0 := by
  have ok := web_ok h
  have hv : Row (webOf net) r.reverse := Row.rev (row_web.mp hr)
  rw [fn_ahead h hr]
  have z := pl_congr hv (fun j hj => fn_ones (net := net) hj) t ht
  rw [show (fun j : Int => (1 : Int)) = fun _ => 1 from rfl] at *
  have nu : ∀ j, NonN (webOf net) (un j) := fun j i _ => by unfold un; split <;> decide
  constructor
  · rintro ⟨y, hy, hn⟩
    obtain ⟨j, hj, rfl⟩ := List.mem_map.mp hy
    rcases sides ok hv ht with ⟨_, h2⟩ | ⟨h1, _⟩
    · have := h2 _ (nu j)
      omega
    · exact h1 _ (pos_ones (net := net))
  · intro hn
    apply Classical.byContradiction
    intro hno
    have pos : ∀ j, (webOf net).In j → 0 ≤ pl (webOf net) r.reverse (un j) t := fun j hj => by
      apply Classical.byContradiction
      intro hc
      exact hno ⟨_, List.mem_map.mpr ⟨j, mem_rangeI.mpr hj, rfl⟩, by omega⟩
    rcases sides ok hv ht with ⟨h1, _⟩ | ⟨h1, h2⟩
    · have := h1 _ (pos_ones (net := net))
      omega
    · have zero : ∀ j, (webOf net).In j → pl (webOf net) r.reverse (un j) t = 0 * un j t := fun j hj => by
        have a1 := h2 _ (nu j)
        have a2 := pos j hj
        omega
      have := fun_units ok hv ht ht zero (fnP net (onesL net))
      omega
/-- debts, town by town -/
theorem debts_rng {net : NetT} {p : List Int} (hp : PurseOk net p) : debtsV p = (rangeI 0 net.1).filter fun t => decide (fnP net p t < 0) := by
  have hl := hp.len
  have e : enumL 0 p = (rangeI 0 net.1).map fun t => (t, fnP net p t) := by
    refine List.ext_getElem? fun k => ?_
    rw [enum_get, List.getElem?_map]
    by_cases hk : k < p.length
    · have g := rng_get (m := net.1) (j := (k : Int)) (by omega) (by omega)
      rw [Int.toNat_natCast] at g
      rw [g, List.getElem?_eq_getElem hk]
      simp only [Option.map_some, Nat.zero_add]
      rw [fnP_in ⟨by omega, by show (k : Int) < net.1; omega⟩, Int.toNat_natCast, List.getElem?_eq_getElem hk]
      rfl
    · rw [List.getElem?_eq_none (by omega), List.getElem?_eq_none (by rw [length_rangeI]; omega)]
      rfl
  unfold debtsV
  rw [e, List.filter_map, List.map_map]
  exact List.map_id'' (fun _ => rfl) _
/-- the law's begins -/
theorem lbegins_ok {net : NetT} (h : Drawn net) {r : List Int} (hr : RowOk net r) : s__law_begins_27_lfii_qi (lgV net) r = .ok (debtsV (aheadV net r)) := by
  have m1 := h.m1
  have m6 := h.m6
  have lg := line_ge
  unfold s__law_begins_27_lfii_qi
  rw [lg_leni h, rng_ok (by omega) (by omega) (by omega) (by omega), X.opt_some, X.bind_ok, debts_rng (purse_ahead h r)]
  have main := Gets.fold (f := s__law_begins_27_lfii_qi_l2 (lgV net) r) (I := fun done s => s = done.filter fun t => decide (fnP net (aheadV net r) t < 0)) (rangeI 0 net.1) [] [] rfl fun l t q e s hs => by
    simp only [List.nil_append] at e
    have ht : (webOf net).In t := mem_rangeI.mp (by show t ∈ rangeI 0 net.1; rw [e]; simp)
    have hll : l.length < 10 := by
      have := congrArg List.length e
      rw [length_rangeI] at this
      simp only [List.length_append, List.length_cons] at this
      omega
    have hsl : s.length ≤ l.length := by rw [hs]; exact List.length_filter_le _ _
    unfold s__law_begins_27_lfii_qi_l2
    rw [lg_leni h, lunit_ok h, X.bind_ok, ← cl_nil]
    have fl : ∀ (u v : List Int), RowOk net u → RowOk net v → foldX (s__law_begins_27_lfii_qi_l1 (lgV net) s) v (clV net u t) = .ok (clV net (u ++ v) t) := by
      intro u v
      induction v generalizing u with
      | nil => intro _ _; rw [List.append_nil]; rfl
      | cons x v ih =>
        intro hu hv
        have hx : (webOf net).In x := hv x List.mem_cons_self
        unfold foldX
        have e1 : s__law_begins_27_lfii_qi_l1 (lgV net) s x (clV net u t) = .ok (clV net (u ++ [x]) t) := by
          unfold s__law_begins_27_lfii_qi_l1
          rw [claim_lg h hu ht hx]
          rfl
        rw [e1, X.bind_ok, ih (u ++ [x]) (row_app hu (Row.one (W := webOf net) hx)) fun y hy => hv y (List.mem_cons_of_mem _ hy)]
        rw [List.append_assoc]
        rfl
    rw [fl [] r (fun x hx => by cases hx) hr, X.bind_ok, List.nil_append]
    have ne : clV net r t ≠ [] := fun z => by
      have := congrArg List.length z
      rw [cl_len] at this
      simp only [List.length_nil] at this
      omega
    obtain ⟨m, em, hm⟩ := minI_neg ne
    rw [em, X.opt_some, X.bind_ok]
    rw [neg_claim h hr ht] at hm
    by_cases hn : m < 0
    · have p1 : (X.push s t : X Unit _) = .ok (s ++ [t]) := if_pos (by omega)
      rw [if_pos (decide_eq_true hn), p1, X.bind_ok]
      refine Gets.ok ?_
      rw [List.filter_append, hs]
      simp [hm.mp hn]
    · rw [if_neg (by simpa using hn)]
      refine Gets.ok ?_
      rw [List.filter_append, hs]
      have : ¬ fnP net (aheadV net r) t < 0 := fun z => hn (hm.mpr z)
      simp [this]
  obtain ⟨s, e, hs⟩ := main
  rw [e, X.bind_ok, hs]
  rfl
end Q

/-! MR: turns left out, the least of the shortest rows by them. -/
namespace Q
open PySem
/-- where a town's claim is the turn's town -/
noncomputable def placeV (net : NetT) (t : Int) : List Int → List Int → Option Int
  | _, [] => none
  | u, x :: v => if clV net u t = unitV net x then some (u.length : Int) else placeV net t (u ++ [x]) v
theorem place_loop {net : NetT} (h : Drawn net) {t : Int} (ht : (webOf net).In t) {f : Int × Int → List Int → X Unit (Lp Int (List Int))} (hf : ∀ u, RowOk net u → ∀ a : Int × Int, (webOf net).In a.2 → f a (clV net u t) = .ok (if clV net u t = unitV net a.2 then .rt a.1 (clV net u t) else .nx (clV net (u ++ [a.2]) t))) : ∀ (v u : List Int), RowOk net u → RowOk net v → ∃ s, loopX f (enumL u.length v) (clV net u t) = .ok (match placeV net t u v with | none => .nx s | some k => .rt k s)
  | [], u, _, _ => ⟨_, rfl⟩
  | x :: v, u, hu, hv => by
    have hx : (webOf net).In x := hv x List.mem_cons_self
    show ∃ s, loopX f ((((u.length : Nat) : Int), x) :: enumL (u.length + 1) v) (clV net u t) = _
    unfold loopX placeV
    rw [hf u hu _ hx, X.bind_ok]
    by_cases hc : clV net u t = unitV net x
    · rw [if_pos hc, if_pos hc]
      exact ⟨_, rfl⟩
    · rw [if_neg hc, if_neg hc]
      have := place_loop h ht hf v (u ++ [x]) (row_app hu (Row.one (W := webOf net) hx)) fun y hy => hv y (List.mem_cons_of_mem _ hy)
      rw [List.length_append] at this
      exact this
theorem unit_claim {net : NetT} (h : Drawn net) {r : List Int} (hr : RowOk net r) {t x : Int} (ht : (webOf net).In t) (hx : (webOf net).In x) : clV net r t = unitV net x ↔ ∀ p, pl (webOf net) r.reverse p t = p x := by
  rw [← cl_nil, cl_eq]
  constructor
  · intro e p
    have := fun_units (web_ok h) (Row.rev (row_web.mp hr)) ht hx (a := 1) (fun j hj => by rw [e j hj, Int.one_mul]; rfl) p
    rw [this, Int.one_mul]
  · intro e j _
    exact e (un j)
theorem place_some {net : NetT} {t k : Int} : ∀ (v u : List Int), placeV net t u v = some k → ∃ r x rest, v = r ++ x :: rest ∧ k = ((u ++ r).length : Int) ∧ clV net (u ++ r) t = unitV net x
  | [], _, e => by cases e
  | x :: v, u, e => by
    unfold placeV at e
    by_cases hc : clV net u t = unitV net x
    · rw [if_pos hc] at e
      cases e
      exact ⟨[], x, v, rfl, by rw [List.append_nil], by rw [List.append_nil]; exact hc⟩
    · rw [if_neg hc] at e
      obtain ⟨r, y, rest, e1, e2, e3⟩ := place_some v (u ++ [x]) e
      refine ⟨x :: r, y, rest, by rw [e1]; rfl, ?_, ?_⟩
      · rw [e2]; simp
      · rw [← e3]; simp
theorem place_none {net : NetT} {t : Int} : ∀ (v u : List Int), placeV net t u v = none → ∀ r x rest, v = r ++ x :: rest → clV net (u ++ r) t ≠ unitV net x
  | [], u, _, r, x, rest, e => by
    have := congrArg List.length e
    simp at this
  | y :: v, u, e, r, x, rest, ev => by
    unfold placeV at e
    by_cases hc : clV net u t = unitV net y
    · rw [if_pos hc] at e
      cases e
    · rw [if_neg hc] at e
      cases r with
      | nil =>
        simp only [List.nil_append, List.cons.injEq] at ev
        rw [List.append_nil, ← ev.1]
        exact hc
      | cons z r =>
        simp only [List.cons_append, List.cons.injEq] at ev
        have := place_none v (u ++ [y]) e r x rest ev.2
        rw [← ev.1]
        simpa using this
theorem place_ok {net : NetT} (h : Drawn net) {row : List Int} (hr : RowOk net row) {t : Int} (ht : (webOf net).In t) : s__law_place_206_lfii_qi_i (lgV net) row t = .ok (placeV net t [] row) := by
  unfold s__law_place_206_lfii_qi_i
  rw [lg_leni h, lunit_ok h, X.bind_ok, ← cl_nil]
  obtain ⟨s, e⟩ := place_loop h ht (f := s__law_place_206_lfii_qi_i_l1 (lgV net)) (fun u hu a ha => by
    unfold s__law_place_206_lfii_qi_i_l1
    rw [lg_leni h, lunit_ok h, X.bind_ok]
    by_cases hc : clV net u t = unitV net a.2
    · rw [if_pos (decide_eq_true hc), if_pos hc]
    · rw [if_neg (by simpa using hc), if_neg hc, claim_lg h hu ht ha]
      rfl) row [] (fun x hx => by cases hx) hr
  have e2 : (([] : List Int).length) = 0 := rfl
  rw [e2] at e
  rw [e, X.bind_ok]
  cases placeV net t [] row <;> rfl
/-- the row without a turn that goes for one of the town ahead -/
theorem place_same {net : NetT} (h : Drawn net) {row : List Int} (hr : RowOk net row) {t k : Int} (ht : (webOf net).In t) (hk : placeV net t [] row = some k) : ∃ r x rest, row = r ++ x :: rest ∧ k = (r.length : Int) ∧ SameN net row (t :: (r ++ rest)) ∧ RowOk net (r ++ rest) := by
  obtain ⟨r, x, rest, e1, e2, e3⟩ := place_some row [] hk
  rw [List.nil_append] at e2 e3
  subst e1
  have hr1 : RowOk net r := Row.left (W := webOf net) hr
  have hr2 : RowOk net (x :: rest) := Row.right (W := webOf net) hr
  have hx : (webOf net).In x := hr2 x List.mem_cons_self
  have hr3 : RowOk net rest := fun y hy => hr2 y (List.mem_cons_of_mem _ hy)
  refine ⟨r, x, rest, rfl, e2, ?_, row_app hr1 hr3⟩
  have s1 := refl_same (web_ok h) (row_web.mp hr1) ht hx ((unit_claim h hr1 ht hx).mp e3)
  have s2 := ((Same.refl (W := webOf net) [t]).app (s1.app (Same.refl (W := webOf net) rest))).symm
  have s3 := (same_two (W := webOf net) t).app (Same.refl (W := webOf net) (r ++ [x] ++ rest))
  have e4 : [t] ++ (t :: (r ++ [x]) ++ rest) = [t, t] ++ (r ++ [x] ++ rest) := by simp
  have e5 : r ++ x :: rest = [] ++ (r ++ [x] ++ rest) := by simp
  rw [e4] at s2
  rw [e5]
  exact (s2.trans s3).symm
theorem place_ex {net : NetT} (h : Drawn net) {row : List Int} (hr : RowOk net row) {t : Int} (ht : (webOf net).In t) (hn : fnP net (aheadV net row) t < 0) : ∃ k, placeV net t [] row = some k := by
  cases e : placeV net t [] row with
  | some k => exact ⟨k, rfl⟩
  | none =>
    exfalso
    rw [fn_ahead h hr] at hn
    have hv : Row (webOf net) row.reverse := Row.rev (row_web.mp hr)
    rcases sides (web_ok h) hv ht with ⟨h1, _⟩ | ⟨h1, _⟩
    · have := h1 _ (pos_ones (net := net))
      omega
    · obtain ⟨r, x, rest, e1, hp⟩ := ex_place (web_ok h) ht row.length row rfl (row_web.mp hr) h1
      have hr1 : RowOk net r := fun y hy => hr y (by rw [e1]; exact List.mem_append.mpr (.inl hy))
      have hx : (webOf net).In x := hr x (by rw [e1]; simp)
      have := place_none row [] e r x rest e1
      rw [List.nil_append] at this
      exact this ((unit_claim h hr1 ht hx).mpr hp)
/-! ### the least row, turn by turn -/
theorem ahead_cons {net : NetT} (t : Int) (row : List Int) : aheadV net (t :: row) = turnV net.2 (aheadV net row) t := by
  unfold aheadV playV
  rw [List.reverse_cons, List.foldl_append]
  rfl
theorem sh_cons {net : NetT} (h : Drawn net) {row : List Int} (hr : RowOk net row) (hl : row.length ≤ 800) {t : Int} {ts : List Int} (hd : debtsV (aheadV net row) = t :: ts) : shV net row = t :: shV net (t :: row) := by
  have ht : (webOf net).In t := ((mem_debts (purse_ahead h row)).mp (by rw [hd]; exact List.mem_cons_self : t ∈ debtsV (aheadV net row))).1
  have hr2 : RowOk net (t :: row) := row_app (r := [t]) (Row.one (W := webOf net) ht) hr
  obtain ⟨n, hn, e, _⟩ := sh_gr h hr2 (by simp; omega)
  unfold shV
  rw [gr_cons hd, ← ahead_cons, e 999 (by simp at hn; omega), e 1000 (by simp at hn; omega)]
theorem lnormal_ok {net : NetT} (h : Drawn net) {row : List Int} (hr : RowOk net row) (hl : row.length ≤ 800) : s__law_normal_180_lfii_qi (lgV net) row = .ok (shV net row) := by
  have lg := line_ge
  have key : ∀ (n : Nat) (row found : List Int), row.length = n → RowOk net row → found.length + n ≤ 800 → ∃ row', whileX (s__law_normal_180_lfii_qi_l1 (lgV net)) (row, found, debtsV (aheadV net row)) = .ok (.nx (row', found ++ shV net row, [])) := by
    intro n
    induction n with
    | zero =>
      intro row found hn hr hl
      have : row = [] := List.length_eq_zero_iff.mp hn
      subst this
      have hd : debtsV (aheadV net []) = [] := (begins_nil h hr (by simp)).mpr (by
        have := (sh_v h hr (by simp)).2.2.2
        exact List.length_eq_zero_iff.mp (by simpa using this))
      refine ⟨[], ?_⟩
      have st : s__law_normal_180_lfii_qi_l1 (lgV net) ([], found, debtsV (aheadV net [])) = .ok (.bk ([], found, [])) := by
        unfold s__law_normal_180_lfii_qi_l1
        simp only [hd, decide_true, Bool.not_true, Bool.false_eq_true, if_false]
      rw [whileX_step, st, (begins_nil h hr (by simp)).mp hd, List.append_nil]
      rfl
    | succ n ih =>
      intro row found hn hr hl
      cases hd : debtsV (aheadV net row) with
      | nil =>
        refine ⟨row, ?_⟩
        have st : s__law_normal_180_lfii_qi_l1 (lgV net) (row, found, []) = .ok (.bk (row, found, [])) := rfl
        rw [whileX_step, st, (begins_nil h hr (by omega)).mp hd, List.append_nil]
        rfl
      | cons t ts =>
        obtain ⟨ht, hneg⟩ := (mem_debts (purse_ahead h row)).mp (by rw [hd]; exact List.mem_cons_self : t ∈ debtsV (aheadV net row))
        obtain ⟨k, hk⟩ := place_ex h hr ht hneg
        obtain ⟨r, x, rest, e1, e2, sm, hr'⟩ := place_same h hr ht hk
        have hl' : (r ++ rest).length = n := by
          have := congrArg List.length e1
          simp only [List.length_append, List.length_cons] at this ⊢
          omega
        obtain ⟨row', e⟩ := ih (r ++ rest) (found ++ [t]) hl' hr' (by simp; omega)
        refine ⟨row', ?_⟩
        have q0 : ixL (t :: ts) 0 = some t := by rw [ixL_nat (by decide)]; rfl
        have q1 : (X.addL found [t] : X Unit _) = .ok (found ++ [t]) := if_pos (by simp only [List.length_cons, List.length_nil]; omega)
        have q2 : cutL row none (some k) = r := by rw [kutLo (by omega), e2, e1]; simp
        have q3 : cutL row (some (k + 1)) none = rest := by
          rw [kutHi (by omega), e2, e1]
          have : ((r.length : Int) + 1).toNat = (r ++ [x]).length := by simp <;> omega
          rw [this, show r ++ x :: rest = (r ++ [x]) ++ rest by simp, List.drop_left]
        have q4 : (X.addL r rest : X Unit _) = .ok (r ++ rest) := if_pos (by rw [← List.length_append]; omega)
        have st : s__law_normal_180_lfii_qi_l1 (lgV net) (row, found, t :: ts) = .ok (.nx (r ++ rest, found ++ [t], debtsV (aheadV net (r ++ rest)))) := by
          unfold s__law_normal_180_lfii_qi_l1
          simp only [q0, X.opt_some, X.bind_ok, place_ok h hr ht, hk, oc_some, q1, q2, q3, q4, lbegins_ok h hr', List.cons_ne_nil, decide_false, Bool.not_false, if_true]
        rw [whileX_step, st, X.bind_ok]
        simp only
        rw [e, sh_cons h hr (by omega) hd]
        have s4 : SameN net (t :: row) (r ++ rest) := by
          have s1 := (Same.refl (W := webOf net) [t]).app sm
          have s2 := (same_two (W := webOf net) t).app (Same.refl (W := webOf net) (r ++ rest))
          exact s1.trans s2
        have hrt : RowOk net (t :: row) := row_app (r := [t]) (Row.one (W := webOf net) ht) hr
        rw [sh_cong h hrt hr' s4, List.append_assoc]
        rfl
  unfold s__law_normal_180_lfii_qi
  rw [lbegins_ok h hr, X.bind_ok]
  obtain ⟨row', e⟩ := key row.length row [] rfl hr (by simpa using hl)
  rw [e]
  rfl
end Q

/-! L35: the plain law. -/
namespace Q
open PySem
theorem shorter_b {net : NetT} (h : Drawn net) {r : List Int} (hr : RowOk net r) (hl : r.length ≤ 100) : (rangeI 0 net.1).filter (fun a => decide (((shV net (a :: r)).length : Int) < ((shV net r).length : Int))) = debtsV (aheadV net r) := by
  rw [debts_rng (purse_ahead h r)]
  refine List.filter_congr fun a ha => ?_
  have hin : (webOf net).In a := mem_rangeI.mp ha
  have hr2 : RowOk net (a :: r) := row_app (r := [a]) (Row.one (W := webOf net) hin) hr
  have h1 := sh_len h hr (by omega)
  have h2 := sh_len h hr2 (by simp; omega)
  have h3 := begins_mem h hr hin h1
  have h4 := h2.uniq h3.1
  have h5 := h3.2
  have h6 := mem_debts (purse_ahead h r) (t := a)
  by_cases hm : a ∈ debtsV (aheadV net r)
  · rw [if_pos hm] at h4
    have := h5 hm
    rw [decide_eq_true (h6.mp hm).2, decide_eq_true (by omega)]
  · rw [if_neg hm] at h4
    rw [decide_eq_false (fun z => hm (h6.mpr ⟨hin, z⟩)), decide_eq_false (by omega)]
theorem shorter_e {net : NetT} (h : Drawn net) {r : List Int} (hr : RowOk net r) (hl : r.length ≤ 100) : (rangeI 0 net.1).filter (fun a => decide (((shV net (r ++ [a])).length : Int) < ((shV net r).length : Int))) = debtsV (aheadV net r.reverse) := by
  rw [debts_rng (purse_ahead h r.reverse)]
  refine List.filter_congr fun a ha => ?_
  have hin : (webOf net).In a := mem_rangeI.mp ha
  have hr2 : RowOk net (r ++ [a]) := row_app hr (Row.one (W := webOf net) hin)
  have h1 := sh_len h hr (by omega)
  have h2 := sh_len h hr2 (by simp; omega)
  have h3 := stops_mem h hr hin h1
  have h4 := h2.uniq h3.1
  have h5 := h3.2
  have h6 := mem_debts (purse_ahead h r.reverse) (t := a)
  by_cases hm : a ∈ debtsV (aheadV net r.reverse)
  · rw [if_pos hm] at h4
    have := h5 hm
    rw [decide_eq_true (h6.mp hm).2, decide_eq_true (by omega)]
  · rw [if_neg hm] at h4
    rw [decide_eq_false (fun z => hm (h6.mpr ⟨hin, z⟩)), decide_eq_false (by omega)]
theorem rpr_net_row {net : NetT} (hd : Drawn net) {r : List Int} (hr : RowOk net r) (hl : r.length ≤ 900) : ∃ s, rpr (e2 (e2 D.int (eTup (e4 D.int D.int D.int D.int))) (eTup D.int)) (net, r) = some s :=
  ⟨_, rpr_ok (shows_e2 (p := (net, r)) (shows_net hd) (shows_row hd hr)) (by simp only; omega)⟩
theorem row_debts {net : NetT} (h : Drawn net) (r : List Int) : RowOk net (debtsV (aheadV net r)) := fun x hx => ((mem_debts (purse_ahead h r)).mp hx).1
theorem debts_few {net : NetT} (h : Drawn net) (r : List Int) : (debtsV (aheadV net r)).length ≤ 6 := by
  rw [debts_rng (purse_ahead h r)]
  refine Nat.le_trans (List.length_filter_le _ _) ?_
  rw [length_rangeI]
  have := h.m6
  omega
theorem one35 {net : NetT} (h : Drawn net) {o : List Int} (ho : RowOk net o) (l2 : o.length ≤ 90) (pn : Pen) : s_law_465_x_l4 net (lgV net) pn o () = .ok (.nx ()) := by
  have lg := line_ge
  have m1 := h.m1
  have m6 := h.m6
  unfold s_law_465_x_l4
  obtain ⟨s, es⟩ := rpr_net_row h ho (by omega)
  rw [lnormal_ok h ho (by omega), X.bind_ok, rngS_ok (by omega) (by omega), X.opt_some, X.bind_ok, es, X.opt_some, X.bind_ok]
  rw [compP_filter (f := s_law_465_x_c1 o (lgV net) ((shV net o).length : Int) pn) (fun a => decide (((shV net (a :: o)).length : Int) < ((shV net o).length : Int))) (fun a => a) (rangeI 0 net.1) [] (by rw [length_rangeI]; simp only [List.length_nil]; omega) fun a ha => by
    have hin : (webOf net).In a := mem_rangeI.mp ha
    have hr2 : RowOk net (a :: o) := row_app (r := [a]) (Row.one (W := webOf net) hin) ho
    unfold s_law_465_x_c1
    rw [addY (by simp; omega), X.bind_ok]
    show (s__law_normal_180_lfii_qi (lgV net) (a :: o)).bind _ = _
    rw [lnormal_ok h hr2 (by simp; omega), X.bind_ok]
    split <;> rfl]
  rw [compP_filter (f := s_law_465_x_c2 o (lgV net) ((shV net o).length : Int) pn) (fun a => decide (((shV net (o ++ [a])).length : Int) < ((shV net o).length : Int))) (fun a => a) (rangeI 0 net.1) [] (by rw [length_rangeI]; simp only [List.length_nil]; omega) fun a ha => by
    have hin : (webOf net).In a := mem_rangeI.mp ha
    have hr2 : RowOk net (o ++ [a]) := row_app ho (Row.one (W := webOf net) hin)
    unfold s_law_465_x_c2
    rw [addY (by simp; omega), X.bind_ok, lnormal_ok h hr2 (by simp; omega), X.bind_ok]
    split <;> rfl]
  rw [List.map_id'' (fun _ => rfl), List.map_id'' (fun _ => rfl), List.nil_append, List.nil_append, shorter_b h ho (by omega), shorter_e h ho (by omega)]
  rw [nox_okE, X.bind_ok, nox_okE, X.bind_ok, rng_ok (by decide) (by decide) (by decide) (by decide), X.opt_some, X.bind_ok]
  have e4 : ∃ q, rpr (eLst (eTup D.int)) [debtsV (aheadV net o), debtsV (aheadV net o.reverse)] = some q := ⟨_, rpr_ok (shows_lst (k := 13) fun x hx => by
    simp only [List.mem_cons, List.not_mem_nil, or_false] at hx
    rcases hx with rfl | rfl
    · exact (shows_row h (row_debts h o)).mono (by have := debts_few h o; omega)
    · exact (shows_row h (row_debts h o.reverse)).mono (by have := debts_few h o.reverse; omega)) (by simp)⟩
  obtain ⟨q, eq⟩ := e4
  rw [loopX_all () (rangeI 0 2) fun a _ => by
    unfold s_law_465_x_l3
    rw [begins_ok h ho (by omega), X.bind_ok, stops_ok h ho (by omega), X.bind_ok, eq]
    simp]
  simp [es]
theorem two_of {b : Int} (hb : b ∈ rangeI 0 2) (x y : List Int) : ∃ z, ixL [x, y] b = some z ∧ (z = x ∨ z = y) := by
  rw [mem_rangeI] at hb
  have : b = 0 ∨ b = 1 := by omega
  rcases this with rfl | rfl
  · exact ⟨x, by rw [ixL_nat (by decide)]; rfl, .inl rfl⟩
  · exact ⟨y, by rw [ixL_nat (by decide)]; rfl, .inr rfl⟩
theorem law_plain (ns : List Int) : s_law_465_x ns = .ok true := by
  unfold s_law_465_x
  refine law_top (c := 3) (by decide) (by decide) fun a ha => ?_
  unfold s_law_465_x_l16
  refine (cell2_gets ns ha).bind fun c _ => (pen2_gets c).bind fun pn hpn => ?_
  rw [rng_ok (by decide) (by decide) (by decide) (by decide), X.opt_some, X.bind_ok]
  refine law_pens2 300 (by decide) hpn (by rw [length_rangeI]; decide) fun b hb s c hc h0 h1 => ?_
  unfold s_law_465_x_l8
  refine (net2_gets s hc (by omega) (most := 5) (by decide) (by decide)).out.bind fun v1 hv1 => ?_
  have hd := hv1.1
  have m1 := hd.m1
  have m6 := hd.m6
  rw [lg96_ok hd, X.bind_ok]
  refine (row2_gets v1.2 hv1.2.2 (by omega) hd (most := 12) (by decide) (by decide)).out.bind fun v3 hv3 => ?_
  refine (draw2_gets v3.2 hv3.2.2 (by omega) (by omega) (by omega)).out.bind fun v4 hv4 => ?_
  refine (draw2_gets v4.2 hv4.2 (by omega) (by omega) (by omega)).out.bind fun v5 hv5 => ?_
  refine (row2_gets v5.2 hv5.2 (by omega) hd (most := 14) (by decide) (by decide)).out.bind fun v6 hv6 => ?_
  rw [addY (by omega), X.bind_ok, addY (by simp; omega), X.bind_ok]
  refine (row2_gets v6.2 hv6.2.2 (by omega) hd (most := 40) (by decide) (by decide)).out.bind fun v9 hv9 => ?_
  obtain ⟨z, ez, hz⟩ := two_of hb (v3.1 ++ v6.1 ++ v6.1.reverse) v9.1
  rw [ez, X.opt_some, X.bind_ok, kutLo hv4.1.1, kutHi hv4.1.1]
  generalize hi : v4.1.toNat = i
  have ht := row_take hv3.1 i
  have hdr := row_drop hv3.1 i
  have l12 : (v3.1.take i).length + (v3.1.drop i).length ≤ 40 := by rw [List.length_take, List.length_drop]; omega
  rw [addY (by simp; omega), X.bind_ok, addY (by simp; omega), X.bind_ok, lnormal_ok hd hv3.1 (by omega), X.bind_ok, addY (by simp), X.bind_ok]
  obtain ⟨rs, _, _, ls⟩ := sh_v hd hv3.1 (by omega)
  rw [loopX_all () _ fun o ho => by
    have rv2 := row_two hv5.1
    have hoo : RowOk v1.1 o ∧ o.length ≤ 90 := by
      simp only [List.cons_append, List.nil_append, List.mem_cons, List.not_mem_nil, or_false] at ho
      rcases ho with rfl | rfl | rfl | rfl | rfl | rfl
      · exact ⟨hv3.1, by omega⟩
      · exact ⟨row_app (row_app ht rv2) hdr, by simp; omega⟩
      · exact ⟨row_rev hv3.1, by simp; omega⟩
      · exact ⟨fun x hx => (by cases hx), by simp⟩
      · exact ⟨rs, by omega⟩
      · rcases hz with rfl | rfl
        · exact ⟨row_app (row_app hv3.1 hv6.1) (row_rev hv6.1), by simp; omega⟩
        · exact ⟨hv9.1, by omega⟩
    exact one35 hd hoo.1 hoo.2 v9.2]
  exact Gets.ok ⟨_, rfl, hv9.2.2.mono (by omega)⟩
end Q

namespace Q
open PySem PySem.Spec PyProof.Rows L2
theorem lw_ok : lw.okB = true := by decide +kernel
def loose : List PySem.Str := (["ReliefError", "NoNet", "NoRow", "MOST_TOWNS", "MOST_GIVEN", "is_whole", "is_among", "are_some", "is_street", "hang_together", "is_net", "need_net", "gives_of", "turned_by", "played_by", "is_row_by", "need_row_by", "debts_of", "need_row", "ahead_by", "begins", "stops", "_law_cell", "_law_pen", "_law_draw", "_law_pick", "_law_net", "_law_row", "_law_gives", "_law_unit"] : List PySem.Str) ++ (["_law_claim", "_law_begins", "_law_place", "_law_normal"] : List PySem.Str)
abbrev Rw : PySem.W.OpenRow := PySem.W.OpenLaw.row PySem.Challenge.rw_relieftowns_k35_where_shortest_rows_begi
abbrev hk : PySem.W.Hook := He.hookD 4 lw.fa lw.fn
def ob (s : PySem.W.SharedT) : He.AlD := He.obsDG 4 lw.fa lw.fn (HandSHeadRun.getT s)
theorem ob_eq (s : PySem.W.SharedT) : ob s = hk.obs s.abs := He.obsDG_eq (HandSHeadRun.getT_eq s)
theorem run (w : World) : HandSHeadRun.RunEq Rw (PySem.W.view Rw.prog [39]) hk ob 8000 loose w := by
  intro os
  kernel_rfl

theorem law_spec (ns : List Int) (hn : ns.length ≤ 63) : ∃ h, runF lw.T 40 465 [.scr ns] [] = .ok (.bl true) h := by
  have h1 := c_law_465_x [] 32 ns
  rw [law_plain ns] at h1
  exact ⟨[], h1⟩
end Q
open PySem PySem.W PySem.Calls PyProof.Rows in
theorem PySem.Challenge.cw_relieftowns_k35_where_shortest_rows_begi_holds : PySem.Challenge.rw_relieftowns_k35_where_shortest_rows_begi.Holds := by
  w_on; o_law
  refine HandSHeadRun.head_any (r := Q.Rw) (q := view Q.Rw.prog [39]) (H := Q.hk) (ob := Q.ob) (M := 8000) (loose := Q.loose) (d := HandSHeadRun.topDef Q.Rw.prog 39) (kwd := []) Q.ob_eq
    (by kernel_rfl) (fun s => by kernel_rfl) Q.run (by kernel_rfl) (by kernel_rfl) (by kernel_rfl) (by rfl) (by first | assumption | decide +kernel) (by decide +kernel) ⟨rfl, rfl, rfl, rfl, rfl, by decide +kernel⟩ ?hw ?hc
  case hw => w_witness2
  case hc => exact Q.walk_q (l := PySem.Challenge.rw_relieftowns_k35_where_shortest_rows_begi) (k := 40) (i := 465) (L := Q.lw) rfl (by decide) (by kernel_rfl) ⟨rfl, by decide, by decide⟩ Q.lw_ok (by rfl) (by kernel_rfl) rfl fun ns hn => Q.law_spec ns hn

