import PyProof.Rows.All
import PySem.PyData
import Wide.All
import OpenK.AllK
import Wide.FinOn
import HandS.Base
import HandS.Call
import HandS.List
import HandS.TupAny
import HandS.TupMul
import HandS.Comp
import HandS.Ends
import HandS.Dict
import HandS.Iter
import HandS.Walk
import HandS.Exc
import HandS.CallSlots
import HandS.IsInst
import HandS.More
import HandS.Words
import HandS.WordsList
import HandS.WordsDict
import HandS.WordsExc
import HandS.Deep
import PyProof.ListMulRoad
import PyProof.FactsAll.tuple_2
import HandS.SetFor
import KE.GoesMore
import HandS.ExcOwn
import HandS.Style
import KE.KDictList
import HandS.ListItems
import PySem.Challenge.RW_farseats_k05_ticks_of_the_game
set_option linter.all false
set_option maxRecDepth 100000
namespace F
open PySem (Str PyData)

/-- values: tuples are data, lists, dicts and instances stand at addresses -/
inductive D where
  | non | bl (b : Bool) | int (i : Int) | str (x : Str) | tup (xs : List D) | ref (a : Nat)
  /-- a written dict of the module: texts to values -/
  | wd (kvs : List (Str × D))
  /-- a list that is read only (the script) -/
  | ro (xs : List D)
  /-- a written tuple of the module -/
  | ct (xs : List D)
abbrev Key := Sum Int Str
inductive O where
  | lst (xs : List D)
  | dK (kvs : List (Key × D)) | dT (kvs : List (List Key × D))
  /-- dicts while a loop walks them -/
  | fK (kvs : List (Key × D)) | fT (kvs : List (List Key × D))
  | ins (C : String) (fs : List (String × D))
abbrev Hp := Nat → Option O
def upd (h : Hp) (a : Nat) (o : O) : Hp := fun b => if b = a then some o else h b
theorem upd_same {h : Hp} {a : Nat} {o : O} : upd h a o a = some o := if_pos rfl
theorem upd_ne {h : Hp} {a b : Nat} {o : O} (e : b ≠ a) : upd h a o b = h b := if_neg e
theorem upd_upd {h : Hp} {a : Nat} {o u : O} : upd (upd h a o) a u = upd h a u := by
  funext b; unfold upd; split <;> rfl
theorem upd_self {h : Hp} {a : Nat} {o : O} (e : h a = some o) : upd h a o = h := by
  funext b; unfold upd; split
  · rename_i q; rw [q, e]
  · rfl
theorem ne_of_none {h : Hp} {a b : Nat} {o : O} (e : h a = some o) (n : h b = none) : a ≠ b := by
  intro q; rw [q, n] at e; cases e
theorem upd_comm {h : Hp} {a b : Nat} {o u : O} (e : a ≠ b) : upd (upd h a o) b u = upd (upd h b u) a o := by
  funext c; unfold upd
  by_cases h1 : c = b
  · subst h1; simp [Ne.symm e]
  · simp [h1]

/-- an exception: its class by name, its fields -/
structure Xc where
  cls : String
  fs : List (String × D)
abbrev St := List (Option D)
abbrev KV := D → Hp → Prop
abbrev XW := Xc → St → Hp → Prop
abbrev TE := XW → St → Hp → KV → Prop
abbrev TT := XW → St → Hp → (Bool → Hp → Prop) → Prop
abbrev TA := XW → St → Hp → (List D → Hp → Prop) → Prop
structure Ends where
  nx : St → Hp → Prop
  rt : KV
  bk : St → Hp → Prop
  ct : St → Hp → Prop
  xe : XW
abbrev TS := Ends → St → Hp → Prop
abbrev TG := XW → D → St → Hp → (St → Hp → Prop) → Prop
abbrev TGs := XW → List D → St → Hp → (St → Hp → Prop) → Prop
/-- the promise of a def: arguments, heap, what is wanted of what it hands back, of what it raises -/
abbrev Sp := List D → Hp → KV → (Xc → Hp → Prop) → Prop

/-! slots -/
def sg : St → Nat → Option D
  | [], _ => none
  | x :: _, 0 => x
  | _ :: r, n + 1 => sg r n
def ss : St → Nat → D → St
  | [], _, _ => []
  | _ :: r, 0, v => some v :: r
  | x :: r, n + 1, v => x :: ss r n v
def sw : St → Nat → St
  | [], _ => []
  | _ :: r, 0 => none :: r
  | x :: r, n + 1 => x :: sw r n
def swipe (σ : St) : List Nat → St
  | [] => σ
  | v :: vs => sw (swipe σ vs) v

/-! expressions -/
def eVar (i : Nat) : TE := fun _ σ h Q => match sg σ i with
  | some v => Q v h
  | none => False
def eC (d : D) : TE := fun _ _ h Q => Q d h
abbrev R2 := D → D → Hp → KV → Prop
def eBin (r : R2) (a b : TE) : TE := fun E σ h Q => a E σ h fun x h1 => b E σ h1 fun y h2 => r x y h2 Q
abbrev R1 := D → Hp → KV → Prop
def eUn (r : R1) (a : TE) : TE := fun E σ h Q => a E σ h fun x h1 => r x h1 Q
def line : Nat := 100000
/-- + -/
def rAdd : R2 := fun x y h Q => match x, y with
  | .int i, .int j => Q (.int (i + j)) h
  | .str i, .str j => i.length + j.length ≤ line ∧ Q (.str (i ++ j)) h
  | .tup xs, .tup ys => xs.length + ys.length ≤ line ∧ Q (.tup (xs ++ ys)) h
  | .ref a, .ref b => ∃ xs ys, h a = some (.lst xs) ∧ h b = some (.lst ys) ∧ xs.length + ys.length ≤ line ∧ ∀ p, h p = none → Q (.ref p) (upd h p (.lst (xs ++ ys)))
  | _, _ => False
def rSub : R2 := fun x y h Q => match x, y with
  | .int i, .int j => Q (.int (i - j)) h
  | _, _ => False
def rMul : R2 := fun x y h Q => match x, y with
  | .int i, .int j => ((-(2 ^ 64) < i ∧ i < 2 ^ 64) ∨ (-(2 ^ 64) < j ∧ j < 2 ^ 64)) ∧ Q (.int (i * j)) h
  | .tup xs, .int k => xs ≠ [] ∧ 1 ≤ k ∧ k ≤ 1000 ∧ xs.length ≤ 1000 ∧ Q (.tup (List.replicate k.toNat xs).flatten) h
  | .ref a, .int k => ∃ xs, h a = some (.lst xs) ∧ 0 ≤ k ∧ k ≤ 1000 ∧ xs.length * k.toNat ≤ line ∧ ∀ p, h p = none → Q (.ref p) (upd h p (.lst (List.replicate k.toNat xs).flatten))
  | _, _ => False
def rDiv : R2 := fun x y h Q => match x, y with
  | .int i, .int j => (0 < j ∧ j < 1073741824) ∧ Q (.int (i / j)) h
  | _, _ => False
def rMod : R2 := fun x y h Q => match x, y with
  | .int i, .int j => 0 < j ∧ Q (.int (i % j)) h
  | _, _ => False
def rNeg : R1 := fun x h Q => match x with
  | .int i => Q (.int (-i)) h
  | _ => False
def rLt : R2 := fun x y h Q => match x, y with
  | .int i, .int j => Q (.bl (decide (i < j))) h
  | _, _ => False
def rLe : R2 := fun x y h Q => match x, y with
  | .int i, .int j => Q (.bl (decide (i ≤ j))) h
  | _, _ => False
def rGt : R2 := fun x y h Q => match x, y with
  | .int i, .int j => Q (.bl (decide (j < i))) h
  | _, _ => False
def rGe : R2 := fun x y h Q => match x, y with
  | .int i, .int j => Q (.bl (decide (j ≤ i))) h
  | _, _ => False

/-! == of data -/
def okS (x : Str) : Bool := x.cps.toList.all fun c => decide (c < 128)
def flatP : D → Option PyData
  | .non => some .none
  | .bl b => some (.bool b)
  | .int i => some (.int i)
  | .str x => if okS x = true then some (.str x) else none
  | _ => none
def omap (f : D → Option PyData) : List D → Option (List PyData)
  | [] => some []
  | d :: r => match f d, omap f r with
    | some p, some ps => some (p :: ps)
    | _, _ => none
/-- what a value is as data, lists by the heap, so deep at the most -/
def toP (h : Hp) : Nat → D → Option PyData
  | 0, d => flatP d
  | n + 1, d => match d with
    | .tup ds => (match omap (toP h n) ds with
      | some ps => some (.tuple ps)
      | none => none)
    | .ref a => (match h a with
      | some (.lst ds) => (match omap (toP h n) ds with
        | some ps => some (.list ps)
        | none => none)
      | _ => none)
    | d => flatP d
mutual
/-- python's == of data without dicts -/
def peq : PyData → PyData → Bool
  | .none, .none => true
  | .bool a, .bool b => a == b
  | .bool a, .int b => (if a then 1 else 0) == b
  | .int a, .bool b => a == (if b then 1 else 0)
  | .int a, .int b => decide (a = b)
  | .str a, .str b => decide (a = b)
  | .tuple a, .tuple b => peqs a b
  | .list a, .list b => peqs a b
  | _, _ => false
def peqs : List PyData → List PyData → Bool
  | [], [] => true
  | a :: as, b :: bs => peq a b && peqs as bs
  | _, _ => false
end
/-- == -/
def rEq : R2 := fun x y h Q => match x, y with
  | .int i, .int j => Q (.bl (decide (i = j))) h
  | .str i, .str j => Q (.bl (decide (i = j))) h
  | .non, .non => Q (.bl true) h
  | .non, .int _ => Q (.bl false) h
  | .int _, .non => Q (.bl false) h
  | .bl i, .bl j => Q (.bl (i == j)) h
  | x, y => match toP h 9 x, toP h 9 y with
    | some p, some q => Q (.bl (peq p q)) h
    | _, _ => False
def rNe : R2 := fun x y h Q => rEq x y h fun v h1 => match v with
  | .bl b => Q (.bl !b) h1
  | _ => False
def D.isNon : D → Bool
  | .non => true
  | _ => false
/-- is None, is not None -/
def rIsN : R1 := fun x h Q => Q (.bl x.isNon) h
def rIsNotN : R1 := fun x h Q => Q (.bl !x.isNon) h
/-- is True, is False of a truth -/
def rIsB (c : Bool) : R1 := fun x h Q => match x with
  | .bl b => Q (.bl (b == c)) h
  | _ => False
def rIsNotB (c : Bool) : R1 := fun x h Q => match x with
  | .bl b => Q (.bl !(b == c)) h
  | _ => False
/-- a dict's value at a key -/
def look {κ : Type} [DecidableEq κ] (kvs : List (κ × D)) (k : κ) : Option D := (kvs.find? fun kv => decide (kv.1 = k)).map (·.2)
/-- in its place, or at the end -/
def put {κ : Type} [DecidableEq κ] (kvs : List (κ × D)) (k : κ) (v : D) : List (κ × D) :=
  if (kvs.any fun kv => decide (kv.1 = k)) = true then kvs.map (fun kv => if kv.1 = k then (kv.1, v) else kv) else kvs ++ [(k, v)]
def drop {κ : Type} [DecidableEq κ] (kvs : List (κ × D)) (k : κ) : List (κ × D) := kvs.filter fun kv => decide (kv.1 ≠ k)
def D.key : D → Option Key
  | .int i => some (.inl i)
  | .str x => some (.inr x)
  | _ => none
def D.keyL : List D → Option (List Key)
  | [] => some []
  | d :: r => match d.key, D.keyL r with
    | some k, some ks => some (k :: ks)
    | _, _ => none
def kD : Key → D
  | .inl i => .int i
  | .inr x => .str x
/-- x in y: a tuple or list of data; a dict; one text in another -/
def rIn : R2 := fun x y h Q => match y with
  | .ct ys => (match toP h 9 x, omap (toP h 9) ys with
    | some p, some qs => Q (.bl (qs.any fun q => peq q p)) h
    | _, _ => False)
  | .tup ys => match toP h 9 x, omap (toP h 9) ys with
    | some p, some qs => Q (.bl (qs.any fun q => peq q p)) h
    | _, _ => False
  | .ref a => match h a with
    | some (.lst ys) => (match toP h 9 x, omap (toP h 9) ys with
      | some p, some qs => Q (.bl (qs.any fun q => peq q p)) h
      | _, _ => False)
    | some (.dK kvs) => match x.key with
      | some k => Q (.bl (look kvs k).isSome) h
      | none => False
    | _ => False
  | .wd kvs => match x with
    | .str k => Q (.bl (look kvs k).isSome) h
    | _ => False
  | _ => False
def rNotIn : R2 := fun x y h Q => rIn x y h fun v h1 => match v with
  | .bl b => Q (.bl !b) h1
  | _ => False
/-- the place that an index of any sign means -/
def ixN (n : Nat) (i : Int) : Option Nat := if 0 ≤ i then (if i < n then some i.toNat else none) else if -(n : Int) ≤ i then some (i + n).toNat else none
def atI (xs : List D) (i : Int) : Option D := match ixN xs.length i with
  | some j => xs[j]?
  | none => none
/-- a[b] -/
def rIx : R2 := fun x y h Q => match x with
  | .tup xs => (match y with
    | .int i => ∃ v, atI xs i = some v ∧ Q v h
    | _ => False)
  | .ct xs => (match y with
    | .int i => ∃ v, atI xs i = some v ∧ Q v h
    | _ => False)
  | .ref a => match h a with
    | some (.lst xs) => (match y with
      | .int i => ∃ v, atI xs i = some v ∧ Q v h
      | _ => False)
    | some (.dK kvs) => (match y.key with
      | some k => ∃ v, look kvs k = some v ∧ Q v h
      | none => False)
    | some (.fK kvs) => (match y.key with
      | some k => ∃ v, look kvs k = some v ∧ Q v h
      | none => False)
    | some (.dT kvs) => (match y with
      | .tup ks => ∃ q v, D.keyL ks = some q ∧ look kvs q = some v ∧ Q v h
      | _ => False)
    | some (.fT kvs) => (match y with
      | .tup ks => ∃ q v, D.keyL ks = some q ∧ look kvs q = some v ∧ Q v h
      | _ => False)
    | _ => False
  | .wd kvs => match y with
    | .str k => ∃ v, look kvs k = some v ∧ Q v h
    | _ => False
  | _ => False
/-- a slice's bound as a place among n -/
def sIx (n d : Nat) : Option Int → Nat
  | none => d
  | some v => if v < 0 then (v + (n : Int)).toNat else min v.toNat n
def cutD (xs : List D) (lo hi : Option Int) : List D := (xs.drop (sIx xs.length 0 lo)).take (sIx xs.length xs.length hi - sIx xs.length 0 lo)
abbrev TO := XW → St → Hp → (Option Int → Hp → Prop) → Prop
def oNo : TO := fun _ _ h Q => Q none h
def oIs (a : TE) : TO := fun E σ h Q => a E σ h fun x h1 => match x with
  | .int i => Q (some i) h1
  | _ => False
def rSl : D → Option Int → Option Int → Hp → KV → Prop := fun x lo hi h Q => match x with
  | .tup xs => Q (.tup (cutD xs lo hi)) h
  | .ref a => ∃ xs, h a = some (.lst xs) ∧ ∀ p, h p = none → Q (.ref p) (upd h p (.lst (cutD xs lo hi)))
  | _ => False
def eSl (a : TE) (lo hi : TO) : TE := fun E σ h Q => a E σ h fun x h1 => lo E σ h1 fun l h2 => hi E σ h2 fun u h3 => rSl x l u h3 Q
/-! tests and truths -/
def tVal (a : TE) : TT := fun E σ h Q => a E σ h fun x h1 => match x with
  | .bl b => Q b h1
  | _ => False
def tAnd (a b : TT) : TT := fun E σ h Q => a E σ h fun c h1 => if c = true then b E σ h1 Q else Q false h1
def tOr (a b : TT) : TT := fun E σ h Q => a E σ h fun c h1 => if c = true then Q true h1 else b E σ h1 Q
def tNot (a : TT) : TT := fun E σ h Q => a E σ h fun c h1 => Q (!c) h1
def eAnd (a b : TE) : TE := fun E σ h Q => a E σ h fun x h1 => match x with
  | .bl c => if c = true then b E σ h1 Q else Q (.bl false) h1
  | _ => False
def eOr (a b : TE) : TE := fun E σ h Q => a E σ h fun x h1 => match x with
  | .bl c => if c = true then Q (.bl true) h1 else b E σ h1 Q
  | _ => False
def eNot (a : TE) : TE := fun E σ h Q => a E σ h fun x h1 => match x with
  | .bl c => Q (.bl !c) h1
  | _ => False
def eIf (t : TT) (a b : TE) : TE := fun E σ h Q => t E σ h fun c h1 => if c = true then a E σ h1 Q else b E σ h1 Q
/-- a r b r' c -/
def eChain (r r' : R2) (a b c : TE) : TE := fun E σ h Q => a E σ h fun x h1 => b E σ h1 fun y h2 => r x y h2 fun z h3 => match z with
  | .bl k => if k = true then c E σ h3 fun u h4 => r' y u h4 Q else Q (.bl false) h3
  | _ => False
/-! arguments, displays -/
def aNil : TA := fun _ _ h Q => Q [] h
def aCons (a : TE) (as : TA) : TA := fun E σ h Q => a E σ h fun x h1 => as E σ h1 fun xs h2 => Q (x :: xs) h2
def eTup (as : TA) : TE := fun E σ h Q => as E σ h fun xs h1 => xs.length ≤ line ∧ Q (.tup xs) h1
def eLst (as : TA) : TE := fun E σ h Q => as E σ h fun xs h1 => xs.length ≤ line ∧ ∀ p, h1 p = none → Q (.ref p) (upd h1 p (.lst xs))
def eDK : TE := fun _ _ h Q => ∀ p, h p = none → Q (.ref p) (upd h p (.dK []))
def eDT : TE := fun _ _ h Q => ∀ p, h p = none → Q (.ref p) (upd h p (.dT []))
/-! calls -/
def eCall (sp : Sp) (as : TA) : TE := fun E σ h Q => as E σ h fun xs h1 => sp xs h1 Q fun x h2 => E x σ h2
/-- o.m(..) of an instance of the class C -/
def eMeth (C : String) (m : String) (sp : Sp) (o : TE) (as : TA) : TE := fun E σ h Q => o E σ h fun x h1 => match x with
  | .ref a => match h1 a with
    | some (.ins C' fs) => C' = C ∧ fs.lookup m = none ∧ as E σ h1 fun xs h2 => sp (x :: xs) h2 Q fun u h3 => E u σ h3
    | _ => False
  | _ => False
abbrev RC := List D → Hp → KV → Prop
def eCB (r : RC) (as : TA) : TE := fun E σ h Q => as E σ h fun xs h1 => r xs h1 Q
abbrev RM := D → List D → Hp → KV → Prop
def isLst (h : Hp) : D → Prop
  | .ref a => match h a with
    | some (.lst _) => True
    | _ => False
  | _ => False
def isDct (h : Hp) : D → Prop
  | .ref a => match h a with
    | some (.dK _) => True
    | _ => False
  | _ => False
/-- a list's method -/
def eBM (r : RM) (o : TE) (as : TA) : TE := fun E σ h Q => o E σ h fun x h1 => isLst h1 x ∧ as E σ h1 fun xs h2 => r x xs h2 Q
/-- a dict's method -/
def eDM (r : RM) (o : TE) (as : TA) : TE := fun E σ h Q => o E σ h fun x h1 => isDct h1 x ∧ as E σ h1 fun xs h2 => r x xs h2 Q
def eFld (C f : String) (o : TE) : TE := fun E σ h Q => o E σ h fun x h1 => match x with
  | .ref a => match h1 a with
    | some (.ins C' fs) => C' = C ∧ match fs.lookup f with
      | some v => Q v h1
      | none => False
    | _ => False
  | _ => False
/-! built-ins -/
def rLen : RC := fun xs h Q => match xs with
  | [.tup ys] => Q (.int (ys.length : Int)) h
  | [.str z] => z.length ≤ line ∧ Q (.int (z.length : Int)) h
  | [.ro ys] => Q (.int (ys.length : Int)) h
  | [.ref a] => (match h a with
    | some (.lst ys) => Q (.int (ys.length : Int)) h
    | some (.dK kvs) => Q (.int (kvs.length : Int)) h
    | _ => False)
  | _ => False
/-- the built-in kinds that isinstance is asked for -/
inductive Ty | int | bool | str | tuple | list
  deriving DecidableEq
def isA (h : Hp) : D → Ty → Option Bool
  | .non, _ => some false
  | .bl _, t => some (t = .bool || t = .int)
  | .int _, t => some (decide (t = .int))
  | .str _, t => some (decide (t = .str))
  | .tup _, t => some (decide (t = .tuple))
  | .ref a, t => match h a with
    | some (.lst _) => some (decide (t = .list))
    | _ => none
  | .wd _, _ => none
  | .ro _, _ => none
  | .ct _, _ => none
def rIsA (t : Ty) : RC := fun xs h Q => match xs with
  | [x] => match isA h x t with
    | some b => Q (.bl b) h
    | none => False
  | _ => False
def rList : RC := fun xs h Q => match xs with
  | [.ro ys] => ∀ p, h p = none → Q (.ref p) (upd h p (.lst ys))
  | [.tup ys] => ∀ p, h p = none → Q (.ref p) (upd h p (.lst ys))
  | [.ref a] => (match h a with
    | some (.lst ys) => ∀ p, h p = none → Q (.ref p) (upd h p (.lst ys))
    | _ => False)
  | _ => False
def rTuple : RC := fun xs h Q => match xs with
  | [.tup ys] => Q (.tup ys) h
  | [.ref a] => ∃ ys, h a = some (.lst ys) ∧ Q (.tup ys) h
  | _ => False
def b2i (b : Bool) : Int := if b then 1 else 0
def rInt : RC := fun xs h Q => match xs with
  | [.bl b] => Q (.int (b2i b)) h
  | [.int i] => Q (.int i) h
  | _ => False
/-- list(d.values()) -/
def rListVals : R1 := fun x h Q => match x with
  | .ref a => ∃ kvs, h a = some (.dK kvs) ∧ ∀ p, h p = none → Q (.ref p) (upd h p (.lst (kvs.map fun q => q.2)))
  | _ => False
def rMax2 : RC := fun xs h Q => match xs with
  | [.int i, .int j] => Q (.int (if j > i then j else i)) h
  | _ => False
def rAll : RC := fun xs h Q => match xs with
  | [.ref a] => ∃ bs : List Bool, h a = some (.lst (bs.map D.bl)) ∧ Q (.bl (bs.all id)) h
  | _ => False
def rSum : RC := fun xs h Q => match xs with
  | [.ref a] => ∃ ns : List Int, h a = some (.lst (ns.map D.int)) ∧ Q (.int ns.sum) h
  | _ => False
/-! methods of built-in types -/
def rAppend : RM := fun x vs h Q => match x, vs with
  | .ref a, [y] => ∃ xs, h a = some (.lst xs) ∧ xs.length < line ∧ Q .non (upd h a (.lst (xs ++ [y])))
  | _, _ => False
def rPopAt : RM := fun x vs h Q => match x, vs with
  | .ref a, [.int i] => ∃ xs y, h a = some (.lst xs) ∧ 0 ≤ i ∧ xs.length ≤ line ∧ xs[i.toNat]? = some y ∧ Q y (upd h a (.lst (xs.eraseIdx i.toNat)))
  | _, _ => False
def rCount : RM := fun x vs h Q => match x, vs with
  | .ref a, [.int k] => ∃ ns : List Int, h a = some (.lst (ns.map D.int)) ∧ Q (.int (ns.count k : Nat)) h
  | _, _ => False
/-- d.get(k, x) -/
def rGet2 : RM := fun x vs h Q => match x, vs with
  | .ref a, [q, u] => ∃ kvs k, h a = some (.dK kvs) ∧ q.key = some k ∧ Q ((look kvs k).getD u) h
  | _, _ => False
/-- d.pop(k, x) -/
def rPop2 : RM := fun x vs h Q => match x, vs with
  | .ref a, [q, u] => ∃ kvs k, h a = some (.dK kvs) ∧ q.key = some k ∧ (match look kvs k with
    | some v => Q v (upd h a (.dK (drop kvs k)))
    | none => Q u h)
  | _, _ => False
/-! targets -/
def gName (i : Nat) : TG := fun _ v σ h Q => Q (ss σ i v) h
def gNil : TGs := fun _ vs σ h Q => match vs with
  | [] => Q σ h
  | _ => False
def gCons (g : TG) (gs : TGs) : TGs := fun E vs σ h Q => match vs with
  | v :: r => g E v σ h fun σ' h' => gs E r σ' h' Q
  | [] => False
def gTup (n : Nat) (gs : TGs) : TG := fun E v σ h Q => match v with
  | .tup xs => xs.length = n ∧ gs E xs σ h Q
  | _ => False
/-- o[i] = v -/
def rSet : D → D → D → Hp → (Hp → Prop) → Prop := fun o i v h Q => match o with
  | .ref a => match h a with
    | some (.lst xs) => (match i with
      | .int k => ∃ j, ixN xs.length k = some j ∧ Q (upd h a (.lst (xs.set j v)))
      | _ => False)
    | some (.dK kvs) => (match i.key with
      | some k => kvs.length < line ∧ Q (upd h a (.dK (put kvs k v)))
      | none => False)
    | some (.dT kvs) => (match i with
      | .tup ks => ∃ q, D.keyL ks = some q ∧ kvs.length < line ∧ Q (upd h a (.dT (put kvs q v)))
      | _ => False)
    | _ => False
  | _ => False
def gSub (o i : TE) : TG := fun E v σ h Q => o E σ h fun x h1 => i E σ h1 fun y h2 => rSet x y v h2 fun h3 => Q σ h3
/-! statements -/
def sNext : TS := fun D σ h => D.nx σ h
def sSeq (t u : TS) : TS := fun D σ h => t { D with nx := u D } σ h
def sBreak : TS := fun D σ h => D.bk σ h
def sCont : TS := fun D σ h => D.ct σ h
def sAsg (e : TE) (g : TG) : TS := fun D σ h => e D.xe σ h fun v h1 => g D.xe v σ h1 D.nx
/-- a, b, .. = e, f, ..: local names -/
def sPar (is : List Nat) (as : TA) : TS := fun D σ h => as D.xe σ h fun vs h1 => vs.length = is.length ∧ D.nx ((is.zip vs).foldl (fun s p => ss s p.1 p.2) σ) h1
def sAug (i : Nat) (r : R2) (e : TE) : TS := fun D σ h => match sg σ i with
  | some x => e D.xe σ h fun y h1 => r x y h1 fun z h2 => D.nx (ss σ i z) h2
  | none => False
def sDrop (e : TE) : TS := fun D σ h => e D.xe σ h fun _ h1 => D.nx σ h1
def sRet (e : TE) : TS := fun D σ h => e D.xe σ h D.rt
def sRetN : TS := fun D _ h => D.rt .non h
def sIf (c : TT) (t u : TS) : TS := fun D σ h => c D.xe σ h fun b h1 => if b = true then t D σ h1 else u D σ h1
def sNever : TS := fun _ _ _ => False
/-- raise C(..) -/
def sRaise (x : XW → St → Hp → (Xc → Hp → Prop) → Prop) : TS := fun D σ h => x D.xe σ h fun c h1 => D.xe c σ h1
/-! what is walked: the items, and what must stand at each turn -/
abbrev TI := XW → St → Hp → (List D → (Hp → Prop) → Hp → Prop) → Prop
def iSeq (a : TE) : TI := fun E σ h R => a E σ h fun x h1 => match x with
  | .tup xs => R xs (fun _ => True) h1
  | .ref p => (match h1 p with
    | some (.lst xs) => R xs (fun h' => h' p = some (.lst xs)) h1
    | some (.fK kvs) => R (kvs.map fun q => kD q.1) (fun h' => h' p = some (.fK kvs)) h1
    | some (.fT kvs) => R (kvs.map fun q => .tup (q.1.map kD)) (fun h' => h' p = some (.fT kvs)) h1
    | _ => False)
  | .wd kvs => R (kvs.map fun q => .str q.1) (fun _ => True) h1
  | .ro xs => R xs (fun _ => True) h1
  | _ => False
/-- d.values() -/
def iVals (a : TE) : TI := fun E σ h R => a E σ h fun x h1 => match x with
  | .ref p => (match h1 p with
    | some (.fK kvs) => R (kvs.map fun q => q.2) (fun h' => h' p = some (.fK kvs)) h1
    | _ => False)
  | _ => False
/-- the statement runs while the dict in slot i is locked -/
def sLock (i : Nat) (t : TS) : TS := fun D σ h => match sg σ i with
  | some (.ref d) => (match h d with
    | some (.dK kvs) => t ⟨fun σ' h' => h' d = some (.fK kvs) ∧ D.nx σ' (upd h' d (.dK kvs)), fun v h' => h' d = some (.fK kvs) ∧ D.rt v (upd h' d (.dK kvs)), fun σ' h' => h' d = some (.fK kvs) ∧ D.bk σ' (upd h' d (.dK kvs)),
        fun σ' h' => h' d = some (.fK kvs) ∧ D.ct σ' (upd h' d (.dK kvs)), fun _ _ _ => False⟩ σ (upd h d (.fK kvs))
    | some (.dT kvs) => t ⟨fun σ' h' => h' d = some (.fT kvs) ∧ D.nx σ' (upd h' d (.dT kvs)), fun v h' => h' d = some (.fT kvs) ∧ D.rt v (upd h' d (.dT kvs)), fun σ' h' => h' d = some (.fT kvs) ∧ D.bk σ' (upd h' d (.dT kvs)),
        fun σ' h' => h' d = some (.fT kvs) ∧ D.ct σ' (upd h' d (.dT kvs)), fun _ _ _ => False⟩ σ (upd h d (.fT kvs))
    | _ => False)
  | _ => False
def eLock (i : Nat) (t : TE) : TE := fun _ σ h Q => match sg σ i with
  | some (.ref d) => (match h d with
    | some (.dK kvs) => t (fun _ _ _ => False) σ (upd h d (.fK kvs)) fun v h' => h' d = some (.fK kvs) ∧ Q v (upd h' d (.dK kvs))
    | some (.dT kvs) => t (fun _ _ _ => False) σ (upd h d (.fT kvs)) fun v h' => h' d = some (.fT kvs) ∧ Q v (upd h' d (.dT kvs))
    | _ => False)
  | _ => False
def irange (lo hi : Int) : List D := (List.range (hi - lo).toNat).map fun (i : Nat) => .int (lo + (i : Int))
def iRng (as : TA) : TI := fun E σ h R => as E σ h fun vs h1 => match vs with
  | [.int n] => (-(2 ^ 62) ≤ n ∧ n < 2 ^ 62) ∧ R (irange 0 n) (fun _ => True) h1
  | [.int m, .int n] => (-(2 ^ 62) ≤ m ∧ m < 2 ^ 62 ∧ -(2 ^ 62) ≤ n ∧ n < 2 ^ 62) ∧ R (irange m n) (fun _ => True) h1
  | _ => False
def enum (xs : List D) : List D := (List.range xs.length).zipWith (fun (i : Nat) x => .tup [.int (i : Int), x]) xs
def iEnum (a : TE) : TI := fun E σ h R => a E σ h fun x h1 => match x with
  | .tup xs => R (enum xs) (fun _ => True) h1
  | .ref p => (match h1 p with
    | some (.lst xs) => R (enum xs) (fun h' => h' p = some (.lst xs)) h1
    | _ => False)
  | _ => False
/-- W by the turn -/
def sFor (it : TI) (g : TG) (b : TS) : TS := fun D σ h => it D.xe σ h fun xs ok h1 => ∃ W : Nat → St → Hp → Prop, W 0 σ h1 ∧
  (∀ i x σ h, xs[i]? = some x → W i σ h → ok h ∧ g D.xe x σ h fun σ' h' => b { D with nx := W (i + 1), ct := W (i + 1), bk := D.nx } σ' h') ∧
  ∀ σ h, W xs.length σ h → ok h ∧ D.nx σ h
def sWhile (c : TT) (b : TS) : TS := fun D σ h => ∃ W : Nat → St → Hp → Prop, (∃ m, W m σ h) ∧ ∀ m σ h, W m σ h →
  c D.xe σ h fun k h1 => if k = true then ∃ N : St → Hp → Prop, (∀ σ' h', N σ' h' → ∃ m', m' < m ∧ W m' σ' h') ∧ b { D with nx := N, ct := N, bk := D.nx } σ h1 else D.nx σ h1
/-- nothing may be raised in it -/
def noX : XW := fun _ _ _ => False
/-- [e for g in it if t]: W by the turn, what is made so far -/
def eLc (it : TI) (g : TG) (t : TT) (e : TE) (vs : List Nat) : TE := fun E σ h Q => it E σ h fun xs ok h1 => ∃ W : Nat → List D → Hp → Prop, W 0 [] h1 ∧ xs.length ≤ line ∧
  (∀ i x acc h, xs[i]? = some x → W i acc h → ok h ∧ g noX x (swipe σ vs) h fun σ2 h2 => t noX σ2 h2 fun k h3 =>
    if k = true then e noX σ2 h3 fun y h4 => W (i + 1) (acc ++ [y]) h4 else W (i + 1) acc h3) ∧
  ∀ acc h, W xs.length acc h → ok h ∧ ∀ p, h p = none → Q (.ref p) (upd h p (.lst acc))
def tYes : TT := fun _ _ h Q => Q true h
/-- so much of a heap -/
def Sub (h h' : Hp) : Prop := ∀ a o, h a = some o → h' a = some o
theorem Sub.refl (h : Hp) : Sub h h := fun _ _ e => e
theorem Sub.trans {h h1 h2 : Hp} (a : Sub h h1) (b : Sub h1 h2) : Sub h h2 := fun x o e => b x o (a x o e)
theorem Sub.new {h h' : Hp} {p : Nat} {o : O} (s : Sub h h') (n : h' p = none) : Sub h (upd h' p o) := fun a u e => by
  have e1 := s a u e
  rw [upd_ne (ne_of_none e1 n)]; exact e1
/-- what follows a def's body: what is not needed may be forgotten -/
abbrev outE (Q : KV) (E : Xc → Hp → Prop) : Ends := ⟨fun _ h => ∃ h0, Sub h0 h ∧ Q .non h0, fun v h => ∃ h0, Sub h0 h ∧ Q v h0, fun _ _ => False, fun _ _ => False, fun x _ h => ∃ h0, Sub h0 h ∧ E x h0⟩
/-- the slots at a def's entry -/
def start2 (n : Nat) (ds : List D) : St := ds.map some ++ List.replicate (n - ds.length) none
/-! a walk's word -/
theorem for_w {xs : List D} {ok : Hp → Prop} {D : Ends} {g : TG} {b : TS} {σ : St} {h : Hp} (W : Nat → St → Hp → Prop) (w0 : W 0 σ h)
    (ws : ∀ i x σ h, xs[i]? = some x → W i σ h → ok h ∧ g D.xe x σ h fun σ' h' => b { D with nx := W (i + 1), ct := W (i + 1), bk := D.nx } σ' h')
    (wd : ∀ σ h, W xs.length σ h → ok h ∧ D.nx σ h) : ∃ W : Nat → St → Hp → Prop, W 0 σ h ∧
  (∀ i x σ h, xs[i]? = some x → W i σ h → ok h ∧ g D.xe x σ h fun σ' h' => b { D with nx := W (i + 1), ct := W (i + 1), bk := D.nx } σ' h') ∧
  ∀ σ h, W xs.length σ h → ok h ∧ D.nx σ h := ⟨W, w0, ws, wd⟩
end F

set_option Elab.async false
set_option linter.all false
set_option maxRecDepth 100000
set_option maxHeartbeats 4000000
/-! the bridge: what stands in the layer's heap for the data -/
namespace F
open PySem L2

abbrev LHp := L2.Hp
abbrev LSt := L2.St

/-- a list that stays: frozen, or an object of the module -/
def RoL (K : PySem.W.Frag) (H : LHp) (a : Addr) (xs : List V) : Prop := (∃ o, H a = some (.frz o (.lst xs))) ∨
  ∃ (o : Obj) (its : Array Value) (n : Nat), K.lookup a = some o ∧ o.cls = .type "list" ∧ o.dict = none ∧ o.data = .seq its n ∧ its.size ≤ sizeLine ∧ Vals xs its.toList
theorem RoL.sq {K : PySem.W.Frag} {H : LHp} {a : Addr} {xs : List V} (h : RoL K H a xs) : SqL K H a xs := by
  rcases h with h | h
  · exact .inl (.inr h)
  · exact .inr h

/-- the ground: what the top has written, the world, where the classes of the text stand -/
structure G where
  K : PySem.W.Frag
  w : World
  cn : String → Option Addr
abbrev gOf (X : Cx) (cn : String → Option Addr) : G := ⟨X.K, X.w, cn⟩
/-- a written tuple -/
def CtAt (K : PySem.W.Frag) (a : Addr) (xs : List V) : Prop :=
  ∃ (o : Obj) (its : Array Value) (n : Nat), K.lookup a = some o ∧ o.cls = .type "tuple" ∧ o.data = .seq its n ∧ its.size ≤ sizeLine ∧ Vals xs its.toList
/-- entries of text keys -/
inductive WdEs : List DictEntry → List (Str × V) → Prop
  | nil : WdEs [] []
  | cons {en : DictEntry} {k : Str} {t : Tok} {v : V} {es : List DictEntry} {vs : List (Str × V)} : en.key = .str k t → RelV v en.val → WdEs es vs → WdEs (en :: es) ((k, v) :: vs)
/-- a written dict of text keys -/
def WdAt (K : PySem.W.Frag) (w : World) (a : Addr) (vs : List (Str × V)) : Prop := ∃ (es : Array DictEntry) (n : Nat), KDict K w a es n ∧ WdEs es.toList vs

mutual
inductive Rep (g : G) (H : LHp) : V → D → Prop
  | non : Rep g H .non .non
  | bl (b : Bool) : Rep g H (.bl b) (.bl b)
  | int (i : Int) : Rep g H (.int i) (.int i)
  | str (x : Str) : Rep g H (.str x) (.str x)
  | tup {a : Addr} {vs : List V} {ds : List D} : H a = some (.tup vs) → Reps g H vs ds → Rep g H (.ref a) (.tup ds)
  | ref (a : Addr) : Rep g H (.ref a) (.ref a)
  | ro {a : Addr} {vs : List V} {ds : List D} : RoL g.K H a vs → Reps g H vs ds → Rep g H (.ref a) (.ro ds)
  | ct {a : Addr} {vs : List V} {ds : List D} : CtAt g.K a vs → Reps g H vs ds → Rep g H (.ref a) (.ct ds)
  | wd {a : Addr} {vs : List (Str × V)} {ds : List (Str × D)} : WdAt g.K g.w a vs → Repw g H vs ds → Rep g H (.ref a) (.wd ds)
inductive Reps (g : G) (H : LHp) : List V → List D → Prop
  | nil : Reps g H [] []
  | cons {v : V} {d : D} {vs : List V} {ds : List D} : Rep g H v d → Reps g H vs ds → Reps g H (v :: vs) (d :: ds)
inductive Repw (g : G) (H : LHp) : List (Str × V) → List (Str × D) → Prop
  | nil : Repw g H [] []
  | cons {k : Str} {v : V} {d : D} {vs : List (Str × V)} {ds : List (Str × D)} : Rep g H v d → Repw g H vs ds → Repw g H ((k, v) :: vs) ((k, d) :: ds)
end

/-- tuples stay -/
def TLe (g : G) (H H' : LHp) : Prop := (∀ a xs, H a = some (.tup xs) → H' a = some (.tup xs)) ∧ ∀ a xs, RoL g.K H a xs → RoL g.K H' a xs
mutual
theorem Rep.mono {g : G} {H H' : LHp} (t : TLe g H H') : ∀ {v : V} {d : D}, Rep g H v d → Rep g H' v d
  | _, _, .non => .non
  | _, _, .bl b => .bl b
  | _, _, .int i => .int i
  | _, _, .str x => .str x
  | _, _, .tup h r => .tup (t.1 _ _ h) (Reps.mono t r)
  | _, _, .ref a => .ref a
  | _, _, .ro h r => .ro (t.2 _ _ h) (Reps.mono t r)
  | _, _, .ct h r => .ct h (Reps.mono t r)
  | _, _, .wd h r => .wd h (Repw.mono t r)
theorem Reps.mono {g : G} {H H' : LHp} (t : TLe g H H') : ∀ {vs : List V} {ds : List D}, Reps g H vs ds → Reps g H' vs ds
  | _, _, .nil => .nil
  | _, _, .cons a b => .cons (Rep.mono t a) (Reps.mono t b)
theorem Repw.mono {g : G} {H H' : LHp} (t : TLe g H H') : ∀ {vs : List (Str × V)} {ds : List (Str × D)}, Repw g H vs ds → Repw g H' vs ds
  | _, _, .nil => .nil
  | _, _, .cons a b => .cons (Rep.mono t a) (Repw.mono t b)
end
theorem Reps.length {g : G} {H : LHp} : ∀ {vs : List V} {ds : List D}, Reps g H vs ds → vs.length = ds.length
  | _, _, .nil => rfl
  | _, _, .cons _ b => by simp [Reps.length b]
theorem Reps.get {g : G} {H : LHp} : ∀ {vs : List V} {ds : List D} {i : Nat} {d : D}, Reps g H vs ds → ds[i]? = some d → ∃ v, vs[i]? = some v ∧ Rep g H v d
  | _, _, _, _, .nil, e => by simp at e
  | _, _, 0, _, .cons r _, e => by simp at e; subst e; exact ⟨_, rfl, r⟩
  | _, _, i + 1, x, .cons _ t, e => by
    obtain ⟨u, h1, h2⟩ := Reps.get (i := i) (d := x) t (by simpa using e)
    exact ⟨u, by simpa using h1, h2⟩
theorem Reps.get' {g : G} {H : LHp} : ∀ {vs : List V} {ds : List D} {i : Nat} {v : V}, Reps g H vs ds → vs[i]? = some v → ∃ d, ds[i]? = some d ∧ Rep g H v d
  | _, _, _, _, .nil, e => by simp at e
  | _, _, 0, _, .cons r _, e => by simp at e; subst e; exact ⟨_, rfl, r⟩
  | _, _, i + 1, x, .cons _ t, e => by
    obtain ⟨u, h1, h2⟩ := Reps.get' (i := i) (v := x) t (by simpa using e)
    exact ⟨u, by simpa using h1, h2⟩
theorem Reps.append {g : G} {H : LHp} : ∀ {vs ws : List V} {ds es : List D}, Reps g H vs ds → Reps g H ws es → Reps g H (vs ++ ws) (ds ++ es)
  | _, _, _, _, .nil, s => s
  | _, _, _, _, .cons r t, s => .cons r (Reps.append t s)
theorem Reps.take {g : G} {H : LHp} : ∀ {vs : List V} {ds : List D} (n : Nat), Reps g H vs ds → Reps g H (vs.take n) (ds.take n)
  | _, _, 0, _ => .nil
  | _, _, _ + 1, .nil => .nil
  | _, _, n + 1, .cons r t => .cons r (Reps.take n t)
theorem Reps.drop {g : G} {H : LHp} : ∀ {vs : List V} {ds : List D} (n : Nat), Reps g H vs ds → Reps g H (vs.drop n) (ds.drop n)
  | _, _, 0, r => r
  | _, _, _ + 1, .nil => .nil
  | _, _, n + 1, .cons _ t => Reps.drop n t
theorem Reps.set {g : G} {H : LHp} {v : V} {d : D} (r : Rep g H v d) : ∀ {vs : List V} {ds : List D} (i : Nat), Reps g H vs ds → Reps g H (vs.set i v) (ds.set i d)
  | _, _, _, .nil => .nil
  | _, _, 0, .cons _ t => .cons r t
  | _, _, i + 1, .cons q t => .cons q (Reps.set r i t)
theorem Reps.eraseIdx {g : G} {H : LHp} : ∀ {vs : List V} {ds : List D} (i : Nat), Reps g H vs ds → Reps g H (vs.eraseIdx i) (ds.eraseIdx i)
  | _, _, _, .nil => .nil
  | _, _, 0, .cons _ t => t
  | _, _, i + 1, .cons q t => .cons q (Reps.eraseIdx i t)
theorem Reps.one {g : G} {H : LHp} {v : V} {d : D} (r : Rep g H v d) : Reps g H [v] [d] := .cons r .nil
theorem Reps.rep {g : G} {H : LHp} {vs : List V} {ds : List D} (r : Reps g H vs ds) : ∀ k : Nat, Reps g H (List.replicate k vs).flatten (List.replicate k ds).flatten
  | 0 => by simpa using Reps.nil
  | k + 1 => by
    simp only [List.replicate_succ, List.flatten_cons]
    exact Reps.append r (Reps.rep r k)
theorem Reps.intsD {g : G} {H : LHp} : ∀ {vs : List V} {ns : List Int}, Reps g H vs (ns.map D.int) → vs = ns.map V.int
  | _, [], .nil => rfl
  | _, n :: ns, .cons (.int _) t => by rw [Reps.intsD t]; rfl
theorem Reps.of_ints {g : G} {H : LHp} : ∀ (ns : List Int), Reps g H (ns.map V.int) (ns.map D.int)
  | [] => .nil
  | n :: ns => .cons (.int n) (Reps.of_ints ns)
theorem Reps.bls {g : G} {H : LHp} : ∀ {vs : List V} {bs : List Bool}, Reps g H vs (bs.map D.bl) → vs = bs.map V.bl
  | _, [], .nil => rfl
  | _, n :: ns, .cons (.bl _) t => by rw [Reps.bls t]; rfl
theorem Reps.strs {g : G} {H : LHp} : ∀ {vs : List V} {bs : List Str}, Reps g H vs (bs.map D.str) → vs = bs.map V.str
  | _, [], .nil => rfl
  | _, n :: ns, .cons (.str _) t => by rw [Reps.strs t]; rfl

inductive RKv (g : G) (H : LHp) {κ : Type} : List (κ × V) → List (κ × D) → Prop
  | nil : RKv g H [] []
  | cons {k : κ} {v : V} {d : D} {vs : List (κ × V)} {ds : List (κ × D)} : Rep g H v d → RKv g H vs ds → RKv g H ((k, v) :: vs) ((k, d) :: ds)
theorem RKv.mono {g : G} {H H' : LHp} {κ : Type} (t : TLe g H H') : ∀ {vs : List (κ × V)} {ds : List (κ × D)}, RKv g H vs ds → RKv g H' vs ds
  | _, _, .nil => .nil
  | _, _, .cons a b => .cons (a.mono t) (RKv.mono t b)
theorem RKv.length {g : G} {H : LHp} {κ : Type} : ∀ {vs : List (κ × V)} {ds : List (κ × D)}, RKv g H vs ds → vs.length = ds.length
  | _, _, .nil => rfl
  | _, _, .cons _ b => by simp [RKv.length b]
theorem RKv.keys {g : G} {H : LHp} {κ : Type} : ∀ {vs : List (κ × V)} {ds : List (κ × D)}, RKv g H vs ds → vs.map (·.1) = ds.map (·.1)
  | _, _, .nil => rfl
  | _, _, .cons _ b => by simp [RKv.keys b]
/-- attributes by name -/
inductive RFs (g : G) (H : LHp) : List (Str × V) → List (String × D) → Prop
  | nil : RFs g H [] []
  | cons {f : String} {v : V} {d : D} {vs : List (Str × V)} {ds : List (String × D)} : Rep g H v d → RFs g H vs ds → RFs g H (((f : Str), v) :: vs) ((f, d) :: ds)
theorem RFs.mono {g : G} {H H' : LHp} (t : TLe g H H') : ∀ {vs : List (Str × V)} {ds : List (String × D)}, RFs g H vs ds → RFs g H' vs ds
  | _, _, .nil => .nil
  | _, _, .cons a b => .cons (a.mono t) (RFs.mono t b)

abbrev Cn := String → Option Addr
/-- the object at a is o -/
def RepO (g : G) (H : LHp) (a : Addr) : O → Prop
  | .lst ds => ∃ vs, H a = some (.lst vs) ∧ Reps g H vs ds
  | .dK kvs => ∃ vs, H a = some (.dK vs) ∧ RKv g H vs kvs
  | .dT kvs => ∃ vs, H a = some (.dT vs) ∧ RKv g H vs kvs
  | .fK kvs => ∃ o vs, H a = some (.frz o (.dK vs)) ∧ RKv g H vs kvs
  | .fT kvs => ∃ o vs, H a = some (.frz o (.dT vs)) ∧ RKv g H vs kvs
  | .ins C fs => ∃ ca dx vs, g.cn C = some ca ∧ H a = some (.ins ca dx vs) ∧ RFs g H vs fs
theorem RepO.mono {g : G} {H H' : LHp} {a : Addr} {o : O} (t : TLe g H H') (e : H' a = H a) (r : RepO g H a o) : RepO g H' a o := by
  cases o with
  | lst ds => obtain ⟨vs, h, r⟩ := r; exact ⟨vs, by rw [e, h], r.mono t⟩
  | dK kvs => obtain ⟨vs, h, r⟩ := r; exact ⟨vs, by rw [e, h], r.mono t⟩
  | dT kvs => obtain ⟨vs, h, r⟩ := r; exact ⟨vs, by rw [e, h], r.mono t⟩
  | fK kvs => obtain ⟨o, vs, h, r⟩ := r; exact ⟨o, vs, by rw [e, h], r.mono t⟩
  | fT kvs => obtain ⟨o, vs, h, r⟩ := r; exact ⟨o, vs, by rw [e, h], r.mono t⟩
  | ins C fs => obtain ⟨ca, dx, vs, hc, h, r⟩ := r; exact ⟨ca, dx, vs, hc, by rw [e, h], r.mono t⟩
theorem RepO.some {g : G} {H : LHp} {a : Addr} {o : O} (r : RepO g H a o) : ∃ u, H a = some u ∧ (∀ xs, u ≠ .tup xs) ∧ (∀ ob xs, u ≠ .frz ob (.tup xs)) ∧ ∀ ob xs, u ≠ .frz ob (.lst xs) := by
  cases o with
  | lst ds => obtain ⟨vs, h, r⟩ := r; exact ⟨_, h, ⟨(fun _ q => nomatch q), (fun _ _ q => nomatch q), (fun _ _ q => nomatch q)⟩⟩
  | dK kvs => obtain ⟨vs, h, r⟩ := r; exact ⟨_, h, ⟨(fun _ q => nomatch q), (fun _ _ q => nomatch q), (fun _ _ q => nomatch q)⟩⟩
  | dT kvs => obtain ⟨vs, h, r⟩ := r; exact ⟨_, h, ⟨(fun _ q => nomatch q), (fun _ _ q => nomatch q), (fun _ _ q => nomatch q)⟩⟩
  | fK kvs => obtain ⟨o, vs, h, r⟩ := r; exact ⟨_, h, ⟨(fun _ q => nomatch q), (fun _ _ q => by injection q with _ q; exact nomatch q), (fun _ _ q => by injection q with _ q; exact nomatch q)⟩⟩
  | fT kvs => obtain ⟨o, vs, h, r⟩ := r; exact ⟨_, h, ⟨(fun _ q => nomatch q), (fun _ _ q => by injection q with _ q; exact nomatch q), (fun _ _ q => by injection q with _ q; exact nomatch q)⟩⟩
  | ins C fs => obtain ⟨ca, dx, vs, hc, h, r⟩ := r; exact ⟨_, h, ⟨(fun _ q => nomatch q), (fun _ _ q => nomatch q), (fun _ _ q => nomatch q)⟩⟩

/-- the heap of data is held by the layer's -/
def HR (g : G) (h : Hp) (H : LHp) : Prop := ∀ a o, h a = some o → RepO g H a o
/-- all that the data's heap does not hold stays, and it takes none of it -/
def Fr (h : Hp) (H : LHp) (h' : Hp) (H' : LHp) : Prop := (∀ a o, H a = some o → h a = none → H' a = some o ∧ h' a = none) ∧ ∀ a o u, H a = some (.frz o u) → H' a = some (.frz o u)
theorem Fr.refl (h : Hp) (H : LHp) : Fr h H h H := ⟨fun _ _ a b => ⟨a, b⟩, fun _ _ _ a => a⟩
theorem Fr.trans {h h1 h2 : Hp} {H H1 H2 : LHp} (a : Fr h H h1 H1) (b : Fr h1 H1 h2 H2) : Fr h H h2 H2 := ⟨fun x o e n =>
  b.1 x o (a.1 x o e n).1 (a.1 x o e n).2, fun x o u e => b.2 x o u (a.2 x o u e)⟩
def O.wr : O → Bool
  | .fK _ => false
  | .fT _ => false
  | _ => true
theorem RepO.nofrz {g : G} {H : LHp} {a : Addr} {o : O} (r : RepO g H a o) (w : o.wr = true) : ∀ ob u, H a ≠ Option.some (HO.frz ob u) := by
  intro ob u q
  cases o with
  | lst ds => obtain ⟨vs, h, r⟩ := r; rw [h] at q; cases q
  | dK kvs => obtain ⟨vs, h, r⟩ := r; rw [h] at q; cases q
  | dT kvs => obtain ⟨vs, h, r⟩ := r; rw [h] at q; cases q
  | fK kvs => cases w
  | fT kvs => cases w
  | ins C fs => obtain ⟨ca, dx, vs, hc, h, r⟩ := r; rw [h] at q; cases q
theorem HR.off {g : G} {h : Hp} {H : LHp} (r : HR g h H) {a : Addr} {u : HO} (e : H a = some u) (t : (∃ xs, u = .tup xs) ∨ (∃ ob xs, u = .frz ob (.tup xs)) ∨ ∃ ob xs, u = .frz ob (.lst xs)) : h a = none := by
  cases q : h a with
  | none => rfl
  | some o =>
    obtain ⟨u', h1, h2, h3, h4⟩ := (r a o q).some
    rw [e] at h1
    have h1 := Option.some.inj h1
    subst h1
    rcases t with ⟨xs, t⟩ | ⟨ob, xs, t⟩ | ⟨ob, xs, t⟩
    · exact absurd t (h2 xs)
    · exact absurd t (h3 ob xs)
    · exact absurd t (h4 ob xs)
theorem Fr.tle {g : G} {h h' : Hp} {H H' : LHp} (r : HR g h H) (f : Fr h H h' H') : TLe g H H' := by
  refine ⟨fun a xs t => (f.1 a _ t (r.off t (.inl ⟨xs, rfl⟩))).1, fun a xs t => ?_⟩
  rcases t with ⟨ob, t⟩ | t
  · exact .inl ⟨ob, f.2 a _ _ t⟩
  · exact .inr t
theorem HR.none {g : G} {h : Hp} {H : LHp} (r : HR g h H) {a : Addr} (e : H a = Option.none) : h a = Option.none := by
  cases q : h a with
  | none => rfl
  | some o =>
    obtain ⟨u', h1, _⟩ := (r a o q).some
    rw [e] at h1; cases h1
end F

set_option Elab.async false
set_option linter.all false
set_option maxRecDepth 100000
set_option maxHeartbeats 4000000
/-! the bridge: simulations of readings; expressions -/
namespace F
open PySem L2

theorem line_le : line ≤ sizeLine := by decide
theorem TLe.refl (g : G) (H : LHp) : TLe g H H := ⟨fun _ _ h => h, fun _ _ h => h⟩
theorem TLe.trans {g : G} {H H1 H2 : LHp} (a : TLe g H H1) (b : TLe g H1 H2) : TLe g H H2 := ⟨fun x y h => b.1 x y (a.1 x y h), fun x y h => b.2 x y (a.2 x y h)⟩
/-- the slots -/
def RSt (g : G) (H : LHp) (σ : LSt) (σ2 : St) : Prop := σ.length = σ2.length ∧ ∀ i d, sg σ2 i = some d → ∃ v, σ[i]? = some (some v) ∧ Rep g H v d
theorem RSt.mono {g : G} {H H' : LHp} {σ : LSt} {σ2 : St} (t : TLe g H H') (r : RSt g H σ σ2) : RSt g H' σ σ2 :=
  ⟨r.1, fun i d e => by obtain ⟨v, h1, h2⟩ := r.2 i d e; exact ⟨v, h1, h2.mono t⟩⟩
/-- an exception's class and dict -/
def RX (g : G) (H : LHp) (cls : Value) (d : Option Addr) (x : Xc) : Prop :=
  ∃ ca, cls = .ref ca ∧ g.cn x.cls = some ca ∧ match d with
    | none => x.fs = []
    | some dx => ∃ vs, H dx = some (.xd vs) ∧ RFs g H vs x.fs
/-- the wishes about exceptions -/
def Wi (g : G) (W : WX) (E : XW) (h : Hp) (H : LHp) : Prop := ∀ cls d σ H' σ2 h' x, RSt g H' σ σ2 → HR g h' H' → Fr h H h' H' → RX g H' cls d x → E x σ2 h' → W cls d σ H'
theorem Wi.step {g : G} {W : WX} {E : XW} {h h1 : Hp} {H H1 : LHp} (w : Wi g W E h H) (f : Fr h H h1 H1) : Wi g W E h1 H1 :=
  fun cls d σ H' σ2 h' x a b c e g => w cls d σ H' σ2 h' x a b (f.trans c) e g

/-- what is known behind a step -/
abbrev Bk (g : G) (h : Hp) (H : LHp) (Q2 : KV) (Q1 : VK) : Prop := ∀ v d h' H', Rep g H' v d → HR g h' H' → Fr h H h' H' → Q2 d h' → Q1 v H'
def SimE (g : G) (W : WX) (t1 : L2.TE) (t2 : TE) : Prop := ∀ E σ2 h Q2, t2 E σ2 h Q2 → ∀ σ H, RSt g H σ σ2 → HR g h H → Wi g W E h H →
  ∀ Q1 : VK, Bk g h H Q2 Q1 → t1 σ H Q1
def SimT (g : G) (W : WX) (t1 : L2.TT) (t2 : TT) : Prop := ∀ E σ2 h Q2, t2 E σ2 h Q2 → ∀ σ H, RSt g H σ σ2 → HR g h H → Wi g W E h H →
  ∀ Q1 : Bool → LHp → Prop, (∀ b h' H', HR g h' H' → Fr h H h' H' → Q2 b h' → Q1 b H') → t1 σ H Q1
def SimA (g : G) (W : WX) (t1 : L2.TA) (t2 : TA) : Prop := ∀ E σ2 h Q2, t2 E σ2 h Q2 → ∀ σ H, RSt g H σ σ2 → HR g h H → Wi g W E h H →
  ∀ Q1 : List V → LHp → Prop, (∀ vs ds h' H', Reps g H' vs ds → HR g h' H' → Fr h H h' H' → Q2 ds h' → Q1 vs H') → t1 σ H Q1
structure DE (X : Cx) (cn : Cn) (W : WX) (e : Expr) (t2 : TE) : Prop where
  ex : ∃ t1, PE X e t1 ∧ SimE (gOf X cn) W t1 t2
structure DT (X : Cx) (cn : Cn) (W : WX) (e : Expr) (t2 : TT) : Prop where
  ex : ∃ t1, PT X e t1 ∧ SimT (gOf X cn) W t1 t2
structure DW (X : Cx) (cn : Cn) (W : WX) (e : Expr) (t2 : TT) : Prop where
  ex : ∃ t1, PW X e t1 ∧ SimT (gOf X cn) W t1 t2
structure DA (X : Cx) (cn : Cn) (W : WX) (es : List Expr) (t2 : TA) : Prop where
  ex : ∃ t1, PA X es t1 ∧ SimA (gOf X cn) W t1 t2

/-! new objects, written objects -/
section
variable {g : G} {h : Hp} {H : LHp}
theorem tle_new {p : Addr} {u : HO} (n : H p = none) : TLe g H (L2.upd H p u) := by
  refine ⟨fun a xs t => ?_, fun a xs t => ?_⟩
  · rw [L2.upd_ne (L2.ne_of_none t n)]; exact t
  · rcases t with ⟨ob, t⟩ | t
    · exact .inl ⟨ob, by rw [L2.upd_ne (L2.ne_of_none t n)]; exact t⟩
    · exact .inr t
theorem hr_new {p : Addr} {o : O} {u : HO} (r : HR g h H) (n : H p = none) (ro : RepO g (L2.upd H p u) p o) : HR g (upd h p o) (L2.upd H p u) := fun a o' e => by
  by_cases q : a = p
  · subst q
    rw [upd_same] at e
    cases Option.some.inj e
    exact ro
  · rw [upd_ne q] at e
    exact (r a o' e).mono (tle_new n) (L2.upd_ne q)
theorem hr_tup {p : Addr} {u : HO} (r : HR g h H) (n : H p = none) : HR g h (L2.upd H p u) := fun a o' e => by
  have q : a ≠ p := by
    intro q; subst q
    obtain ⟨u', h1, _⟩ := (r a o' e).some
    rw [n] at h1; cases h1
  exact (r a o' e).mono (tle_new n) (L2.upd_ne q)
theorem fr_new {p : Addr} {o : O} {u : HO} (n : H p = none) : Fr h H (upd h p o) (L2.upd H p u) := by
  refine ⟨fun a u' e e2 => ?_, fun a o' u' e => ?_⟩
  · have q : a ≠ p := L2.ne_of_none e n
    rw [upd_ne q, L2.upd_ne q]
    exact ⟨e, e2⟩
  · rw [L2.upd_ne (L2.ne_of_none e n)]; exact e
theorem fr_tup {p : Addr} {u : HO} (n : H p = none) : Fr h H h (L2.upd H p u) := by
  refine ⟨fun a u' e e2 => ?_, fun a o' u' e => ?_⟩
  · have q : a ≠ p := L2.ne_of_none e n
    rw [L2.upd_ne q]
    exact ⟨e, e2⟩
  · rw [L2.upd_ne (L2.ne_of_none e n)]; exact e
theorem tle_write {p : Addr} {u u' : HO} (e : H p = some u) (t1 : ∀ xs, u ≠ .tup xs) (t2 : ∀ ob xs, u ≠ .frz ob (.tup xs)) (t3 : ∀ ob xs, u ≠ .frz ob (.lst xs)) : TLe g H (L2.upd H p u') := by
  refine ⟨fun a xs t => ?_, fun a xs t => ?_⟩
  · rw [L2.upd_ne (L2.ne_of t e (t1 xs).symm)]; exact t
  · rcases t with ⟨ob, t⟩ | t
    · exact .inl ⟨ob, by rw [L2.upd_ne (L2.ne_of t e (t3 ob xs).symm)]; exact t⟩
    · exact .inr t
theorem hr_write {p : Addr} {o o' : O} {u' : HO} (r : HR g h H) (e : h p = some o) (ro : RepO g (L2.upd H p u') p o') : HR g (upd h p o') (L2.upd H p u') := fun a o1 e1 => by
  by_cases q : a = p
  · subst q
    rw [upd_same] at e1
    cases Option.some.inj e1
    exact ro
  · rw [upd_ne q] at e1
    obtain ⟨u, h1, h2, h3, h4⟩ := (r p o e).some
    exact (r a o1 e1).mono (tle_write h1 h2 h3 h4) (L2.upd_ne q)
theorem fr_write {p : Addr} {o o' : O} {u' : HO} (r : HR g h H) (e : h p = some o) (w : o.wr = true) : Fr h H (upd h p o') (L2.upd H p u') := by
  refine ⟨fun a u1 e1 e2 => ?_, fun a ob u1 e1 => ?_⟩
  · have q : a ≠ p := by intro q; subst q; rw [e] at e2; cases e2
    rw [upd_ne q, L2.upd_ne q]
    exact ⟨e1, e2⟩
  · have q : a ≠ p := by intro q; subst q; exact (r a o e).nofrz w ob u1 e1
    rw [L2.upd_ne q]; exact e1
theorem HR.tw {p : Addr} {o : O} {u' : HO} (r : HR g h H) (e : h p = some o) : TLe g H (L2.upd H p u') := by
  obtain ⟨u, h1, h2, h3, h4⟩ := (r p o e).some
  exact tle_write h1 h2 h3 h4
end

/-! operations by values -/
def OpS (g : G) (r1 : L2.R2) (r2 : R2) : Prop := ∀ x y h Q2, r2 x y h Q2 → ∀ v w H, Rep g H v x → Rep g H w y → HR g h H → ∀ Q1 : VK, Bk g h H Q2 Q1 → r1 v w H Q1
def UnS (g : G) (r1 : V → LHp → VK → Prop) (r2 : R1) : Prop := ∀ x h Q2, r2 x h Q2 → ∀ v H, Rep g H v x → HR g h H → ∀ Q1 : VK, Bk g h H Q2 Q1 → r1 v H Q1
def CaS (g : G) (r1 : List V → LHp → VK → Prop) (r2 : RC) : Prop := ∀ xs h Q2, r2 xs h Q2 → ∀ vs H, Reps g H vs xs → HR g h H → ∀ Q1 : VK, Bk g h H Q2 Q1 → r1 vs H Q1

section
variable {X : Cx} {cn : Cn} {W : WX} {a b c : Expr} {ta tb tc : TE} {pos : Pos}
theorem SimE.bin {g : G} {t1 u1 : L2.TE} {t2 u2 : TE} {r1 : L2.R2} {r2 : R2} (ha : SimE g W t1 t2) (hb : SimE g W u1 u2) (hr : OpS g r1 r2) : SimE g W (tOp r1 t1 u1) (eBin r2 t2 u2) := by
  intro E σ2 h Q2 q σ H rs hh w Q1 k
  refine ha E σ2 h _ q σ H rs hh w _ fun v d h1 H1 rv hh1 f1 q1 => ?_
  refine hb E σ2 h1 _ q1 σ H1 (rs.mono (f1.tle hh)) hh1 (w.step f1) _ fun v' d' h2 H2 rw hh2 f2 q2 => ?_
  exact hr _ _ _ _ q2 _ _ _ (rv.mono (f2.tle hh1)) rw hh2 _ fun z y h3 H3 rz hh3 f3 q3 => k z y h3 H3 rz hh3 ((f1.trans f2).trans f3) q3
theorem SimE.un {g : G} {t1 : L2.TE} {t2 : TE} {r1 : V → LHp → VK → Prop} {r2 : R1} (ha : SimE g W t1 t2) (hr : UnS g r1 r2) : SimE g W (tUn r1 t1) (eUn r2 t2) := by
  intro E σ2 h Q2 q σ H rs hh w Q1 k
  refine ha E σ2 h _ q σ H rs hh w _ fun v d h1 H1 rv hh1 f1 q1 => ?_
  exact hr _ _ _ q1 _ _ rv hh1 _ fun z y h3 H3 rz hh3 f3 q3 => k z y h3 H3 rz hh3 (f1.trans f3) q3
/-! names and constants -/
theorem de_var (i : Nat) {x : Str} (hN : X.N[i]? = some x := by rfl) (hv : Vis X.env.scope x := by first | exact .inl rfl | exact .inr (.inl rfl) | exact .inr (.inr rfl)) (hd : (x == ("__debug__" : Str)) = false := by decide) (hcd : (x == ("__classdict__" : Str)) = false := by decide) : DE X cn W (.Name x pos) (eVar i) := by
  refine ⟨_, pe_var hN hv hd hcd, fun E σ2 h Q2 q σ H rs hh w Q1 k => ?_⟩
  unfold eVar at q
  cases e : sg σ2 i with
  | none => rw [e] at q; exact q.elim
  | some d =>
    rw [e] at q
    obtain ⟨v, h1, h2⟩ := rs.2 i d e
    exact ⟨v, h1, k v d h H h2 hh (Fr.refl h H) q⟩
theorem SimE.const {g : G} {v : V} {d : D} (r : ∀ H, Rep g H v d) : SimE g W (tC v) (eC d) := fun E σ2 h Q2 q σ H rs hh w Q1 k => k v d h H (r H) hh (Fr.refl h H) q
theorem de_int {i : Int} {j : Nat} : DE X cn W (.Constant (.int i) j pos) (eC (.int i)) := ⟨_, pe_int, SimE.const fun _ => .int i⟩
theorem de_bl {b : Bool} {j : Nat} : DE X cn W (.Constant (.bool b) j pos) (eC (.bl b)) := ⟨_, pe_bl, SimE.const fun _ => .bl b⟩
theorem de_non {j : Nat} : DE X cn W (.Constant .none j pos) (eC .non) := ⟨_, pe_non, SimE.const fun _ => .non⟩
theorem de_str {x : Str} {j : Nat} : DE X cn W (.Constant (.str x) j pos) (eC (.str x)) := ⟨_, pe_str, SimE.const fun _ => .str x⟩
/-- a constant of the module -/
theorem de_glob {x : Str} {v : V} {u : Value} {d : D} (hg : Gl X x) (hm : X.mg x = some u) (r : RelV v u) (rd : ∀ H, Rep (gOf X cn) H v d) (hd : (x == ("__debug__" : Str)) = false := by decide) : DE X cn W (.Name x pos) (eC d) :=
  ⟨_, pe_glob hg hm r hd, SimE.const rd⟩
/-! operators -/
def DB (X : Cx) (cn : Cn) (f : Value → Value → Sem Value) (r2 : R2) : Prop := ∃ r1, OpR X f r1 ∧ OpS (gOf X cn) r1 r2
theorem de_bin {op : Operator} {r2 : R2} (h : DB X cn (binaryOp op) r2) (ha : DE X cn W a ta) (hb : DE X cn W b tb) : DE X cn W (.BinOp a op b pos) (eBin r2 ta tb) := by
  obtain ⟨r1, h1, h2⟩ := h
  obtain ⟨t1, p1, s1⟩ := ha
  obtain ⟨u1, p2, s2⟩ := hb
  exact ⟨_, pe_op h1 p1 p2, SimE.bin s1 s2 h2⟩
theorem de_cmp {op : CmpOp} {r2 : R2} (h : DB X cn (compareOp op) r2) (ha : DE X cn W a ta) (hb : DE X cn W b tb) (hm : behindInMarks op b = false) : DE X cn W (.Compare a [op] [b] pos) (eBin r2 ta tb) := by
  obtain ⟨r1, h1, h2⟩ := h
  obtain ⟨t1, p1, s1⟩ := ha
  obtain ⟨u1, p2, s2⟩ := hb
  exact ⟨_, pe_cmpR h1 p1 p2 hm, SimE.bin s1 s2 h2⟩
theorem SimT.of {g : G} {t1 : L2.TE} {t2 : TE} (s : SimE g W t1 t2) : SimT g W (tTest t1) (tVal t2) := by
  intro E σ2 h Q2 q σ H rs hh w Q1 k
  refine s E σ2 h _ q σ H rs hh w _ fun v d h1 H1 rv hh1 f1 q1 => ?_
  cases rv with
  | bl b => exact ⟨b, rfl, k b h1 H1 hh1 f1 q1⟩
  | non => exact q1.elim
  | int i => exact q1.elim
  | str x => exact q1.elim
  | tup h r => exact q1.elim
  | ref a => exact q1.elim
  | ro h r => exact q1.elim
  | ct h r => exact q1.elim
  | wd h r => exact q1.elim
theorem dt_cmp {op : CmpOp} {r2 : R2} (h : DB X cn (compareOp op) r2) (ha : DE X cn W a ta) (hb : DE X cn W b tb) (hm : behindInMarks op b = false) : DT X cn W (.Compare a [op] [b] pos) (tVal (eBin r2 ta tb)) := by
  obtain ⟨r1, h1, h2⟩ := h
  obtain ⟨t1, p1, s1⟩ := ha
  obtain ⟨u1, p2, s2⟩ := hb
  exact ⟨_, pt_cmpR h1 p1 p2 hm, SimT.of (SimE.bin s1 s2 h2)⟩
theorem dt_val {e : Expr} {t : TE} (h : DE X cn W e t) (he : ∀ whole, isTrue e X.env whole = (do let v ← whole; standAt e.pos; holding [v] (truthy v)) := by intro _; rfl) : DT X cn W e (tVal t) := by
  obtain ⟨t1, p1, s1⟩ := h
  exact ⟨_, pt_val p1 he, SimT.of s1⟩
theorem de_un {op : UnaryOp} {r1 : V → LHp → VK → Prop} {r2 : R1} (h1 : UnR X (unaryOp op) r1) (h2 : UnS (gOf X cn) r1 r2) (ha : DE X cn W a ta) : DE X cn W (.UnaryOp op a pos) (eUn r2 ta) := by
  obtain ⟨t1, p1, s1⟩ := ha
  exact ⟨_, pe_un h1 p1, SimE.un s1 h2⟩
theorem uns_neg {g : G} : UnS g (rU fun i => .int (-i)) rNeg := by
  intro x h Q2 q v H r hh Q1 k
  cases r with
  | int i => exact ⟨i, rfl, k _ _ h H (.int _) hh (Fr.refl h H) q⟩
  | bl b => exact q.elim
  | non => exact q.elim
  | str x => exact q.elim
  | tup h r => exact q.elim
  | ref a => exact q.elim
  | ro h r => exact q.elim
  | ct h r => exact q.elim
  | wd h r => exact q.elim
theorem de_neg (ha : DE X cn W a ta) : DE X cn W (.UnaryOp .USub a pos) (eUn rNeg ta) := de_un un_neg uns_neg ha
/-! is None -/
theorem Rep.non_iff {g : G} {H : LHp} {v : V} {d : D} (r : Rep g H v d) : decide (v = .non) = d.isNon := by
  cases r <;> first | rfl | exact decide_eq_false (fun q => nomatch q)
theorem de_isN {j : Nat} {pos' : Pos} (ha : DE X cn W a ta) : DE X cn W (.Compare a [.Is] [.Constant .none j pos'] pos) (eUn rIsN ta) := by
  obtain ⟨t1, p1, s1⟩ := ha
  refine ⟨_, pe_cmpR op_isN p1 pe_non (nomark _), fun E σ2 h Q2 q σ H rs hh w Q1 k => ?_⟩
  refine s1 E σ2 h _ q σ H rs hh w _ fun v d h1 H1 rv hh1 f1 q1 => ?_
  refine ⟨rfl, ?_⟩
  rw [rv.non_iff]
  exact k _ _ h1 H1 (.bl _) hh1 f1 q1
theorem de_notN {j : Nat} {pos' : Pos} (ha : DE X cn W a ta) : DE X cn W (.Compare a [.IsNot] [.Constant .none j pos'] pos) (eUn rIsNotN ta) := by
  obtain ⟨t1, p1, s1⟩ := ha
  refine ⟨_, pe_cmpR op_notN p1 pe_non (nomark _), fun E σ2 h Q2 q σ H rs hh w Q1 k => ?_⟩
  refine s1 E σ2 h _ q σ H rs hh w _ fun v d h1 H1 rv hh1 f1 q1 => ?_
  refine ⟨rfl, ?_⟩
  rw [rv.non_iff]
  exact k _ _ h1 H1 (.bl _) hh1 f1 q1
/-! and, or, not; if -/
theorem dw_pt {t : TT} (h : DW X cn W a t) : DT X cn W a t := by obtain ⟨t1, p, s⟩ := h; exact ⟨_, p.pt, s⟩
variable {rest : List Expr} {t u : TT}
theorem dw_and1 (h : DT X cn W a t) : DW X cn W (.BoolOp .And [a] pos) t := by obtain ⟨t1, p, s⟩ := h; exact ⟨_, pw_and1 p, s⟩
theorem dw_or1 (h : DT X cn W a t) : DW X cn W (.BoolOp .Or [a] pos) t := by obtain ⟨t1, p, s⟩ := h; exact ⟨_, pw_or1 p, s⟩
theorem dw_and (ha : DT X cn W a t) (hb : DW X cn W (.BoolOp .And (b :: rest) pos) u) : DW X cn W (.BoolOp .And (a :: b :: rest) pos) (F.tAnd t u) := by
  obtain ⟨t1, p1, s1⟩ := ha
  obtain ⟨u1, p2, s2⟩ := hb
  refine ⟨_, pw_and p1 p2, fun E σ2 h Q2 q σ H rs hh w Q1 k => ?_⟩
  refine s1 E σ2 h _ q σ H rs hh w _ fun v h1 H1 hh1 f1 q1 => ?_
  cases v with
  | true =>
    rw [if_pos rfl] at q1 ⊢
    exact s2 E σ2 h1 _ q1 σ H1 (rs.mono (f1.tle hh)) hh1 (w.step f1) _ fun b h2 H2 hh2 f2 q2 => k b h2 H2 hh2 (f1.trans f2) q2
  | false =>
    rw [if_neg (by decide)] at q1 ⊢
    exact k _ h1 H1 hh1 f1 q1
theorem dw_or (ha : DT X cn W a t) (hb : DW X cn W (.BoolOp .Or (b :: rest) pos) u) : DW X cn W (.BoolOp .Or (a :: b :: rest) pos) (F.tOr t u) := by
  obtain ⟨t1, p1, s1⟩ := ha
  obtain ⟨u1, p2, s2⟩ := hb
  refine ⟨_, pw_or p1 p2, fun E σ2 h Q2 q σ H rs hh w Q1 k => ?_⟩
  refine s1 E σ2 h _ q σ H rs hh w _ fun v h1 H1 hh1 f1 q1 => ?_
  cases v with
  | false =>
    rw [if_neg (by decide)] at q1 ⊢
    exact s2 E σ2 h1 _ q1 σ H1 (rs.mono (f1.tle hh)) hh1 (w.step f1) _ fun b h2 H2 hh2 f2 q2 => k b h2 H2 hh2 (f1.trans f2) q2
  | true =>
    rw [if_pos rfl] at q1 ⊢
    exact k _ h1 H1 hh1 f1 q1
theorem dt_not (ha : DT X cn W a t) : DT X cn W (.UnaryOp .Not a pos) (F.tNot t) := by
  obtain ⟨t1, p1, s1⟩ := ha
  refine ⟨_, pt_not p1, fun E σ2 h Q2 q σ H rs hh w Q1 k => ?_⟩
  exact s1 E σ2 h _ q σ H rs hh w _ fun v h1 H1 hh1 f1 q1 => k _ h1 H1 hh1 f1 q1
theorem de_one {op : BoolOp} (h : DE X cn W a ta) : DE X cn W (.BoolOp op [a] pos) ta := by obtain ⟨t1, p, s⟩ := h; exact ⟨_, pe_one p, s⟩
theorem de_and (ha : DE X cn W a ta) (hb : DE X cn W (.BoolOp .And (b :: rest) pos) tb) : DE X cn W (.BoolOp .And (a :: b :: rest) pos) (eAnd ta tb) := by
  obtain ⟨t1, p1, s1⟩ := ha
  obtain ⟨u1, p2, s2⟩ := hb
  refine ⟨_, pe_and p1 p2, fun E σ2 h Q2 q σ H rs hh w Q1 k => ?_⟩
  refine s1 E σ2 h _ q σ H rs hh w _ fun v d h1 H1 rv hh1 f1 q1 => ?_
  cases rv with
  | bl v =>
    refine ⟨v, rfl, ?_⟩
    cases v with
    | true =>
      rw [if_pos rfl]
      exact s2 E σ2 h1 _ q1 σ H1 (rs.mono (f1.tle hh)) hh1 (w.step f1) _ fun v d h2 H2 rv hh2 f2 q2 => k v d h2 H2 rv hh2 (f1.trans f2) q2
    | false =>
      rw [if_neg (by decide)]
      exact k _ _ h1 H1 (.bl _) hh1 f1 q1
  | non => exact q1.elim
  | int i => exact q1.elim
  | str x => exact q1.elim
  | tup h r => exact q1.elim
  | ref a => exact q1.elim
  | ro h r => exact q1.elim
  | ct h r => exact q1.elim
  | wd h r => exact q1.elim
theorem de_or (ha : DE X cn W a ta) (hb : DE X cn W (.BoolOp .Or (b :: rest) pos) tb) : DE X cn W (.BoolOp .Or (a :: b :: rest) pos) (eOr ta tb) := by
  obtain ⟨t1, p1, s1⟩ := ha
  obtain ⟨u1, p2, s2⟩ := hb
  refine ⟨_, pe_or p1 p2, fun E σ2 h Q2 q σ H rs hh w Q1 k => ?_⟩
  refine s1 E σ2 h _ q σ H rs hh w _ fun v d h1 H1 rv hh1 f1 q1 => ?_
  cases rv with
  | bl v =>
    refine ⟨v, rfl, ?_⟩
    cases v with
    | false =>
      rw [if_neg (by decide)]
      exact s2 E σ2 h1 _ q1 σ H1 (rs.mono (f1.tle hh)) hh1 (w.step f1) _ fun v d h2 H2 rv hh2 f2 q2 => k v d h2 H2 rv hh2 (f1.trans f2) q2
    | true =>
      rw [if_pos rfl]
      exact k _ _ h1 H1 (.bl _) hh1 f1 q1
  | non => exact q1.elim
  | int i => exact q1.elim
  | str x => exact q1.elim
  | tup h r => exact q1.elim
  | ref a => exact q1.elim
  | ro h r => exact q1.elim
  | ct h r => exact q1.elim
  | wd h r => exact q1.elim
theorem de_not (ha : DE X cn W a ta) : DE X cn W (.UnaryOp .Not a pos) (eNot ta) := by
  obtain ⟨t1, p1, s1⟩ := ha
  refine ⟨_, pe_not p1, fun E σ2 h Q2 q σ H rs hh w Q1 k => ?_⟩
  refine s1 E σ2 h _ q σ H rs hh w _ fun v d h1 H1 rv hh1 f1 q1 => ?_
  cases rv with
  | bl v => exact ⟨v, rfl, k _ _ h1 H1 (.bl _) hh1 f1 q1⟩
  | non => exact q1.elim
  | int i => exact q1.elim
  | str x => exact q1.elim
  | tup h r => exact q1.elim
  | ref a => exact q1.elim
  | ro h r => exact q1.elim
  | ct h r => exact q1.elim
  | wd h r => exact q1.elim
theorem de_if (hc : DT X cn W c t) (ha : DE X cn W a ta) (hb : DE X cn W b tb) : DE X cn W (.IfExp c a b pos) (eIf t ta tb) := by
  obtain ⟨t1, p1, s1⟩ := hc
  obtain ⟨u1, p2, s2⟩ := ha
  obtain ⟨u3, p3, s3⟩ := hb
  refine ⟨_, pe_ifExp p1 p2 p3, fun E σ2 h Q2 q σ H rs hh w Q1 k => ?_⟩
  refine s1 E σ2 h _ q σ H rs hh w _ fun v h1 H1 hh1 f1 q1 => ?_
  cases v with
  | true =>
    rw [if_pos rfl] at q1 ⊢
    exact s2 E σ2 h1 _ q1 σ H1 (rs.mono (f1.tle hh)) hh1 (w.step f1) _ fun v d h2 H2 rv hh2 f2 q2 => k v d h2 H2 rv hh2 (f1.trans f2) q2
  | false =>
    rw [if_neg (by decide)] at q1 ⊢
    exact s3 E σ2 h1 _ q1 σ H1 (rs.mono (f1.tle hh)) hh1 (w.step f1) _ fun v d h2 H2 rv hh2 f2 q2 => k v d h2 H2 rv hh2 (f1.trans f2) q2
theorem de_chain {op op' : CmpOp} {r r' : R2} (h : DB X cn (compareOp op) r) (h' : DB X cn (compareOp op') r') (ha : DE X cn W a ta) (hb : DE X cn W b tb) (hc : DE X cn W c tc)
    (hm : lastMarks [op, op'] [b, c] = false := by rfl) : DE X cn W (.Compare a [op, op'] [b, c] pos) (eChain r r' ta tb tc) := by
  obtain ⟨r1, h1, h2⟩ := h
  obtain ⟨r3, h3, h4⟩ := h'
  obtain ⟨t1, p1, s1⟩ := ha
  obtain ⟨u1, p2, s2⟩ := hb
  obtain ⟨u3, p3, s3⟩ := hc
  refine ⟨_, pe_chain h1 h3 p1 p2 p3 hm, fun E σ2 h Q2 q σ H rs hh w Q1 k => ?_⟩
  refine s1 E σ2 h _ q σ H rs hh w _ fun v d h1 H1 rv hh1 f1 q1 => ?_
  refine s2 E σ2 h1 _ q1 σ H1 (rs.mono (f1.tle hh)) hh1 (w.step f1) _ fun v' d' hb Hb rv' hhb fb qb => ?_
  refine h2 _ _ _ _ qb _ _ _ (rv.mono (fb.tle hh1)) rv' hhb _ fun z y hc Hc rz hhc fc qc => ?_
  cases rz with
  | bl v =>
    refine ⟨v, rfl, ?_⟩
    cases v with
    | true =>
      rw [if_pos rfl]
      refine s3 E σ2 hc _ qc σ Hc (rs.mono ((((f1.trans fb).trans fc)).tle hh)) hhc (w.step ((f1.trans fb).trans fc)) _ fun v2 d2 hd Hd rv2 hhd fd qd => ?_
      exact h4 _ _ _ _ qd _ _ _ (rv'.mono ((fc.trans fd).tle hhb)) rv2 hhd _ fun z y he He rz hhe fe qe => k z y he He rz hhe (((f1.trans fb).trans fc).trans (fd.trans fe)) qe
    | false =>
      rw [if_neg (by decide)]
      exact k _ _ hc Hc (.bl _) hhc ((f1.trans fb).trans fc) qc
  | non => exact qc.elim
  | int i => exact qc.elim
  | str x => exact qc.elim
  | tup h r => exact qc.elim
  | ref a => exact qc.elim
  | ro h r => exact qc.elim
  | ct h r => exact qc.elim
  | wd h r => exact qc.elim
/-! arguments, displays -/
variable {e : Expr} {es : List Expr} {te : TE} {tr : TA}
theorem da_nil : DA X cn W [] aNil := ⟨_, pa_nil, fun E σ2 h Q2 q σ H rs hh w Q1 k => k _ _ h H .nil hh (Fr.refl h H) q⟩
theorem da_cons (ha : DE X cn W e te) (hr : DA X cn W es tr) (hs : starEach (e :: es) X.env = (false, eval e X.env) :: starEach es X.env := by rfl) : DA X cn W (e :: es) (aCons te tr) := by
  obtain ⟨t1, p1, s1⟩ := ha
  obtain ⟨u1, p2, s2⟩ := hr
  refine ⟨_, pa_cons p1 p2 hs, fun E σ2 h Q2 q σ H rs hh w Q1 k => ?_⟩
  refine s1 E σ2 h _ q σ H rs hh w _ fun v d h1 H1 rv hh1 f1 q1 => ?_
  exact s2 E σ2 h1 _ q1 σ H1 (rs.mono (f1.tle hh)) hh1 (w.step f1) _ fun vs ds h2 H2 rv' hh2 f2 q2 => k _ _ h2 H2 (.cons (rv.mono (f2.tle hh1)) rv') hh2 (f1.trans f2) q2
theorem de_tup {x1 : Nat} (h : DA X cn W es tr) : DE X cn W (.Tuple es x1 pos) (eTup tr) := by
  obtain ⟨t1, p1, s1⟩ := h
  refine ⟨_, pe_tup p1, fun E σ2 h Q2 q σ H rs hh w Q1 k => ?_⟩
  refine s1 E σ2 h _ q σ H rs hh w _ fun vs ds h1 H1 rv hh1 f1 q1 => ?_
  refine ⟨Nat.le_trans (by rw [rv.length]; exact q1.1) line_le, fun p np => k _ _ h1 _ (.tup L2.upd_same (rv.mono (tle_new np))) (hr_tup hh1 np) (f1.trans (fr_tup np)) q1.2⟩
theorem de_lst (h : DA X cn W es tr) : DE X cn W (.List es pos) (eLst tr) := by
  obtain ⟨t1, p1, s1⟩ := h
  refine ⟨_, pe_lst p1, fun E σ2 h Q2 q σ H rs hh w Q1 k => ?_⟩
  refine s1 E σ2 h _ q σ H rs hh w _ fun vs ds h1 H1 rv hh1 f1 q1 => ?_
  refine ⟨Nat.le_trans (by rw [rv.length]; exact q1.1) line_le, fun p np => k _ _ (upd h1 p (.lst ds)) _ (.ref p) (hr_new hh1 np ⟨_, L2.upd_same, rv.mono (tle_new np)⟩) (f1.trans (fr_new np)) (q1.2 p (hh1.none np))⟩
end
end F

set_option Elab.async false
set_option linter.all false
set_option maxRecDepth 100000
set_option maxHeartbeats 4000000
/-! the bridge: operations by values -/
namespace F
open PySem PySem.Spec PyProof.Rows L2

section
variable {X : Cx} {cn : Cn}
/-! what a value stands for -/
theorem Rep.int_inv {g : G} {H : LHp} {v : V} {i : Int} (r : Rep g H v (.int i)) : v = .int i := by cases r; rfl
theorem Rep.str_inv {g : G} {H : LHp} {v : V} {x : Str} (r : Rep g H v (.str x)) : v = .str x := by cases r; rfl
theorem Rep.bl_inv {g : G} {H : LHp} {v : V} {b : Bool} (r : Rep g H v (.bl b)) : v = .bl b := by cases r; rfl
theorem Rep.non_inv {g : G} {H : LHp} {v : V} (r : Rep g H v .non) : v = .non := by cases r; rfl
theorem Rep.ref_inv {g : G} {H : LHp} {v : V} {a : Nat} (r : Rep g H v (.ref a)) : v = .ref a := by cases r; rfl
theorem Rep.tup_inv {g : G} {H : LHp} {v : V} {ds : List D} (r : Rep g H v (.tup ds)) : ∃ a vs, v = .ref a ∧ H a = some (.tup vs) ∧ Reps g H vs ds := by
  cases r with
  | tup h r => exact ⟨_, _, rfl, h, r⟩
theorem Rep.ro_inv {g : G} {H : LHp} {v : V} {ds : List D} (r : Rep g H v (.ro ds)) : ∃ a vs, v = .ref a ∧ RoL g.K H a vs ∧ Reps g H vs ds := by
  cases r with
  | ro h r => exact ⟨_, _, rfl, h, r⟩
theorem Reps.one_inv {g : G} {H : LHp} {vs : List V} {d : D} (r : Reps g H vs [d]) : ∃ v, vs = [v] ∧ Rep g H v d := by
  cases r with
  | cons a b => cases b; exact ⟨_, rfl, a⟩
theorem Reps.two_inv {g : G} {H : LHp} {vs : List V} {d e : D} (r : Reps g H vs [d, e]) : ∃ v w, vs = [v, w] ∧ Rep g H v d ∧ Rep g H w e := by
  cases r with
  | cons a b =>
    obtain ⟨w, rfl, q⟩ := b.one_inv
    exact ⟨_, w, rfl, a, q⟩
theorem Reps.nil_inv {g : G} {H : LHp} {vs : List V} (r : Reps g H vs []) : vs = [] := by cases r; rfl

/-! arithmetic -/
theorem db_add : DB X cn (binaryOp .Add) rAdd := by
  refine ⟨_, ((OpR.or op_add op_add_str).or op_catA).or op_cat, fun x y h Q2 q v w H rx ry hh Q1 k => ?_⟩
  unfold rAdd at q
  split at q
  · cases rx; cases ry
    exact .inl (.inl (.inl ⟨_, _, rfl, rfl, k _ _ h H (.int _) hh (Fr.refl h H) q⟩))
  · cases rx; cases ry
    exact .inl (.inl (.inr ⟨_, _, rfl, rfl, Nat.le_trans q.1 line_le, k _ _ h H (.str _) hh (Fr.refl h H) q.2⟩))
  · obtain ⟨a, vs, rfl, h1, r1⟩ := rx.tup_inv
    obtain ⟨b, ws, rfl, h2, r2⟩ := ry.tup_inv
    refine .inl (.inr ⟨a, b, vs, ws, rfl, rfl, SqT.of h1, SqT.of h2, Nat.le_trans (by rw [r1.length, r2.length]; exact q.1) line_le, fun e => ?_, fun e1 e2 => ?_, fun e1 e2 p np => ?_⟩)
    · refine k _ _ h H (.tup h2 ?_) hh (Fr.refl h H) q.2
      have := r1.append r2
      rw [e] at this; exact this
    · refine k _ _ h H (.tup h1 ?_) hh (Fr.refl h H) q.2
      have := r1.append r2
      rw [e2, List.append_nil] at this; exact this
    · exact k _ _ h _ (.tup L2.upd_same ((r1.append r2).mono (tle_new np))) (hr_tup hh np) (fr_tup np) q.2
  · cases rx; cases ry
    obtain ⟨xs, ys, h1, h2, hl, q⟩ := q
    obtain ⟨vs, e1, r1⟩ := hh _ _ h1
    obtain ⟨ws, e2, r2⟩ := hh _ _ h2
    refine .inr ⟨_, _, vs, ws, rfl, rfl, e1, e2, Nat.le_trans (by rw [r1.length, r2.length]; exact hl) line_le, fun p np => ?_⟩
    exact k _ _ (upd h p (.lst (xs ++ ys))) _ (.ref p) (hr_new hh np ⟨_, L2.upd_same, (r1.append r2).mono (tle_new np)⟩) (fr_new np) (q p (hh.none np))
  · exact q.elim
theorem db_sub : DB X cn (binaryOp .Sub) rSub := by
  refine ⟨_, op_sub, fun x y h Q2 q v w H rx ry hh Q1 k => ?_⟩
  unfold rSub at q
  split at q
  · cases rx; cases ry
    exact ⟨_, _, rfl, rfl, k _ _ h H (.int _) hh (Fr.refl h H) q⟩
  · exact q.elim
end
section
open PySem.Spec PyProof.Rows
/-- a tuple times one is itself -/
theorem tuple_mul1 (l : Addr) (items : Array Value) (n : Nat) (dd : Option Addr) (sl : Array (Option Value)) (u : Tok) :
    Meets (Builtin.«tuple.__mul__» ⟨[.ref l, .int 1 u], []⟩) (fun _ R s => s.heap.get? l = some { cls := .type "tuple", dict := dd, data := .seq items n, slots := sl } ∧
      R (.ok (.ret (Value.ref l))) s) :=
  .of_wp fun prog w A R s h => by
    obtain ⟨hp, g, d, tk, os⟩ := s
    obtain ⟨hl, h⟩ := h
    have f1 := AutoSeq1.idx_int
    have c0 : (decide ((1 : Int) < -(2 ^ 63)) || decide ((1 : Int) ≥ 2 ^ 63)) = false := by decide
    have c1 : (items.isEmpty || (1 : Int) == 1) = true := by simp
    wp_walk using wpAny_loadPart' hl
    repeat (first
      | (refine wpAny_ite_false (decide_eq_false (by rw [c0]; exact Bool.false_ne_true)) ?_; wp_walk using wpAny_loadPart' hl)
      | (refine wpAny_ite_true (decide_eq_true (by rw [c1])) ?_; wp_walk using wpAny_loadPart' hl))
    exact ⟨_, rfl, h⟩
end
section
variable {X : Cx} {cn : Cn}
theorem db_mul : DB X cn (binaryOp .Mult) rMul := by
  refine ⟨_, ((OpR.or op_mul op_repT).or op_rep).or (r' := fun x y H Q => ∃ l xs, x = .ref l ∧ y = .int 1 ∧ SqT X.K H l xs ∧ Q (.ref l) H) ?_, fun x y h Q2 q v w H rx ry hh Q1 k => ?_⟩
  · intro pins s σ H x y v u Q I rx ry h
    obtain ⟨l, xs, rfl, rfl, hT, q⟩ := h
    cases rx
    obtain ⟨t, rfl⟩ := ry
    obtain ⟨its, r, ⟨⟨cls, dd, data, sl⟩, ho, hc, n, hd⟩, hs⟩ := I.tuple hT
    simp only at hc hd
    subst hc hd
    exact wpAny_binaryOp_repeat_ref (T := "tuple") (U := "int") (by decide) ⟨_, ho, rfl⟩ (fun s' => typeIs_int s' 1 t) noFill_tuple_mul F.fills_int_mul F.slot_int_rmul repeat_tuple F.slot_int_index.lookup
      (call_meets F.slot_int_rmul (typeIs_int s 1 t) F.entry_int_rmul (F.args_int_rmul_2 _ _) (int_rmul_tuple 1 t l its.toArray n dd sl)
        ⟨ho, rfl, ⟨_, ho, rfl⟩, call_meets F.slot_tuple_mul ⟨_, ho, rfl⟩ F.entry_tuple_mul (F.args_tuple_mul_2 _ _) (tuple_mul1 l its.toArray n dd sl t) ⟨ho, ⟨.ref l, H, I, rfl, q⟩⟩⟩)
  unfold rMul at q
  split at q
  · cases rx; cases ry
    exact .inl (.inl (.inl ⟨_, _, rfl, rfl, q.1, k _ _ h H (.int _) hh (Fr.refl h H) q.2⟩))
  · rename_i xs m
    obtain ⟨a, vs, rfl, h1, r1⟩ := rx.tup_inv
    cases ry
    obtain ⟨hne, h1k, h2k, hl, q⟩ := q
    by_cases e : m = 1
    · subst e
      refine .inr ⟨a, vs, rfl, rfl, SqT.of h1, k _ _ h H (.tup h1 ?_) hh (Fr.refl h H) q⟩
      have : (List.replicate (1 : Int).toNat xs).flatten = xs := by simp
      rw [this]; exact r1
    · refine .inl (.inl (.inr ⟨a, m, vs, rfl, rfl, SqT.of h1, ?_, by omega, h2k, by rw [r1.length]; exact hl, fun p np => ?_⟩))
      · intro e2; rw [e2] at r1; cases r1; exact hne rfl
      · exact k _ _ h _ (.tup L2.upd_same ((r1.rep _).mono (tle_new np))) (hr_tup hh np) (fr_tup np) q
  · rename_i a m
    cases rx; cases ry
    obtain ⟨xs, h1, h2, h3, h4, q⟩ := q
    obtain ⟨vs, e1, r1⟩ := hh _ _ h1
    refine .inl (.inr ⟨_, m, vs, rfl, rfl, e1, by omega, by omega, Nat.le_trans (by rw [r1.length]; exact h4) line_le, fun p np => ?_⟩)
    exact k _ _ (upd h p (.lst (List.replicate m.toNat xs).flatten)) _ (.ref p) (hr_new hh np ⟨_, L2.upd_same, (r1.rep _).mono (tle_new np)⟩) (fr_new np) (q p (hh.none np))
  · exact q.elim
theorem db_div : DB X cn (binaryOp .FloorDiv) rDiv := by
  refine ⟨_, op_fdiv, fun x y h Q2 q v w H rx ry hh Q1 k => ?_⟩
  unfold rDiv at q
  split at q
  · cases rx; cases ry
    exact ⟨_, _, rfl, rfl, q.1, k _ _ h H (.int _) hh (Fr.refl h H) q.2⟩
  · exact q.elim
theorem db_mod : DB X cn (binaryOp .Mod) rMod := by
  refine ⟨_, op_mod, fun x y h Q2 q v w H rx ry hh Q1 k => ?_⟩
  unfold rMod at q
  split at q
  · cases rx; cases ry
    exact ⟨_, _, rfl, rfl, q.1, k _ _ h H (.int _) hh (Fr.refl h H) q.2⟩
  · exact q.elim
theorem db_lt : DB X cn (compareOp .Lt) rLt := by
  refine ⟨_, op_lt, fun x y h Q2 q v w H rx ry hh Q1 k => ?_⟩
  unfold rLt at q
  split at q
  · cases rx; cases ry
    exact ⟨_, _, rfl, rfl, k _ _ h H (.bl _) hh (Fr.refl h H) q⟩
  · exact q.elim
theorem db_le : DB X cn (compareOp .LtE) rLe := by
  refine ⟨_, op_le, fun x y h Q2 q v w H rx ry hh Q1 k => ?_⟩
  unfold rLe at q
  split at q
  · cases rx; cases ry
    exact ⟨_, _, rfl, rfl, k _ _ h H (.bl _) hh (Fr.refl h H) q⟩
  · exact q.elim
theorem db_gt : DB X cn (compareOp .Gt) rGt := by
  refine ⟨_, op_gt, fun x y h Q2 q v w H rx ry hh Q1 k => ?_⟩
  unfold rGt at q
  split at q
  · cases rx; cases ry
    exact ⟨_, _, rfl, rfl, k _ _ h H (.bl _) hh (Fr.refl h H) q⟩
  · exact q.elim
theorem db_ge : DB X cn (compareOp .GtE) rGe := by
  refine ⟨_, op_ge, fun x y h Q2 q v w H rx ry hh Q1 k => ?_⟩
  unfold rGe at q
  split at q
  · cases rx; cases ry
    exact ⟨_, _, rfl, rfl, k _ _ h H (.bl _) hh (Fr.refl h H) q⟩
  · exact q.elim

/-! == -/
theorem beq_dec {α : Type} [BEq α] [LawfulBEq α] [DecidableEq α] (a b : α) : (a == b) = decide (a = b) := by
  rw [Bool.eq_iff_iff]; simp
mutual
theorem peq_eqv : ∀ a b : PyData, peq a b = PyData.eqv a b
  | .none, b => by cases b <;> simp [peq, PyData.eqv]
  | .bool a, b => by cases b <;> simp [peq, PyData.eqv]
  | .int a, b => by cases b <;> simp [peq, PyData.eqv, Bool.beq_eq_decide_eq, instBEqOfDecidableEq]
  | .str a, b => by cases b <;> simp [peq, PyData.eqv, beq_dec]
  | .list a, b => by
    cases b with
    | list b => simp only [peq, PyData.eqv]; exact peqs_eqv a b
    | _ => simp [peq, PyData.eqv]
  | .tuple a, b => by
    cases b with
    | tuple b => simp only [peq, PyData.eqv]; exact peqs_eqv a b
    | _ => simp [peq, PyData.eqv]
  | .dict a, b => by cases b <;> simp [peq, PyData.eqv]
theorem peqs_eqv : ∀ a b : List PyData, peqs a b = PyData.eqvAll a b
  | [], [] => rfl
  | [], _ :: _ => rfl
  | _ :: _, [] => rfl
  | a :: as, b :: bs => by
    simp only [peqs, PyData.eqvAll]
    rw [peq_eqv a b, peqs_eqv as bs]
end
theorem okS_strOk {x : Str} (h : okS x = true) : PyData.strOk x = true := by
  unfold okS at h; unfold PyData.strOk
  rw [← Array.all_toList]
  refine List.all_eq_true.mpr fun c hc => ?_
  have := List.all_eq_true.mp h c hc
  simp at this ⊢
  omega
theorem flatP_ok {g : G} {H : LHp} {v : V} {d : D} {p : PyData} (r : Rep g H v d) (e : flatP d = some p) : Dp g.K H v p ∧ p.canLay0 = true ∧ p.depth = 0 := by
  cases r with
  | non => cases e; exact ⟨.non, rfl, rfl⟩
  | bl b => cases e; exact ⟨.bl b, rfl, rfl⟩
  | int b => cases e; exact ⟨.int b, rfl, rfl⟩
  | str x =>
    simp only [flatP] at e
    by_cases h : okS x = true
    · rw [if_pos h] at e; cases e
      exact ⟨.str x, okS_strOk h, rfl⟩
    · rw [if_neg h] at e; cases e
  | tup _ _ => cases e
  | ref _ => cases e
  | ro _ _ => cases e
  | ct _ _ => cases e
  | wd _ _ => cases e
theorem omap_ok {g : G} {H : LHp} {f : D → Option PyData} {n : Nat} (hf : ∀ v d p, Rep g H v d → f d = some p → Dp g.K H v p ∧ p.canLay0 = true ∧ p.depth ≤ n) :
    ∀ {vs : List V} {ds : List D} {ps : List PyData}, Reps g H vs ds → omap f ds = some ps → DpAll g.K H vs ps ∧ PyData.canLayAll0 ps = true ∧ PyData.depthAll ps ≤ n
  | _, _, _, .nil, e => by cases e; exact ⟨.nil, rfl, Nat.zero_le _⟩
  | _, _, _, .cons r t, e => by
    unfold omap at e
    split at e
    · rename_i p ps e1 e2
      cases e
      obtain ⟨a, b, c⟩ := hf _ _ _ r e1
      obtain ⟨a', b', c'⟩ := omap_ok hf t e2
      refine ⟨.cons a a', ?_, ?_⟩
      · simp [PyData.canLayAll0, b, b']
      · simp [PyData.depthAll]; omega
    · cases e
theorem toP_ok {g : G} {h : Hp} {H : LHp} (hh : HR g h H) : ∀ (n : Nat) (v : V) (d : D) (p : PyData), Rep g H v d → toP h n d = some p → Dp g.K H v p ∧ p.canLay0 = true ∧ p.depth ≤ n
  | 0, v, d, p, r, e => by
    obtain ⟨a, b, c⟩ := flatP_ok r e
    exact ⟨a, b, by omega⟩
  | n + 1, v, d, p, r, e => by
    unfold toP at e
    split at e
    · obtain ⟨a, vs, rfl, h1, r1⟩ := r.tup_inv
      split at e
      · rename_i ps e1
        cases e
        obtain ⟨x, y, z⟩ := omap_ok (fun v d p => toP_ok hh n v d p) r1 e1
        refine ⟨.tup (SqT.of h1) x, ?_, ?_⟩
        · simpa [PyData.canLay0] using y
        · simp [PyData.depth]; omega
      · cases e
    · rename_i a
      cases r
      split at e
      · rename_i ds e0
        obtain ⟨vs, h1, r1⟩ := hh _ _ e0
        split at e
        · rename_i ps e1
          cases e
          obtain ⟨x, y, z⟩ := omap_ok (fun v d p => toP_ok hh n v d p) r1 e1
          refine ⟨.lst (SqL.of h1) x, ?_, ?_⟩
          · simpa [PyData.canLay0] using y
          · simp [PyData.depth]; omega
        · cases e
      · cases e
    · obtain ⟨a, b, c⟩ := flatP_ok r e
      exact ⟨a, b, by omega⟩
theorem shaped_of {p : PyData} (a : p.canLay0 = true) (b : p.depth ≤ 60) : SeqAt.shaped p = true := by
  unfold SeqAt.shaped
  rw [a, Bool.true_and]
  exact decide_eq_true (by omega)
/-- what == asks -/
theorem ops_eq {g : G} : OpS g (fun x y H Q => L2.rEq x y H Q ∨ rEqD g.K x y H Q) rEq := by
  intro x y h Q2 q v w H rx ry hh Q1 k
  unfold rEq at q
  split at q
  · cases rx; cases ry
    refine .inl ⟨rfl, ?_⟩
    rw [show decide (V.int _ = V.int _) = _ from dec_int]
    exact k _ _ h H (.bl _) hh (Fr.refl h H) (by rw [beq_dec]; exact q)
  · cases rx; cases ry
    refine .inl ⟨rfl, ?_⟩
    rw [show decide (V.str _ = V.str _) = _ from dec_str]
    exact k _ _ h H (.bl _) hh (Fr.refl h H) (by rw [beq_dec]; exact q)
  · cases rx; cases ry
    exact .inl ⟨rfl, k _ _ h H (.bl _) hh (Fr.refl h H) q⟩
  · cases rx; cases ry
    exact .inl ⟨rfl, k _ _ h H (.bl _) hh (Fr.refl h H) q⟩
  · cases rx; cases ry
    exact .inl ⟨rfl, k _ _ h H (.bl _) hh (Fr.refl h H) q⟩
  · cases rx; cases ry
    refine .inl ⟨rfl, ?_⟩
    rw [show decide (V.bl _ = V.bl _) = _ from dec_bl]
    exact k _ _ h H (.bl _) hh (Fr.refl h H) q
  · split at q
    · rename_i p p' e1 e2
      obtain ⟨a, b, c⟩ := toP_ok hh 9 _ _ _ rx e1
      obtain ⟨a', b', c'⟩ := toP_ok hh 9 _ _ _ ry e2
      refine .inr ⟨p, p', a, a', shaped_of b (by omega), shaped_of b' (by omega), ?_⟩
      rw [← peq_eqv]
      exact k _ _ h H (.bl _) hh (Fr.refl h H) q
    · exact q.elim
theorem db_eq (hu : X.A.units + 64 < cLine) : DB X cn (compareOp .Eq) rEq := ⟨_, OpR.or op_eq (op_eqD hu), ops_eq⟩
theorem db_ne (hu : X.A.units + 64 < cLine) : DB X cn (compareOp .NotEq) rNe := by
  refine ⟨_, OpR.or op_ne (op_neD hu), fun x y h Q2 q v w H rx ry hh Q1 k => ?_⟩
  unfold rNe at q
  have z := ops_eq (g := gOf X cn) x y h _ q v w H rx ry hh (fun u H' => match u with | .bl b => Q1 (.bl !b) H' | _ => False) (fun u d h' H' ru hh' f qq => by
    cases ru with
    | bl b => exact k _ _ h' H' (.bl _) hh' f qq
    | non => exact qq.elim
    | int i => exact qq.elim
    | str x => exact qq.elim
    | tup h r => exact qq.elim
    | ref a => exact qq.elim
    | ro h r => exact qq.elim
    | ct h r => exact qq.elim
    | wd h r => exact qq.elim)
  rcases z with ⟨z1, z2⟩ | ⟨d, e, z1, z2, z3, z4, z5⟩
  · exact .inl ⟨z1, z2⟩
  · exact .inr ⟨d, e, z1, z2, z3, z4, z5⟩
end
end F

set_option Elab.async false
set_option linter.all false
set_option maxRecDepth 100000
set_option maxHeartbeats 4000000
/-! the bridge: in, places, slices, stores, built-ins, methods -/
namespace F
open PySem PySem.Spec PyProof.Rows L2

/-! dicts -/
section
variable {g : G} {H : LHp} {κ : Type} [DecidableEq κ]
theorem RKv.val : ∀ {vs : List (κ × V)} {ds : List (κ × D)} (k : κ), RKv g H vs ds → (look ds k = none ∧ valV vs k = none) ∨ ∃ d v, look ds k = some d ∧ valV vs k = some v ∧ Rep g H v d
  | _, _, k, .nil => .inl ⟨rfl, valV_nil⟩
  | (k', v) :: vs, (_, d) :: ds, k, .cons r t => by
    by_cases e : k' = k
    · exact .inr ⟨d, v, by simp [look, e], valV_pos (p := (k', v)) e, r⟩
    · have e1 : look ((k', d) :: ds) k = look ds k := by simp [look, e]
      rcases RKv.val k t with ⟨h1, h2⟩ | ⟨d', v', h1, h2, h3⟩
      · exact .inl ⟨by rw [e1, h1], by rw [valV_neg (p := (k', v)) e]; exact h2⟩
      · exact .inr ⟨d', v', by rw [e1, h1], by rw [valV_neg (p := (k', v)) e]; exact h2, h3⟩
theorem RKv.any (k : κ) : ∀ {vs : List (κ × V)} {ds : List (κ × D)}, RKv g H vs ds → (vs.any fun kv => decide (kv.1 = k)) = (ds.any fun kv => decide (kv.1 = k))
  | _, _, .nil => rfl
  | _, _, .cons r t => by simp only [List.any_cons]; rw [RKv.any k t]
theorem RKv.repl (k : κ) {v : V} {d : D} (rv : Rep g H v d) : ∀ {vs : List (κ × V)} {ds : List (κ × D)}, RKv g H vs ds → RKv g H (vs.map fun kv => if kv.1 = k then (kv.1, v) else kv) (ds.map fun kv => if kv.1 = k then (kv.1, d) else kv)
  | _, _, .nil => .nil
  | (k', v') :: vs, (_, d') :: ds, .cons r t => by
    by_cases e : k' = k
    · simp only [List.map_cons, e, if_true]
      exact .cons rv (RKv.repl k rv t)
    · simp only [List.map_cons, if_neg e]
      exact .cons r (RKv.repl k rv t)
theorem RKv.snoc {k : κ} {v : V} {d : D} (rv : Rep g H v d) : ∀ {vs : List (κ × V)} {ds : List (κ × D)}, RKv g H vs ds → RKv g H (vs ++ [(k, v)]) (ds ++ [(k, d)])
  | _, _, .nil => .cons rv .nil
  | _, _, .cons r t => .cons r (RKv.snoc rv t)
theorem RKv.put {k : κ} {v : V} {d : D} (rv : Rep g H v d) {vs : List (κ × V)} {ds : List (κ × D)} (r : RKv g H vs ds) : RKv g H (putK vs k v) (F.put ds k d) := by
  unfold putK F.put
  rw [r.any k]
  split
  · exact r.repl k rv
  · exact r.snoc rv
theorem RKv.drop {k : κ} : ∀ {vs : List (κ × V)} {ds : List (κ × D)}, RKv g H vs ds → RKv g H (dropK vs k) (F.drop ds k)
  | _, _, .nil => .nil
  | (k', v') :: vs, (_, d') :: ds, .cons r t => by
    by_cases e : k' = k
    · have e1 : dropK ((k', v') :: vs) k = dropK vs k := by simp [dropK, e]
      have e2 : F.drop ((k', d') :: ds) k = F.drop ds k := by simp [F.drop, e]
      rw [e1, e2]; exact RKv.drop t
    · have e1 : dropK ((k', v') :: vs) k = (k', v') :: dropK vs k := by simp [dropK, e]
      have e2 : F.drop ((k', d') :: ds) k = (k', d') :: F.drop ds k := by simp [F.drop, e]
      rw [e1, e2]; exact .cons r (RKv.drop t)
end
theorem Rep.key_inv {g : G} {H : LHp} {v : V} {d : D} {k : Key} (r : Rep g H v d) (e : d.key = some k) : v = kV k := by
  cases r <;> simp [D.key] at e <;> subst e <;> rfl
theorem Reps.key_inv {g : G} {H : LHp} : ∀ {vs : List V} {ds : List D} {ks : List Key}, Reps g H vs ds → D.keyL ds = some ks → vs = ks.map kV
  | _, _, _, .nil, e => by simp [D.keyL] at e; subst e; rfl
  | _, _, _, .cons r t, e => by
    simp only [D.keyL] at e
    split at e
    · rename_i k ks e1 e2
      cases e
      rw [List.map_cons, r.key_inv e1, Reps.key_inv t e2]
    · cases e
theorem WdEs.find {k : Str} : ∀ {es : List DictEntry} {vs : List (Str × V)}, WdEs es vs → (∃ en v, es.find? (·.key.isStr k) = some en ∧ vs.find? (fun q => decide (q.1 = k)) = some (k, v) ∧ RelV v en.val) ∨ (es.find? (·.key.isStr k) = none ∧ vs.find? (fun q => decide (q.1 = k)) = none ∧ es.any (·.refKey) = false)
  | _, _, .nil => .inr ⟨rfl, rfl, rfl⟩
  | _, _, .cons (en := en) (k := k') (t := t) (v := v) (es := es) (vs := vs) h1 h2 r => by
    have hk : en.key.isStr k = decide (k' = k) := by
      rw [h1]; simp [Value.isStr, Value.isStrOf, beq_dec, eq_comm]
    have hr : en.refKey = false := by simp [DictEntry.refKey, h1]
    by_cases e : k' = k
    · subst e
      left
      exact ⟨en, v, by simp [List.find?, hk], by simp [List.find?], h2⟩
    · rcases WdEs.find (k := k) r with ⟨en', v', a, b, c⟩ | ⟨a, b, c⟩
      · left
        exact ⟨en', v', by simp [List.find?, hk, e, a], by simp [List.find?, e, b], c⟩
      · right
        exact ⟨by simp [List.find?, hk, e, a], by simp [List.find?, e, b], by simp [hr, c]⟩
theorem WdAt.ns {K : PySem.W.Frag} {w : World} {a : Addr} {vs : List (Str × V)} (h : WdAt K w a vs) (k : Str) : ∃ es n, KDict K w a es n ∧ ((∃ u v, PySem.W.nsIn K a k = some (some u) ∧ vs.find? (fun q => decide (q.1 = k)) = some (k, v) ∧ RelV v u) ∨ (PySem.W.nsIn K a k = some none ∧ vs.find? (fun q => decide (q.1 = k)) = none)) := by
  obtain ⟨es, n, hk, r⟩ := h
  refine ⟨es, n, hk, ?_⟩
  rcases r.find (k := k) with ⟨en, v, a', b, c⟩ | ⟨a', b, c⟩
  · left
    refine ⟨en.val, v, ?_, b, c⟩
    unfold PySem.W.nsIn
    rw [hk.at_]
    simp only [a']
  · right
    refine ⟨?_, b⟩
    unfold PySem.W.nsIn
    rw [hk.at_]
    simp only [a', c]
    rfl
theorem Repw.find {g : G} {H : LHp} {k : Str} : ∀ {vs : List (Str × V)} {ds : List (Str × D)}, Repw g H vs ds → (∃ v d, vs.find? (fun q => decide (q.1 = k)) = some (k, v) ∧ look ds k = some d ∧ Rep g H v d) ∨ (vs.find? (fun q => decide (q.1 = k)) = none ∧ look ds k = none)
  | _, _, .nil => .inr ⟨rfl, rfl⟩
  | _, _, .cons (k := k') (v := v) (d := d) r t => by
    by_cases e : k' = k
    · subst e
      exact .inl ⟨v, d, by simp [List.find?], by simp [look], r⟩
    · rcases Repw.find (k := k) t with ⟨v', d', a, b, c⟩ | ⟨a, b⟩
      · exact .inl ⟨v', d', by simp [List.find?, e, a], by simp only [look, List.find?, decide_eq_false e] at b ⊢; exact b, c⟩
      · exact .inr ⟨by simp [List.find?, e, a], by simp only [look, List.find?, decide_eq_false e] at b ⊢; exact b⟩

section
variable {X : Cx} {cn : Cn} {W : WX} {a b c : Expr} {ta tb tc : TE} {pos : Pos}
/-! in -/
theorem room_in {d : PyData} (h : d.depth ≤ 60) (hu : X.A.units + 70 < cLine) {n : Nat} : X.A.units + 1 + min n d.depth < cLine := by omega
theorem op_inTD (hu : X.A.units + 65 < cLine) : OpR X (compareOp .In) (fun x y H Q => ∃ d ds, Dp X.K H x d ∧ Dp X.K H y (.tuple ds) ∧ SeqAt.shaped d = true ∧ SeqAt.shaped (.tuple ds) = true ∧ Q (.bl (ds.any fun z => PyData.eqv z d)) H) := by
  intro pins s σ H x y v u Q I rx ry h
  obtain ⟨d, ds, hd, he, sd, se, q⟩ := h
  obtain ⟨as, r1⟩ := Dp.reads I d x v hd rx
  obtain ⟨bs, r2⟩ := Dp.reads I (.tuple ds) y u he ry
  exact SeqAt.in_tuple_reads r2 r1 (SeqAt.canLay_of_shaped se) (SeqAt.canLay_of_shaped sd) (room_in_shaped sd hu) ⟨.bl _, H, I, rfl, q⟩
theorem op_notInTD (hu : X.A.units + 65 < cLine) : OpR X (compareOp .NotIn) (fun x y H Q => ∃ d ds, Dp X.K H x d ∧ Dp X.K H y (.tuple ds) ∧ SeqAt.shaped d = true ∧ SeqAt.shaped (.tuple ds) = true ∧ Q (.bl (!ds.any fun z => PyData.eqv z d)) H) := by
  intro pins s σ H x y v u Q I rx ry h
  obtain ⟨d, ds, hd, he, sd, se, q⟩ := h
  obtain ⟨as, r1⟩ := Dp.reads I d x v hd rx
  obtain ⟨bs, r2⟩ := Dp.reads I (.tuple ds) y u he ry
  exact SeqAt.notIn_tuple_reads r2 r1 (SeqAt.canLay_of_shaped se) (SeqAt.canLay_of_shaped sd) (room_in_shaped sd hu) ⟨.bl _, H, I, rfl, q⟩
theorem op_inDct (hu : X.A.units + 1 < cLine) : OpR X (compareOp .In) (fun x y H Q => ∃ a o, y = .ref a ∧ DGet H a x o ∧ Q (.bl o.isSome) H) := by
  intro pins s σ H x y v u Q I rx ry h
  obtain ⟨a, o, rfl, dg, q⟩ := h
  cases ry
  exact d_in hu I dg rx fun s' I' => ⟨.bl _, H, I', rfl, q⟩
theorem op_notInDct (hu : X.A.units + 1 < cLine) : OpR X (compareOp .NotIn) (fun x y H Q => ∃ a o, y = .ref a ∧ DGet H a x o ∧ Q (.bl (!o.isSome)) H) := by
  intro pins s σ H x y v u Q I rx ry h
  obtain ⟨a, o, rfl, dg, q⟩ := h
  cases ry
  exact d_notIn hu I dg rx fun s' I' => ⟨.bl _, H, I', rfl, q⟩
theorem op_inKd : OpR X (compareOp .In) (fun x y H Q => ∃ (d : Addr) (es : Array DictEntry) (n : Nat) (z : Str) (r : Option Value), KDict X.K X.w d es n ∧ x = .str z ∧ y = .ref d ∧ PySem.W.nsIn X.K d z = some r ∧ Q (.bl r.isSome) H) := by
  intro pins s σ H x y v u Q I rx ry h
  obtain ⟨d, es, n, z, r, hk, e1, e2, e3, q⟩ := h
  exact op_in_kd hk pins s σ H x y v u Q I rx ry ⟨z, r, e1, e2, e3, q⟩
theorem op_notInKd : OpR X (compareOp .NotIn) (fun x y H Q => ∃ (d : Addr) (es : Array DictEntry) (n : Nat) (z : Str) (r : Option Value), KDict X.K X.w d es n ∧ x = .str z ∧ y = .ref d ∧ PySem.W.nsIn X.K d z = some r ∧ Q (.bl (!r.isSome)) H) := by
  intro pins s σ H x y v u Q I rx ry h
  obtain ⟨d, es, n, z, r, hk, e1, e2, e3, q⟩ := h
  exact op_notIn_kd hk pins s σ H x y v u Q I rx ry ⟨z, r, e1, e2, e3, q⟩
/-- the four kinds of in, by data -/
def rInAll (g : G) (neg : Bool) : L2.R2 := fun x y H Q =>
  (∃ d ds, Dp g.K H x d ∧ Dp g.K H y (.list ds) ∧ SeqAt.shaped d = true ∧ SeqAt.shaped (.list ds) = true ∧ Q (.bl (neg ^^ (ds.any fun z => PyData.eqv z d))) H) ∨
  (∃ d ds, Dp g.K H x d ∧ Dp g.K H y (.tuple ds) ∧ SeqAt.shaped d = true ∧ SeqAt.shaped (.tuple ds) = true ∧ Q (.bl (neg ^^ (ds.any fun z => PyData.eqv z d))) H) ∨
  (∃ a o, y = .ref a ∧ DGet H a x o ∧ Q (.bl (neg ^^ o.isSome)) H) ∨
  ∃ (d : Addr) (es : Array DictEntry) (n : Nat) (z : Str) (r : Option Value), KDict g.K g.w d es n ∧ x = .str z ∧ y = .ref d ∧ PySem.W.nsIn g.K d z = some r ∧ Q (.bl (neg ^^ r.isSome)) H
theorem op_inAll (hu : X.A.units + 70 < cLine) : OpR X (compareOp .In) (rInAll (gOf X cn) false) := by
  intro pins s σ H x y v u Q I rx ry h
  rcases h with ⟨d, ds, a, b, c, e, q⟩ | ⟨d, ds, a, b, c, e, q⟩ | ⟨a, o, b, c, q⟩ | ⟨d, es, n, z, r, a, b, c, e, q⟩
  · exact op_inD (by omega) pins s σ H x y v u Q I rx ry ⟨d, ds, a, b, c, e, by simpa using q⟩
  · exact op_inTD (by omega) pins s σ H x y v u Q I rx ry ⟨d, ds, a, b, c, e, by simpa using q⟩
  · exact op_inDct (by omega) pins s σ H x y v u Q I rx ry ⟨a, o, b, c, by simpa using q⟩
  · exact op_inKd pins s σ H x y v u Q I rx ry ⟨d, es, n, z, r, a, b, c, e, by simpa using q⟩
theorem op_notInAll (hu : X.A.units + 70 < cLine) : OpR X (compareOp .NotIn) (rInAll (gOf X cn) true) := by
  intro pins s σ H x y v u Q I rx ry h
  rcases h with ⟨d, ds, a, b, c, e, q⟩ | ⟨d, ds, a, b, c, e, q⟩ | ⟨a, o, b, c, q⟩ | ⟨d, es, n, z, r, a, b, c, e, q⟩
  · exact op_notInD (by omega) pins s σ H x y v u Q I rx ry ⟨d, ds, a, b, c, e, by simpa using q⟩
  · exact op_notInTD (by omega) pins s σ H x y v u Q I rx ry ⟨d, ds, a, b, c, e, by simpa using q⟩
  · exact op_notInDct (by omega) pins s σ H x y v u Q I rx ry ⟨a, o, b, c, by simpa using q⟩
  · exact op_notInKd pins s σ H x y v u Q I rx ry ⟨d, es, n, z, r, a, b, c, e, by simpa using q⟩
theorem any_peq {p : PyData} {qs : List PyData} : (qs.any fun q => peq q p) = (qs.any fun z => PyData.eqv z p) := by
  congr 1; funext z; exact peq_eqv z p
def kXor (neg : Bool) (Q : KV) : KV := fun v h1 => match v with
  | .bl b => Q (.bl (neg ^^ b)) h1
  | _ => False
theorem ops_in {g : G} (neg : Bool) : OpS g (rInAll g neg) (fun x y h Q => rIn x y h (kXor neg Q)) := by
  intro x y h Q2 q v w H rx ry hh Q1 k
  unfold rIn at q
  split at q
  · rename_i ys
    split at q
    · rename_i p qs e1 e2
      obtain ⟨a1, b1, c1⟩ := toP_ok hh 9 _ _ _ rx e1
      cases ry with
      | ct ha r =>
        obtain ⟨x1, y1, z1⟩ := omap_ok (fun v d p => toP_ok hh 9 v d p) r e2
        obtain ⟨o, its, n, hk, hc, hd, hs, hv⟩ := ha
        refine .inr (.inl ⟨p, qs, a1, .tup (.inr ⟨o, its, n, hk, hc, hd, hs, hv⟩) x1, shaped_of b1 (by omega), shaped_of (by simpa [PyData.canLay0] using y1) (by simp [PyData.depth]; omega), ?_⟩)
        rw [← any_peq]
        exact k _ _ h H (.bl _) hh (Fr.refl h H) q
    · exact q.elim
  · rename_i ys
    split at q
    · rename_i p qs e1 e2
      obtain ⟨a1, b1, c1⟩ := toP_ok hh 9 _ _ _ rx e1
      obtain ⟨a, vs, rfl, ha, r⟩ := ry.tup_inv
      obtain ⟨x1, y1, z1⟩ := omap_ok (fun v d p => toP_ok hh 9 v d p) r e2
      refine .inr (.inl ⟨p, qs, a1, .tup (SqT.of ha) x1, shaped_of b1 (by omega), shaped_of (by simpa [PyData.canLay0] using y1) (by simp [PyData.depth]; omega), ?_⟩)
      rw [← any_peq]
      exact k _ _ h H (.bl _) hh (Fr.refl h H) q
    · exact q.elim
  · rename_i a
    cases ry
    split at q
    · rename_i ys e0
      split at q
      · rename_i p qs e1 e2
        obtain ⟨a1, b1, c1⟩ := toP_ok hh 9 _ _ _ rx e1
        obtain ⟨vs, ha, r⟩ := hh _ _ e0
        obtain ⟨x1, y1, z1⟩ := omap_ok (fun v d p => toP_ok hh 9 v d p) r e2
        refine .inl ⟨p, qs, a1, .lst (SqL.of ha) x1, shaped_of b1 (by omega), shaped_of (by simpa [PyData.canLay0] using y1) (by simp [PyData.depth]; omega), ?_⟩
        rw [← any_peq]
        exact k _ _ h H (.bl _) hh (Fr.refl h H) q
      · exact q.elim
    · rename_i kvs e0
      split at q
      · rename_i kk e1
        obtain ⟨vs, ha, r⟩ := hh _ _ e0
        refine .inr (.inr (.inl ⟨a, valV vs kk, rfl, ?_, ?_⟩))
        · rw [rx.key_inv e1]
          exact DGet.k ha
        · have : (valV vs kk).isSome = (look kvs kk).isSome := by
            rcases r.val kk with ⟨h1, h2⟩ | ⟨d', v', h1, h2, h3⟩
            · rw [h1, h2]; rfl
            · rw [h1, h2]; rfl
          rw [this]
          exact k _ _ h H (.bl _) hh (Fr.refl h H) q
      · exact q.elim
    · exact q.elim
  · rename_i kvs
    split at q
    · rename_i kk
      cases rx
      cases ry with
      | wd ha r =>
        rename_i a vs
        obtain ⟨es, n, hk, hn⟩ := ha.ns kk
        rcases hn with ⟨u, v', n1, n2, n3⟩ | ⟨n1, n2⟩
        · refine .inr (.inr (.inr ⟨a, es, n, kk, some u, hk, rfl, rfl, n1, ?_⟩))
          rcases r.find (k := kk) with ⟨v2, d2, m1, m2, m3⟩ | ⟨m1, m2⟩
          · rw [m2] at q
            exact k _ _ h H (.bl _) hh (Fr.refl h H) q
          · rw [n2] at m1; cases m1
        · refine .inr (.inr (.inr ⟨a, es, n, kk, none, hk, rfl, rfl, n1, ?_⟩))
          rcases r.find (k := kk) with ⟨v2, d2, m1, m2, m3⟩ | ⟨m1, m2⟩
          · rw [n2] at m1; cases m1
          · rw [m2] at q
            exact k _ _ h H (.bl _) hh (Fr.refl h H) q
    · exact q.elim
  · exact q.elim
theorem rin_bl {x y : D} {h : Hp} {Q : KV} (q : rIn x y h Q) : rIn x y h fun v h1 => match v with | .bl b => Q (.bl b) h1 | _ => False := by
  unfold rIn at q ⊢
  split at q
  · split at q
    · exact q
    · exact q.elim
  · split at q
    · exact q
    · exact q.elim
  · split at q
    · split at q
      · exact q
      · exact q.elim
    · split at q
      · exact q
      · exact q.elim
    · exact q.elim
  · split at q
    · exact q
    · exact q.elim
  · exact q.elim
theorem db_in (hu : X.A.units + 70 < cLine) : DB X cn (compareOp .In) rIn := by
  refine ⟨_, op_inAll (cn := cn) hu, fun x y h Q2 q v w H rx ry hh Q1 k => ?_⟩
  refine ops_in (g := gOf X cn) false x y h Q2 ?_ v w H rx ry hh Q1 k
  have e : kXor false Q2 = fun v h1 => match v with | .bl b => Q2 (.bl b) h1 | _ => False := by
    funext v h1
    cases v <;> simp [kXor]
  show rIn x y h (kXor false Q2)
  rw [e]
  exact rin_bl q
theorem db_notIn (hu : X.A.units + 70 < cLine) : DB X cn (compareOp .NotIn) rNotIn := by
  refine ⟨_, op_notInAll (cn := cn) hu, fun x y h Q2 q v w H rx ry hh Q1 k => ?_⟩
  refine ops_in (g := gOf X cn) true x y h Q2 ?_ v w H rx ry hh Q1 k
  have e : kXor true Q2 = fun v h1 => match v with | .bl b => Q2 (.bl !b) h1 | _ => False := by
    funext v h1
    cases v <;> simp [kXor]
  show rIn x y h (kXor true Q2)
  rw [e]
  exact q
end
end F

set_option Elab.async false
set_option linter.all false
set_option maxRecDepth 100000
set_option maxHeartbeats 4000000
/-! the bridge: places, slices, stores, built-ins, methods -/
namespace F
open PySem PySem.Spec PyProof.Rows L2
section
variable {X : Cx} {cn : Cn} {W : WX} {a b c : Expr} {ta tb tc : TE} {pos : Pos}
/-! a[b] -/
theorem ix_dict (hu : X.A.units + 1 < cLine) : IxR X (fun x y H Q => ∃ a v, x = .ref a ∧ DGet H a y (some v) ∧ Q v H) := by
  intro value slice pins s σ H x y v u Q I rx ry h hs
  obtain ⟨p, z, rfl, dg, q⟩ := h
  cases rx
  exact tail_any (dict_typeIs I dg) PySem.F.slot_dict_getitem.lookup (d_getItem hu I dg ry fun w' s3 I3 rw' => ⟨z, H, I3, rw', q⟩) hs
theorem ix_kd : IxR X (fun x y H Q => ∃ (d : Addr) (es : Array DictEntry) (n : Nat) (z : Str) (u0 : Value) (v0 : V), KDict X.K X.w d es n ∧ x = .ref d ∧ y = .str z ∧ PySem.W.nsIn X.K d z = some (some u0) ∧ RelV v0 u0 ∧ Q v0 H) := by
  intro value slice pins s σ H x y v u Q I rx ry h hs
  obtain ⟨d, es, n, z, u0, v0, hk, e1, e2, e3, e4, q⟩ := h
  subst e1
  cases rx
  exact tail_any (kd_type hk I) PySem.F.slot_dict_getitem.lookup (op_item_kd hk pins s σ H (.ref d) y (.ref d) u Q I (show RelV (.ref d) (.ref d) from rfl) ry ⟨z, u0, v0, rfl, e2, e3, e4, q⟩) hs
theorem Reps.atI {g : G} {H : LHp} {vs : List V} {ds : List D} {i : Int} {d : D} (r : Reps g H vs ds) (e : F.atI ds i = some d) : ∃ v, L2.atI vs i = some v ∧ Rep g H v d := by
  unfold F.atI at e
  split at e
  · rename_i j ej
    obtain ⟨v, h1, h2⟩ := r.get e
    refine ⟨v, ?_, h2⟩
    have : L2.ixN vs.length i = some j := by rw [r.length]; exact ej
    unfold L2.atI
    rw [this]
    exact h1
  · cases e
theorem de_ix (hu : X.A.units + 1 < cLine) (ha : DE X cn W a ta) (hb : DE X cn W b tb) (hs : PlainIx b) : DE X cn W (.Subscript a b pos) (eBin rIx ta tb) := by
  obtain ⟨t1, p1, s1⟩ := ha
  obtain ⟨u1, p2, s2⟩ := hb
  refine ⟨_, pe_ix (((ix_list.or ix_tup).or (ix_dict hu)).or ix_kd) p1 p2 hs, SimE.bin s1 s2 fun x y h Q2 q v w H rx ry hh Q1 k => ?_⟩
  unfold rIx at q
  split at q
  · obtain ⟨a, vs, rfl, ha, r⟩ := rx.tup_inv
    split at q
    · obtain ⟨d, e, q⟩ := q
      obtain ⟨z, e1, r1⟩ := r.atI e
      cases ry
      exact .inl (.inl (.inr ⟨a, vs, _, z, rfl, rfl, SqT.of ha, e1, k _ _ h H r1 hh (Fr.refl h H) q⟩))
    · exact q.elim
  · cases rx with
    | ct ha r =>
      split at q
      · obtain ⟨d, e, q⟩ := q
        obtain ⟨z, e1, r1⟩ := r.atI e
        cases ry
        obtain ⟨o, its, n, hk, hc, hd, hs, hv⟩ := ha
        exact .inl (.inl (.inr ⟨_, _, _, z, rfl, rfl, .inr ⟨o, its, n, hk, hc, hd, hs, hv⟩, e1, k _ _ h H r1 hh (Fr.refl h H) q⟩))
      · exact q.elim
  · rename_i a
    cases rx
    split at q
    · rename_i ds e0
      obtain ⟨vs, ha, r⟩ := hh _ _ e0
      split at q
      · obtain ⟨d, e, q⟩ := q
        obtain ⟨z, e1, r1⟩ := r.atI e
        cases ry
        exact .inl (.inl (.inl ⟨_, vs, _, z, rfl, rfl, SqL.of ha, e1, k _ _ h H r1 hh (Fr.refl h H) q⟩))
      · exact q.elim
    · rename_i kvs e0
      obtain ⟨vs, ha, r⟩ := hh _ _ e0
      split at q
      · rename_i kk ek
        obtain ⟨d, e, q⟩ := q
        rcases r.val kk with ⟨h1, h2⟩ | ⟨d', v', h1, h2, h3⟩
        · rw [h1] at e; cases e
        · rw [h1] at e; cases e
          refine .inl (.inr ⟨a, v', rfl, ?_, k _ _ h H h3 hh (Fr.refl h H) q⟩)
          rw [ry.key_inv ek, ← h2]
          exact DGet.k ha
      · exact q.elim
    · rename_i kvs e0
      obtain ⟨o, vs, ha, r⟩ := hh _ _ e0
      split at q
      · rename_i kk ek
        obtain ⟨d, e, q⟩ := q
        rcases r.val kk with ⟨h1, h2⟩ | ⟨d', v', h1, h2, h3⟩
        · rw [h1] at e; cases e
        · rw [h1] at e; cases e
          refine .inl (.inr ⟨a, v', rfl, ?_, k _ _ h H h3 hh (Fr.refl h H) q⟩)
          rw [ry.key_inv ek, ← h2]
          exact .inl ⟨vs, kk, .inr ⟨o, ha⟩, rfl, rfl⟩
      · exact q.elim
    · rename_i kvs e0
      obtain ⟨vs, ha, r⟩ := hh _ _ e0
      split at q
      · rename_i ks
        obtain ⟨kk, d, ek, e, q⟩ := q
        obtain ⟨b, ws, rfl, hb, r2⟩ := ry.tup_inv
        rcases r.val kk with ⟨h1, h2⟩ | ⟨d', v', h1, h2, h3⟩
        · rw [h1] at e; cases e
        · rw [h1] at e; cases e
          refine .inl (.inr ⟨a, v', rfl, ?_, k _ _ h H h3 hh (Fr.refl h H) q⟩)
          rw [← h2]
          exact DGet.t ha (by rw [← r2.key_inv ek]; exact hb)
      · exact q.elim
    · rename_i kvs e0
      obtain ⟨o, vs, ha, r⟩ := hh _ _ e0
      split at q
      · rename_i ks
        obtain ⟨kk, d, ek, e, q⟩ := q
        obtain ⟨b, ws, rfl, hb, r2⟩ := ry.tup_inv
        rcases r.val kk with ⟨h1, h2⟩ | ⟨d', v', h1, h2, h3⟩
        · rw [h1] at e; cases e
        · rw [h1] at e; cases e
          refine .inl (.inr ⟨a, v', rfl, ?_, k _ _ h H h3 hh (Fr.refl h H) q⟩)
          rw [← h2]
          exact .inr ⟨vs, kk, b, .inr ⟨o, ha⟩, rfl, by rw [← r2.key_inv ek]; exact hb, rfl⟩
      · exact q.elim
    · exact q.elim
  · rename_i kvs
    split at q
    · rename_i kk
      obtain ⟨d, e, q⟩ := q
      cases ry
      cases rx with
      | wd ha r =>
        rename_i a vs
        obtain ⟨es, n, hk, hn⟩ := ha.ns kk
        rcases r.find (k := kk) with ⟨v2, d2, m1, m2, m3⟩ | ⟨m1, m2⟩
        · rw [m2] at e; cases e
          rcases hn with ⟨u, v', n1, n2, n3⟩ | ⟨n1, n2⟩
          · rw [m1] at n2
            cases n2
            exact .inr ⟨a, es, n, kk, u, v2, hk, rfl, rfl, n1, n3, k _ _ h H m3 hh (Fr.refl h H) q⟩
          · rw [n2] at m1; cases m1
        · rw [m2] at e; cases e
    · exact q.elim
  · exact q.elim
/-! slices -/
structure DO (X : Cx) (cn : Cn) (W : WX) (e : Option Expr) (t2 : F.TO) : Prop where
  ex : ∃ t1, PO X e t1 ∧ ∀ E σ2 h Q2, t2 E σ2 h Q2 → ∀ σ H, RSt (gOf X cn) H σ σ2 → HR (gOf X cn) h H → Wi (gOf X cn) W E h H →
    ∀ Q1 : Option Int → LHp → Prop, (∀ o h' H', HR (gOf X cn) h' H' → Fr h H h' H' → Q2 o h' → Q1 o H') → t1 σ H Q1
theorem do_no : DO X cn W none oNo := ⟨_, po_none, fun E σ2 h Q2 q σ H rs hh w Q1 k => k _ h H hh (Fr.refl h H) q⟩
theorem do_is (ha : DE X cn W a ta) : DO X cn W (some a) (oIs ta) := by
  obtain ⟨t1, p1, s1⟩ := ha
  refine ⟨_, po_some p1, fun E σ2 h Q2 q σ H rs hh w Q1 k => ?_⟩
  refine s1 E σ2 h _ q σ H rs hh w _ fun v d h1 H1 rv hh1 f1 q1 => ?_
  cases rv with
  | int i => exact ⟨i, rfl, k _ h1 H1 hh1 f1 q1⟩
  | bl b => exact q1.elim
  | non => exact q1.elim
  | str x => exact q1.elim
  | tup h r => exact q1.elim
  | ref a => exact q1.elim
  | ro h r => exact q1.elim
  | ct h r => exact q1.elim
  | wd h r => exact q1.elim
theorem sIx_eq (n d : Nat) (o : Option Int) : F.sIx n d o = HT.sIx n d o := by cases o <;> rfl
theorem Reps.cut {g : G} {H : LHp} {vs : List V} {ds : List D} (r : Reps g H vs ds) (lo hi : Option Int) : Reps g H (cutV vs lo hi) (cutD ds lo hi) := by
  unfold cutV cutD
  rw [sIx_eq, sIx_eq, r.length]
  exact (r.drop _).take _
theorem cut_whole {vs : List V} {lo hi : Option Int} (h : HT.sIx vs.length 0 lo = 0 ∧ HT.sIx vs.length vs.length hi = vs.length) : cutV vs lo hi = vs := by
  unfold cutV
  rw [h.1, h.2]
  simp
variable {lo hi : Option Expr} {tl th : F.TO} {p2 : Pos}
theorem de_sl (ha : DE X cn W a ta) (hl : DO X cn W lo tl) (hh : DO X cn W hi th) : DE X cn W (.Subscript a (.Slice lo hi none p2) pos) (eSl ta tl th) := by
  obtain ⟨t1, p1, s1⟩ := ha
  obtain ⟨u1, p2, s2⟩ := hl
  obtain ⟨u3, p3, s3⟩ := hh
  refine ⟨_, pe_slice (sl_list.or sl_tupA) p1 p2 p3, fun E σ2 h Q2 q σ H rs hh w Q1 k => ?_⟩
  refine s1 E σ2 h _ q σ H rs hh w _ fun v d h1 H1 rv hh1 f1 q1 => ?_
  refine s2 E σ2 h1 _ q1 σ H1 (rs.mono (f1.tle hh)) hh1 (w.step f1) _ fun l h2 H2 hh2 f2 q2 => ?_
  refine s3 E σ2 h2 _ q2 σ H2 (rs.mono ((f1.trans f2).tle hh)) hh2 (w.step (f1.trans f2)) _ fun u h3 H3 hh3 f3 q3 => ?_
  have rv3 := rv.mono ((f2.trans f3).tle hh1)
  have ff := (f1.trans f2).trans f3
  unfold rSl at q3
  split at q3
  · obtain ⟨a, vs, rfl, ha, r⟩ := rv3.tup_inv
    refine .inr ⟨a, vs, rfl, SqT.of ha, fun e => ?_, fun e p np => ?_⟩
    · refine k _ _ h3 H3 (.tup ha ?_) hh3 ff q3
      have := r.cut l u
      rw [cut_whole e] at this
      exact this
    · exact k _ _ h3 _ (.tup L2.upd_same ((r.cut l u).mono (tle_new np))) (hr_tup hh3 np) (ff.trans (fr_tup np)) q3
  · cases rv3
    obtain ⟨xs, e0, q3⟩ := q3
    obtain ⟨vs, ha, r⟩ := hh3 _ _ e0
    refine .inl ⟨_, vs, rfl, SqL.of ha, fun p np => ?_⟩
    exact k _ _ (upd h3 p (.lst (cutD xs l u))) _ (.ref p) (hr_new hh3 np ⟨_, L2.upd_same, (r.cut l u).mono (tle_new np)⟩) (ff.trans (fr_new np)) (q3 p (hh3.none np))
  · exact q3.elim
/-! calls of built-ins -/
def DC (X : Cx) (cn : Cn) (f : Value) (r2 : RC) : Prop := ∃ r1, CallR X f r1 ∧ CaS (gOf X cn) r1 r2
variable {e : Expr} {es : List Expr} {tr : F.TA} {x : Str} {p : Pos}
theorem SimE.cb {g : G} {t1 : L2.TA} {t2 : F.TA} {r1 : List V → LHp → VK → Prop} {r2 : RC} (s : SimA g W t1 t2) (hr : CaS g r1 r2) : SimE g W (tCB r1 t1) (eCB r2 t2) := by
  intro E σ2 h Q2 q σ H rs hh w Q1 k
  refine s E σ2 h _ q σ H rs hh w _ fun vs ds h1 H1 rv hh1 f1 q1 => ?_
  exact hr _ _ _ q1 _ _ rv hh1 _ fun z y h3 H3 rz hh3 f3 q3 => k z y h3 H3 rz hh3 (f1.trans f3) q3
theorem de_cb {id : String} {r2 : RC} (h : DC X cn (.builtin id) r2) (hg : Gl X x) (hm : X.mg x = none) (hv : bootBuiltins x = some (.builtin id)) (ha : DA X cn W (e :: es) tr) (hn : x ≠ "__name__" := by decide) (hdb : (x == ("__debug__" : Str)) = false := by decide)
    (he : starEach (e :: es) X.env = (false, eval e X.env) :: starEach es X.env := by rfl) (hpl : (backTo pos (starEach es X.env)).any (·.1) = false := by rfl) : DE X cn W (.Call (.Name x p) (e :: es) [] pos) (eCB r2 tr) := by
  obtain ⟨r1, h1, h2⟩ := h
  obtain ⟨t1, p1, s1⟩ := ha
  exact ⟨_, pe_callB h1 hg hm hv p1 hn hdb he hpl, SimE.cb s1 h2⟩
theorem de_ty {T : String} {r2 : RC} (h : DC X cn (.type T) r2) (hg : Gl X x) (hm : X.mg x = none) (hv : bootBuiltins x = some (.type T)) (ha : DA X cn W (e :: es) tr) (hn : x ≠ "__name__" := by decide) (hdb : (x == ("__debug__" : Str)) = false := by decide)
    (he : starEach (e :: es) X.env = (false, eval e X.env) :: starEach es X.env := by rfl) (hpl : (backTo pos (starEach es X.env)).any (·.1) = false := by rfl) : DE X cn W (.Call (.Name x p) (e :: es) [] pos) (eCB r2 tr) := by
  obtain ⟨r1, h1, h2⟩ := h
  obtain ⟨t1, p1, s1⟩ := ha
  exact ⟨_, pe_callTy h1 hg hm hv p1 hn hdb he hpl, SimE.cb s1 h2⟩
theorem Rep.kT {g : G} {H : LHp} {v : V} {ds : List D} (r : Rep g H v (.ct ds)) : ∃ a vs, v = .ref a ∧ SqT g.K H a vs ∧ Reps g H vs ds := by
  cases r with
  | ct h r => exact ⟨_, _, rfl, .inr h, r⟩
theorem dc_len : DC X cn (.builtin "len") rLen := by
  refine ⟨fun xs H Q => (∃ x n, xs = [x] ∧ LenV X.K x H n ∧ Q (.int n) H) ∨ (∃ p ys, xs = [.ref p] ∧ (SqL X.K H p ys ∨ SqT X.K H p ys) ∧ Q (.int ys.length) H) ∨ (∃ a kvs, xs = [V.ref a] ∧ H a = some (.dK kvs) ∧ Q (.int kvs.length) H), ?_, fun xs h Q2 q vs H r hh Q1 k => ?_⟩
  · intro pins s σ H xs us Q I r h
    rcases h with h | h | h
    · exact call_len pins s σ H xs us Q I r h
    · exact call_len_seq pins s σ H xs us Q I r h
    · exact call_lenD pins s σ H xs us Q I r h
  · unfold rLen at q
    split at q
    · obtain ⟨v, rfl, rv⟩ := r.one_inv
      obtain ⟨a, ws, rfl, ha, r⟩ := rv.tup_inv
      refine .inr (.inl ⟨a, ws, rfl, .inr (SqT.of ha), ?_⟩)
      rw [r.length]
      exact k _ _ h H (.int _) hh (Fr.refl h H) q
    · obtain ⟨v, rfl, rv⟩ := r.one_inv
      cases rv
      exact .inl ⟨_, _, rfl, ⟨Nat.le_trans q.1 line_le, rfl⟩, k _ _ h H (.int _) hh (Fr.refl h H) q.2⟩
    · obtain ⟨v, rfl, rv⟩ := r.one_inv
      obtain ⟨a, ws, rfl, ha, r⟩ := rv.ro_inv
      refine .inr (.inl ⟨a, ws, rfl, .inl ha.sq, ?_⟩)
      rw [r.length]
      exact k _ _ h H (.int _) hh (Fr.refl h H) q
    · obtain ⟨v, rfl, rv⟩ := r.one_inv
      cases rv
      split at q
      · rename_i ds e0
        obtain ⟨ws, ha, r⟩ := hh _ _ e0
        refine .inr (.inl ⟨_, ws, rfl, .inl (SqL.of ha), ?_⟩)
        rw [r.length]
        exact k _ _ h H (.int _) hh (Fr.refl h H) q
      · rename_i ds e0
        obtain ⟨ws, ha, r⟩ := hh _ _ e0
        refine .inr (.inr ⟨_, ws, rfl, ha, ?_⟩)
        rw [r.length]
        exact k _ _ h H (.int _) hh (Fr.refl h H) q
      · exact q.elim
    · exact q.elim
theorem dc_list : DC X cn (.type "list") rList := by
  refine ⟨_, call_list_of, fun xs h Q2 q vs H r hh Q1 k => ?_⟩
  unfold rList at q
  split at q
  · obtain ⟨v, rfl, rv⟩ := r.one_inv
    obtain ⟨a, ws, rfl, ha, r⟩ := rv.ro_inv
    refine ⟨a, ws, rfl, .inl ha.sq, fun p np => ?_⟩
    exact k _ _ (upd h p (.lst _)) _ (.ref p) (hr_new hh np ⟨_, L2.upd_same, r.mono (tle_new np)⟩) (fr_new np) (q p (hh.none np))
  · obtain ⟨v, rfl, rv⟩ := r.one_inv
    obtain ⟨a, ws, rfl, ha, r⟩ := rv.tup_inv
    refine ⟨a, ws, rfl, .inr (SqT.of ha), fun p np => ?_⟩
    exact k _ _ (upd h p (.lst _)) _ (.ref p) (hr_new hh np ⟨_, L2.upd_same, r.mono (tle_new np)⟩) (fr_new np) (q p (hh.none np))
  · obtain ⟨v, rfl, rv⟩ := r.one_inv
    cases rv
    split at q
    · rename_i ds e0
      obtain ⟨ws, ha, r⟩ := hh _ _ e0
      refine ⟨_, ws, rfl, .inl (SqL.of ha), fun p np => ?_⟩
      exact k _ _ (upd h p (.lst _)) _ (.ref p) (hr_new hh np ⟨_, L2.upd_same, r.mono (tle_new np)⟩) (fr_new np) (q p (hh.none np))
    · exact q.elim
  · exact q.elim
theorem dc_max2 (hc : X.calm = true) : DC X cn (.builtin "max") rMax2 := by
  refine ⟨_, call_max2 hc, fun xs h Q2 q vs H r hh Q1 k => ?_⟩
  unfold rMax2 at q
  split at q
  · obtain ⟨v, w, rfl, r1, r2⟩ := r.two_inv
    cases r1; cases r2
    exact ⟨_, _, rfl, k _ _ h H (.int _) hh (Fr.refl h H) q⟩
  · exact q.elim
theorem dc_int : DC X cn (.type "int") rInt := by
  refine ⟨_, call_int1, fun xs h Q2 q vs H r hh Q1 k => ?_⟩
  unfold rInt at q
  split at q
  · obtain ⟨v, rfl, rv⟩ := r.one_inv
    cases rv
    exact .inr ⟨_, rfl, k _ _ h H (.int _) hh (Fr.refl h H) q⟩
  · obtain ⟨v, rfl, rv⟩ := r.one_inv
    cases rv
    exact .inl ⟨_, rfl, k _ _ h H (.int _) hh (Fr.refl h H) q⟩
  · exact q.elim
theorem dc_all (hc : X.calm = true) : DC X cn (.builtin "all") F.rAll := by
  refine ⟨_, cr_all hc, fun xs h Q2 q vs H r hh Q1 k => ?_⟩
  unfold F.rAll at q
  split at q
  · obtain ⟨v, rfl, rv⟩ := r.one_inv
    cases rv
    obtain ⟨bs, e0, q⟩ := q
    obtain ⟨ws, ha, r⟩ := hh _ _ e0
    have := r.bls
    subst this
    exact ⟨_, bs, rfl, SqL.of ha, k _ _ h H (.bl _) hh (Fr.refl h H) q⟩
  · exact q.elim
theorem dc_sum (hc : X.calm = true) : DC X cn (.builtin "sum") F.rSum := by
  refine ⟨_, cr_sum hc, fun xs h Q2 q vs H r hh Q1 k => ?_⟩
  unfold F.rSum at q
  split at q
  · obtain ⟨v, rfl, rv⟩ := r.one_inv
    cases rv
    obtain ⟨bs, e0, q⟩ := q
    obtain ⟨ws, ha, r⟩ := hh _ _ e0
    have := r.intsD
    subst this
    exact ⟨_, bs, rfl, SqL.of ha, k _ _ h H (.int _) hh (Fr.refl h H) q⟩
  · exact q.elim
end
end F

set_option Elab.async false
set_option linter.all false
set_option maxRecDepth 100000
set_option maxHeartbeats 4000000
/-! the bridge: tuple, isinstance, methods, stores, targets, statements -/
namespace F
open PySem PySem.Spec PyProof.Rows L2
section
variable {X : Cx} {cn : Cn} {W : WX} {a b c e f o : Expr} {ta tb tc te tf to : TE} {pos apos cpos : Pos} {es : List Expr} {tr : F.TA}
theorem dc_tuple : DC X cn (.type "tuple") rTuple := by
  refine ⟨_, call_tuple_of, fun xs h Q2 q vs H r hh Q1 k => ?_⟩
  unfold rTuple at q
  split at q
  · obtain ⟨v, rfl, rv⟩ := r.one_inv
    obtain ⟨a, ws, rfl, ha, r⟩ := rv.tup_inv
    exact ⟨a, ws, rfl, .inr ⟨SqT.of ha, k _ _ h H (.tup ha r) hh (Fr.refl h H) q⟩⟩
  · obtain ⟨v, rfl, rv⟩ := r.one_inv
    cases rv
    obtain ⟨ys, e0, q⟩ := q
    obtain ⟨ws, ha, r⟩ := hh _ _ e0
    refine ⟨_, ws, rfl, .inl ⟨SqL.of ha, fun p np => ?_⟩⟩
    exact k _ _ h _ (.tup L2.upd_same (r.mono (tle_new np))) (hr_tup hh np) (fr_tup np) q
  · exact q.elim
/-! isinstance(x, T) -/
def Ty.nm : Ty → String
  | .int => "int" | .bool => "bool" | .str => "str" | .tuple => "tuple" | .list => "list"
theorem isA_ok {g : G} {h : Hp} {H : LHp} (hh : HR g h H) {v : V} {d : D} {t : Ty} {b : Bool} (r : Rep g H v d) (e : isA h d t = some b) : ∃ T, TyX g.K H v (.type T) ∧ kitB T t.nm = some b := by
  cases r with
  | non => cases e; exact ⟨_, .base .non, by cases t <;> decide +kernel⟩
  | bl x =>
    simp only [isA] at e; cases e
    exact ⟨_, .base (.bl x), by cases t <;> decide +kernel⟩
  | int x =>
    simp only [isA] at e; cases e
    exact ⟨_, .base (.int x), by cases t <;> decide +kernel⟩
  | str x =>
    simp only [isA] at e; cases e
    exact ⟨_, .base (.str x), by cases t <;> decide +kernel⟩
  | tup ha r =>
    simp only [isA] at e; cases e
    exact ⟨_, .base (.tup ha), by cases t <;> decide +kernel⟩
  | ref a =>
    simp only [isA] at e
    split at e
    · rename_i ds e0
      obtain ⟨ws, ha, r⟩ := hh _ _ e0
      cases e
      exact ⟨_, .base (.lst ha), by cases t <;> decide +kernel⟩
    · cases e
  | ro _ _ => cases e
  | ct _ _ => cases e
  | wd _ _ => cases e
theorem SimE.isA {g : G} {t1 : L2.TE} {t2 : TE} {t : Ty} {n : String} (hn : n = t.nm) (s : SimE g W t1 t2) : SimE g W (tCB (rIsi g.K) (tCons t1 (tCons (tC (.ty n)) tNil))) (eCB (rIsA t) (aCons t2 aNil)) := by
  subst hn
  intro E σ2 h Q2 q σ H rs hh w Q1 k
  refine s E σ2 h _ q σ H rs hh w _ fun v d h1 H1 rv hh1 f1 q1 => ?_
  have q2 : rIsA t [d] h1 Q2 := q1
  unfold rIsA at q2
  simp only at q2
  split at q2
  · rename_i b eb
    obtain ⟨T, hT, hk⟩ := isA_ok hh1 rv eb
    exact ⟨v, .ty t.nm, .type T, .type t.nm, b, rfl, .ty _, hT, kit_ty hk, k _ _ h1 H1 (.bl b) hh1 f1 q2⟩
  · exact q2.elim
theorem de_isA {T : Str} {n : String} {p p' : Pos} (t : Ty) (ha : DE X cn W a ta) (hg : Gl X "isinstance") (hm : X.mg "isinstance" = none) (hgT : Gl X T) (hmT : X.mg T = none) (hvT : bootBuiltins T = some (.type n)) (hn : n = t.nm := by rfl) (hv : bootBuiltins "isinstance" = some (.builtin "isinstance") := by decide +kernel) (hnT : T ≠ "__name__" := by decide) (hdb : (T == ("__debug__" : Str)) = false := by decide)
    (he : starEach (a :: [.Name T p']) X.env = (false, eval a X.env) :: starEach [.Name T p'] X.env := by rfl) (he2 : starEach (.Name T p' :: []) X.env = (false, eval (.Name T p') X.env) :: starEach [] X.env := by rfl) (hpl : (backTo pos (starEach [.Name T p'] X.env)).any (·.1) = false := by rfl) :
    DE X cn W (.Call (.Name "isinstance" p) [a, .Name T p'] [] pos) (eCB (rIsA t) (aCons ta aNil)) := by
  obtain ⟨t1, p1, s1⟩ := ha
  refine ⟨_, pe_callB call_isi hg hm hv (pa_cons p1 (pa_cons (pe_bltn (v := .ty n) hgT hmT hvT rfl hnT hdb) pa_nil he2) he) (by decide) (by decide) he hpl, SimE.isA hn s1⟩
/-! methods of lists -/
def DM (X : Cx) (cn : Cn) (id : String) (r2 : RM) : Prop := ∃ r1, MtR X id r1 ∧ ∀ x xs h Q2, r2 x xs h Q2 → ∀ v vs H, Rep (gOf X cn) H v x → Reps (gOf X cn) H vs xs → HR (gOf X cn) h H → ∀ Q1 : VK, Bk (gOf X cn) h H Q2 Q1 → r1 v vs H Q1
theorem isLst_ok {g : G} {h : Hp} {H : LHp} (hh : HR g h H) {v : V} {d : D} (r : Rep g H v d) (e : isLst h d) : tyV g.K "list" v H := by
  unfold isLst at e
  split at e
  · cases r
    split at e
    · rename_i e0
      obtain ⟨ws, ha, r⟩ := hh _ _ e0
      exact .inl ⟨rfl, ws, SqL.of ha⟩
    · exact e.elim
  · exact e.elim
theorem de_bm {name : Str} {id : String} {r2 : RM} (pa : PlainAttrs "list") (slot : Slot "list" name id) (hty : typeOf (.builtin id) = pure (.type "method_descriptor")) (hm : DM X cn id r2) (ho : DE X cn W o to) (ha : DA X cn W (e :: es) tr)
    (hbase : attributeBase o name X.env (eval o X.env) = eval o X.env := by rfl)
    (hfew : ((backTo cpos (starEach (e :: es) X.env)).all (fun x => !x.1) && (backToKw cpos (keywordEach [] X.env)).all (fun x => x.1.isSome)
      && decide ((e :: es).length + ([] : List Keyword).length + (if ([] : List Keyword).isEmpty then 0 else 1) < 30)) = true := by rfl)
    (hline : (apos.endLine == cpos.line) = true := by rfl) (hs : starEach (e :: es) X.env = (false, eval e X.env) :: starEach es X.env := by rfl) (hplain : (backTo cpos (starEach es X.env)).any (·.1) = false := by rfl) :
    DE X cn W (.Call (.Attribute o name apos) (e :: es) [] cpos) (eBM r2 to tr) := by
  obtain ⟨r1, h1, h2⟩ := hm
  obtain ⟨t1, p1, s1⟩ := ho
  obtain ⟨u1, p2, s2⟩ := ha
  refine ⟨_, pe_bm pa slot hty h1 p1 p2 hbase hfew hline hs hplain, fun E σ2 h Q2 q σ H rs hh w Q1 k => ?_⟩
  refine s1 E σ2 h _ q σ H rs hh w _ fun v d h1 H1 rv hh1 f1 q1 => ?_
  refine ⟨isLst_ok hh1 rv q1.1, ?_⟩
  refine s2 E σ2 h1 _ q1.2 σ H1 (rs.mono (f1.tle hh)) hh1 (w.step f1) _ fun vs ds h3 H3 rv' hh3 f3 q3 => ?_
  exact h2 _ _ _ _ q3 _ _ _ (rv.mono (f3.tle hh1)) rv' hh3 _ fun z y h4 H4 rz hh4 f4 q4 => k z y h4 H4 rz hh4 ((f1.trans f3).trans f4) q4
theorem dm_append : DM X cn "list.append" F.rAppend := by
  refine ⟨_, mt_append, fun x xs h Q2 q v vs H rx rxs hh Q1 k => ?_⟩
  unfold F.rAppend at q
  split at q
  · rename_i a y
    cases rx
    obtain ⟨w, rfl, rw⟩ := rxs.one_inv
    obtain ⟨ds, e0, hl, q⟩ := q
    obtain ⟨ws, ha, r⟩ := hh _ _ e0
    refine ⟨a, ws, w, rfl, rfl, ha, Nat.lt_of_lt_of_le (by rw [r.length]; exact hl) line_le, ?_⟩
    exact k _ _ (upd h a (.lst (ds ++ [y]))) _ .non (hr_write hh e0 ⟨_, L2.upd_same, (r.append (.one rw)).mono (hh.tw e0)⟩) (fr_write hh e0 rfl) q
  · exact q.elim
theorem dm_popAt : DM X cn "list.pop" F.rPopAt := by
  refine ⟨_, mt_popAt, fun x xs h Q2 q v vs H rx rxs hh Q1 k => ?_⟩
  unfold F.rPopAt at q
  split at q
  · rename_i a i
    cases rx
    obtain ⟨w, rfl, rw⟩ := rxs.one_inv
    cases rw
    obtain ⟨ds, y, e0, h1, h2, h3, q⟩ := q
    obtain ⟨ws, ha, r⟩ := hh _ _ e0
    obtain ⟨z, ez, rz⟩ := r.get h3
    have hlt : i.toNat < ds.length := (List.getElem?_eq_some_iff.mp h3).1
    have hwl := r.length
    have hln : line = 100000 := rfl
    have hsi : seqIndex? i ws.length = some i.toNat := by
      unfold seqIndex?
      rw [if_neg (by omega : ¬ i < 0)]
      simp only
      rw [if_pos]
      simp only [Bool.and_eq_true, decide_eq_true_eq]
      omega
    refine ⟨a, ws, i, i.toNat, z, rfl, rfl, ha, by omega, by omega, hsi, ez, ?_⟩
    exact k _ _ (upd h a (.lst (ds.eraseIdx i.toNat))) _ (rz.mono (hh.tw e0)) (hr_write hh e0 ⟨_, L2.upd_same, (r.eraseIdx _).mono (hh.tw e0)⟩) (fr_write hh e0 rfl) q
  · exact q.elim
theorem dm_count : DM X cn "list.count" F.rCount := by
  refine ⟨_, mt_lcount, fun x xs h Q2 q v vs H rx rxs hh Q1 k => ?_⟩
  unfold F.rCount at q
  split at q
  · rename_i a i
    cases rx
    obtain ⟨w, rfl, rw⟩ := rxs.one_inv
    cases rw
    obtain ⟨ns, e0, q⟩ := q
    obtain ⟨ws, ha, r⟩ := hh _ _ e0
    have := r.intsD
    subst this
    exact ⟨a, ns, i, rfl, rfl, SqL.of ha, k _ _ h H (.int _) hh (Fr.refl h H) q⟩
  · exact q.elim
/-! methods of dicts -/
theorem isDct_ok {g : G} {h : Hp} {H : LHp} (hh : HR g h H) {v : V} {d : D} (r : Rep g H v d) (e : isDct h d) : ∃ a, v = .ref a ∧ d = .ref a ∧ IsD H a := by
  unfold isDct at e
  split at e
  · cases r
    split at e
    · rename_i e0
      obtain ⟨ws, ha, r⟩ := hh _ _ e0
      exact ⟨_, rfl, rfl, .inl ⟨ws, .inl ha⟩⟩
    · exact e.elim
  · exact e.elim
theorem de_get2 (hu : X.A.units + 1 < cLine) (ho : DE X cn W o to) (he : DE X cn W e te) (hf : DE X cn W f tf) (m : M2 X o "get" apos e f cpos) : DE X cn W (.Call (.Attribute o "get" apos) [e, f] [] cpos) (eDM rGet2 to (aCons te (aCons tf aNil))) := by
  obtain ⟨t1, p1, s1⟩ := ho
  obtain ⟨u1, p2, s2⟩ := he
  obtain ⟨u3, p3, s3⟩ := hf
  refine ⟨_, pe_dget2 hu p1 p2 p3 m, fun E σ2 h Q2 q σ H rs hh w Q1 k => ?_⟩
  refine s1 E σ2 h _ q σ H rs hh w _ fun v d h1 H1 rv hh1 f1 q1 => ?_
  obtain ⟨a, rfl, rfl, hd⟩ := isDct_ok hh1 rv q1.1
  refine ⟨a, rfl, hd, ?_⟩
  have q2 := q1.2
  refine s2 E σ2 h1 _ q2 σ H1 (rs.mono (f1.tle hh)) hh1 (w.step f1) _ fun v2 d2 h2 H2 rv2 hh2 f2 q2 => ?_
  refine s3 E σ2 h2 _ q2 σ H2 (rs.mono ((f1.trans f2).tle hh)) hh2 (w.step (f1.trans f2)) _ fun v3 d3 h3 H3 rv3 hh3 f3 q3 => ?_
  obtain ⟨kvs, kk, e0, ek, q⟩ : ∃ kvs k, h3 a = some (.dK kvs) ∧ d2.key = some k ∧ Q2 ((look kvs k).getD d3) h3 := q3
  obtain ⟨vs, ha, r⟩ := hh3 _ _ e0
  have rk := (rv2.mono (f3.tle hh2)).key_inv ek
  refine ⟨valV vs kk, by rw [rk]; exact DGet.k ha, ?_⟩
  rcases r.val kk with ⟨h1', h2'⟩ | ⟨d', v', h1', h2', h3'⟩
  · rw [h1'] at q
    rw [h2']
    exact k _ _ h3 H3 rv3 hh3 ((f1.trans f2).trans f3) q
  · rw [h1'] at q
    rw [h2']
    exact k _ _ h3 H3 h3' hh3 ((f1.trans f2).trans f3) q
theorem de_pop2 (ho : DE X cn W o to) (he : DE X cn W e te) (hf : DE X cn W f tf) (m : M2 X o "pop" apos e f cpos) : DE X cn W (.Call (.Attribute o "pop" apos) [e, f] [] cpos) (eDM rPop2 to (aCons te (aCons tf aNil))) := by
  obtain ⟨t1, p1, s1⟩ := ho
  obtain ⟨u1, p2, s2⟩ := he
  obtain ⟨u3, p3, s3⟩ := hf
  refine ⟨_, pe_dpop2 p1 p2 p3 m, fun E σ2 h Q2 q σ H rs hh w Q1 k => ?_⟩
  refine s1 E σ2 h _ q σ H rs hh w _ fun v d h1 H1 rv hh1 f1 q1 => ?_
  obtain ⟨a, rfl, rfl, hd⟩ := isDct_ok hh1 rv q1.1
  refine ⟨a, rfl, hd, ?_⟩
  have q2 := q1.2
  refine s2 E σ2 h1 _ q2 σ H1 (rs.mono (f1.tle hh)) hh1 (w.step f1) _ fun v2 d2 h2 H2 rv2 hh2 f2 q2 => ?_
  refine s3 E σ2 h2 _ q2 σ H2 (rs.mono ((f1.trans f2).tle hh)) hh2 (w.step (f1.trans f2)) _ fun v3 d3 h3 H3 rv3 hh3 f3 q3 => ?_
  obtain ⟨kvs, kk, e0, ek, q⟩ : ∃ kvs k, h3 a = some (.dK kvs) ∧ d2.key = some k ∧ (match look kvs k with
    | some v => Q2 v (upd h3 a (.dK (drop kvs k)))
    | none => Q2 d3 h3) := q3
  obtain ⟨vs, ha, r⟩ := hh3 _ _ e0
  have rk := (rv2.mono (f3.tle hh2)).key_inv ek
  have ff := (f1.trans f2).trans f3
  refine ⟨vs, kk, ha, rk, fun v' e' => ?_, fun e' => ?_⟩
  · rcases r.val kk with ⟨h1', h2'⟩ | ⟨d', v2', h1', h2', h3'⟩
    · rw [h2'] at e'; cases e'
    · rw [h2'] at e'; cases e'
      rw [h1'] at q
      exact k _ _ (upd h3 a (.dK (drop kvs kk))) _ (h3'.mono (hh3.tw e0)) (hr_write hh3 e0 ⟨_, L2.upd_same, (r.drop).mono (hh3.tw e0)⟩) (ff.trans (fr_write hh3 e0 rfl)) q
  · rcases r.val kk with ⟨h1', h2'⟩ | ⟨d', v2', h1', h2', h3'⟩
    · rw [h1'] at q
      exact k _ _ h3 H3 rv3 hh3 ff q
    · rw [h2'] at e'; cases e'
end
end F

set_option Elab.async false
set_option linter.all false
set_option maxRecDepth 100000
set_option maxHeartbeats 4000000
/-! the bridge: targets, statements, loops -/
namespace F
open PySem PySem.Spec PyProof.Rows L2

theorem sg_some {σ2 : St} {i : Nat} {d : D} (e : sg σ2 i = some d) : i < σ2.length := by
  induction σ2 generalizing i with
  | nil => cases e
  | cons x r ih =>
    cases i with
    | zero => simp
    | succ n => have := ih (i := n) e; simp; omega
theorem ss_length (σ2 : St) (i : Nat) (d : D) : (ss σ2 i d).length = σ2.length := by
  induction σ2 generalizing i with
  | nil => rfl
  | cons x r ih =>
    cases i with
    | zero => rfl
    | succ n => simp [ss, ih]
theorem sw_length (σ2 : St) (i : Nat) : (sw σ2 i).length = σ2.length := by
  induction σ2 generalizing i with
  | nil => rfl
  | cons x r ih =>
    cases i with
    | zero => rfl
    | succ n => simp [sw, ih]
theorem sg_ss {σ2 : St} {i j : Nat} {d x : D} (e : sg (ss σ2 i d) j = some x) : (j = i ∧ x = d) ∨ (j ≠ i ∧ sg σ2 j = some x) := by
  induction σ2 generalizing i j with
  | nil => cases e
  | cons y r ih =>
    cases i with
    | zero =>
      cases j with
      | zero => simp [ss, sg] at e; exact .inl ⟨rfl, e.symm⟩
      | succ m => exact .inr ⟨by simp, e⟩
    | succ n =>
      cases j with
      | zero => exact .inr ⟨by simp, e⟩
      | succ m =>
        rcases ih (i := n) (j := m) e with ⟨h1, h2⟩ | ⟨h1, h2⟩
        · exact .inl ⟨by rw [h1], h2⟩
        · exact .inr ⟨by omega, h2⟩
theorem sg_sw {σ2 : St} {i j : Nat} {x : D} (e : sg (sw σ2 i) j = some x) : j ≠ i ∧ sg σ2 j = some x := by
  induction σ2 generalizing i j with
  | nil => cases e
  | cons y r ih =>
    cases i with
    | zero =>
      cases j with
      | zero => simp [sw, sg] at e
      | succ m => exact ⟨by simp, e⟩
    | succ n =>
      cases j with
      | zero => exact ⟨by simp, e⟩
      | succ m =>
        obtain ⟨h1, h2⟩ := ih (i := n) (j := m) e
        exact ⟨by omega, h2⟩
theorem RSt.set {g : G} {H : LHp} {σ : LSt} {σ2 : St} {v : V} {d : D} (i : Nat) (r : RSt g H σ σ2) (rv : Rep g H v d) : RSt g H (σ.set i (some v)) (ss σ2 i d) := by
  refine ⟨by rw [List.length_set, ss_length]; exact r.1, fun j x e => ?_⟩
  rcases sg_ss e with ⟨rfl, rfl⟩ | ⟨h1, h2⟩
  · have := sg_some e
    rw [ss_length, ← r.1] at this
    exact ⟨v, List.getElem?_set_self this, rv⟩
  · obtain ⟨w, e1, r1⟩ := r.2 j x h2
    exact ⟨w, by rw [List.getElem?_set_ne (Ne.symm h1)]; exact e1, r1⟩
theorem RSt.sw {g : G} {H : LHp} {σ : LSt} {σ2 : St} (i : Nat) (r : RSt g H σ σ2) : RSt g H (σ.set i none) (sw σ2 i) := by
  refine ⟨by rw [List.length_set, sw_length]; exact r.1, fun j x e => ?_⟩
  obtain ⟨h1, h2⟩ := sg_sw e
  obtain ⟨w, e1, r1⟩ := r.2 j x h2
  exact ⟨w, by rw [List.getElem?_set_ne (Ne.symm h1)]; exact e1, r1⟩
theorem RSt.wipe {g : G} {H : LHp} {σ : LSt} {σ2 : St} (r : RSt g H σ σ2) : ∀ vs : List Nat, RSt g H (L2.wipe σ vs) (swipe σ2 vs)
  | [] => r
  | v :: vs => RSt.sw v (RSt.wipe r vs)

/-! targets -/
def SimG (g : G) (W : WX) (t1 : L2.TG) (t2 : TG) : Prop := ∀ E d σ2 h Q2, t2 E d σ2 h Q2 → ∀ v σ H, Rep g H v d → RSt g H σ σ2 → HR g h H → Wi g W E h H →
  ∀ Q1 : LSt → LHp → Prop, (∀ σ' σ2' h' H', RSt g H' σ' σ2' → HR g h' H' → Fr h H h' H' → Q2 σ2' h' → Q1 σ' H') → t1 v σ H Q1
def SimGs (g : G) (W : WX) (t1 : L2.TGs) (t2 : TGs) : Prop := ∀ E ds σ2 h Q2, t2 E ds σ2 h Q2 → ∀ vs σ H, Reps g H vs ds → RSt g H σ σ2 → HR g h H → Wi g W E h H →
  ∀ Q1 : LSt → LHp → Prop, (∀ σ' σ2' h' H', RSt g H' σ' σ2' → HR g h' H' → Fr h H h' H' → Q2 σ2' h' → Q1 σ' H') → t1 vs σ H Q1
structure DG (X : Cx) (cn : Cn) (W : WX) (e : Expr) (t2 : TG) : Prop where
  ex : ∃ t1, PG X e t1 ∧ SimG (gOf X cn) W t1 t2
theorem simG_name {g : G} {W : WX} (i : Nat) : SimG g W (L2.gName i) (F.gName i) := fun E d σ2 h Q2 q v σ H rv rs hh w Q1 k => k _ _ h H (rs.set i rv) hh (Fr.refl h H) q
structure DGs (X : Cx) (cn : Cn) (W : WX) (es : List Expr) (t2 : TGs) : Prop where
  ex : ∃ t1, PGs X es t1 ∧ SimGs (gOf X cn) W t1 t2
section
variable {X : Cx} {cn : Cn} {W : WX} {a b c e f o i : Expr} {ta tb tc te tf to ti : TE} {pos pos' : Pos} {es : List Expr} {tr : F.TA} {t u : TS}
theorem dg_name {i : Nat} {x : Str} (hN : X.N.Nodup) (hi : X.N[i]? = some x) (hx : Loc X.env.scope x) (hf : X.fn x = true ∨ X.env.scope.names.lookup x = some .local := by first | exact .inl rfl | exact .inr rfl | assumption) : DG X cn W (.Name x pos) (F.gName i) :=
  ⟨_, pg_name hN hi hx hf, simG_name i⟩
theorem dgs_nil : DGs X cn W [] F.gNil := by
  refine ⟨_, pgs_nil, fun E ds σ2 h Q2 q vs σ H rv rs hh w Q1 k => ?_⟩
  unfold F.gNil at q
  split at q
  · exact ⟨rv.nil_inv, k _ _ h H rs hh (Fr.refl h H) q⟩
  · exact q.elim
theorem dgs_cons {t : TG} {u : TGs} (h1 : DG X cn W e t) (h2 : DGs X cn W es u) (hs : (assignEach (e :: es) X.env).map (·.2) = assign e X.env :: (assignEach es X.env).map (·.2) := by rfl) :
    DGs X cn W (e :: es) (F.gCons t u) := by
  obtain ⟨t1, p1, s1⟩ := h1
  obtain ⟨u1, p2, s2⟩ := h2
  refine ⟨_, pgs_cons p1 p2 hs, fun E ds σ2 h Q2 q vs σ H rv rs hh w Q1 k => ?_⟩
  unfold F.gCons at q
  split at q
  · rename_i d r
    cases rv with
    | cons rv rvs =>
      refine ⟨_, _, rfl, s1 E d σ2 h _ q _ σ H rv rs hh w _ fun σ' σ2' h1 H1 rs1 hh1 f1 q1 => ?_⟩
      exact s2 _ _ _ _ _ q1 _ _ _ (rvs.mono (f1.tle hh)) rs1 hh1 (w.step f1) _ fun σ'' σ2'' h2 H2 rs2 hh2 f2 q2 => k _ _ h2 H2 rs2 hh2 (f1.trans f2) q2
  · exact q.elim
theorem dg_tup {k n : Nat} {t : TGs} (hc : X.calm = true) (h : DGs X cn W es t) (hn : (assignEach es X.env).length = n := by rfl) (hst : (assignEach es X.env).findIdx? (·.1) = none := by rfl) : DG X cn W (.Tuple es k pos) (F.gTup n t) := by
  obtain ⟨t1, p1, s1⟩ := h
  refine ⟨_, pg_tup hc p1 hn hst, fun E d σ2 h Q2 q v σ H rv rs hh w Q1 k => ?_⟩
  unfold F.gTup at q
  split at q
  · obtain ⟨a, vs, rfl, ha, r⟩ := rv.tup_inv
    exact ⟨a, vs, rfl, SqT.of ha, by rw [r.length]; exact q.1, s1 _ _ _ _ _ q.2 vs σ H r rs hh w Q1 k⟩
  · exact q.elim
/-- o[i] = v -/
theorem set_any (hu : X.A.units + 1 < cLine) : PSet X (fun o i v H Q => rSetL o i v H Q ∨ ∃ a H', o = .ref a ∧ DPut H a i v H' ∧ Q H') := by
  intro pins s σ H o i v ov iv u Q I ro ri rv h
  rcases h with h | ⟨a, H', rfl, dp, q⟩
  · exact set_list pins s σ H o i v ov iv u Q I ro ri rv h
  · cases ro
    exact d_setItem hu I dp ri rv fun s' I' => ⟨H', I', q⟩
theorem dg_sub (hu : X.A.units + 1 < cLine) (ho : DE X cn W o to) (hi : DE X cn W i ti)
    (ha : ∀ v, assign (.Subscript o i pos) X.env v = (do
      let ov ← holding [v] (eval o X.env)
      let iv ← holding [v, ov] (eval i X.env)
      standAt pos
      holding [v, ov, iv] (setItem ov iv v)
      release [v, ov, iv] []) := by intro _; rfl) : DG X cn W (.Subscript o i pos) (F.gSub to ti) := by
  obtain ⟨t1, p1, s1⟩ := ho
  obtain ⟨u1, p2, s2⟩ := hi
  refine ⟨_, pg_sub p1 p2 (set_any hu) ha, fun E d σ2 h Q2 q v σ H rv rs hh w Q1 k => ?_⟩
  refine s1 E σ2 h _ q σ H rs hh w _ fun v1 d1 h1 H1 rv1 hh1 f1 q1 => ?_
  refine s2 E σ2 h1 _ q1 σ H1 (rs.mono (f1.tle hh)) hh1 (w.step f1) _ fun v2 d2 h2 H2 rv2 hh2 f2 q2 => ?_
  have rs2 := rs.mono ((f1.trans f2).tle hh)
  have rv' := rv.mono ((f1.trans f2).tle hh)
  have ff := f1.trans f2
  replace rv1 := rv1.mono (f2.tle hh1)
  unfold rSet at q2
  split at q2
  · rename_i a
    obtain rfl := rv1.ref_inv
    split at q2
    · rename_i ds e0
      obtain ⟨vs, ha, r⟩ := hh2 _ _ e0
      split at q2
      · rename_i m
        cases rv2
        obtain ⟨j, ej, q3⟩ := q2
        refine .inl ⟨a, vs, m, j, rfl, rfl, ha, by rw [r.length]; exact ej, ?_⟩
        exact k _ _ (upd h2 a (.lst (ds.set j d))) _ (rs2.mono (hh2.tw e0)) (hr_write hh2 e0 ⟨_, L2.upd_same, (Reps.set rv' j r).mono (hh2.tw e0)⟩) (ff.trans (fr_write hh2 e0 rfl)) q3
      · exact q2.elim
    · rename_i kvs e0
      obtain ⟨vs, ha, r⟩ := hh2 _ _ e0
      split at q2
      · rename_i kk ek
        refine .inr ⟨a, _, rfl, ?_, k _ _ (upd h2 a (.dK (F.put kvs kk d))) (L2.upd H2 a (.dK (putK vs kk v))) (rs2.mono (hh2.tw e0)) (hr_write hh2 e0 ⟨_, L2.upd_same, (r.put rv').mono (hh2.tw e0)⟩) (ff.trans (fr_write hh2 e0 rfl)) q2.2⟩
        rw [rv2.key_inv ek]
        exact DPut.k ha (Nat.lt_of_lt_of_le (by rw [r.length]; exact q2.1) line_le)
      · exact q2.elim
    · rename_i kvs e0
      obtain ⟨vs, ha, r⟩ := hh2 _ _ e0
      split at q2
      · rename_i ks
        obtain ⟨kk, ek, hl, q3⟩ := q2
        obtain ⟨b, ws, rfl, hb, r2⟩ := rv2.tup_inv
        refine .inr ⟨a, _, rfl, DPut.t (k := kk) ha (by rw [← r2.key_inv ek]; exact hb) (Nat.lt_of_lt_of_le (by rw [r.length]; exact hl) line_le), k _ _ (upd h2 a (.dT (F.put kvs kk d))) (L2.upd H2 a (.dT (putK vs kk v))) (rs2.mono (hh2.tw e0)) (hr_write hh2 e0 ⟨_, L2.upd_same, (r.put rv').mono (hh2.tw e0)⟩) (ff.trans (fr_write hh2 e0 rfl)) q3⟩
      · exact q2.elim
    · exact q2.elim
  · exact q2.elim

/-! statements -/
/-- what follows, by data and by the layer -/
structure EndsR (g : G) (h : Hp) (H : LHp) (D2 : Ends) (D1 : L2.Ends) : Prop where
  nx : ∀ σ' σ2' h' H', RSt g H' σ' σ2' → HR g h' H' → Fr h H h' H' → D2.nx σ2' h' → D1.nx σ' H'
  rt : Bk g h H D2.rt D1.rt
  bk : ∀ σ' σ2' h' H', RSt g H' σ' σ2' → HR g h' H' → Fr h H h' H' → D2.bk σ2' h' → D1.bk σ' H'
  ct : ∀ σ' σ2' h' H', RSt g H' σ' σ2' → HR g h' H' → Fr h H h' H' → D2.ct σ2' h' → D1.ct σ' H'
theorem EndsR.step {g : G} {h h1 : Hp} {H H1 : LHp} {D2 : Ends} {D1 : L2.Ends} (r : EndsR g h H D2 D1) (f : Fr h H h1 H1) : EndsR g h1 H1 D2 D1 :=
  ⟨fun a b c d e1 e2 e3 e4 => r.nx a b c d e1 e2 (f.trans e3) e4, fun a b c d e1 e2 e3 e4 => r.rt a b c d e1 e2 (f.trans e3) e4,
    fun a b c d e1 e2 e3 e4 => r.bk a b c d e1 e2 (f.trans e3) e4, fun a b c d e1 e2 e3 e4 => r.ct a b c d e1 e2 (f.trans e3) e4⟩
def SimS (g : G) (W : WX) (t1 : L2.TS) (t2 : TS) : Prop := ∀ D2 σ2 h, t2 D2 σ2 h → ∀ σ H, RSt g H σ σ2 → HR g h H → Wi g W D2.xe h H → ∀ D1 : L2.Ends, EndsR g h H D2 D1 → t1 D1 σ H
structure DS (X : Cx) (cn : Cn) (W : WX) (st : Stmt) (t2 : TS) : Prop where
  ex : ∃ t1, PS X st t1 ∧ SimS (gOf X cn) W t1 t2
structure DSs (X : Cx) (cn : Cn) (W : WX) (st : List Stmt) (t2 : TS) : Prop where
  ex : ∃ t1, PSs X st t1 ∧ SimS (gOf X cn) W t1 t2
variable {st : Stmt} {rest : List Stmt}
theorem simS_next {g : G} : SimS g W L2.tNext F.sNext := fun D2 σ2 h q σ H rs hh w D1 k => k.nx _ _ h H rs hh (Fr.refl h H) q
theorem dss_nil : DSs X cn W [] F.sNext := ⟨_, pss_nil, simS_next⟩
theorem dss_cons (h1 : DS X cn W st t) (h2 : DSs X cn W rest u) : DSs X cn W (st :: rest) (F.sSeq t u) := by
  obtain ⟨t1, p1, s1⟩ := h1
  obtain ⟨u1, p2, s2⟩ := h2
  refine ⟨_, pss_cons p1 p2, fun D2 σ2 h q σ H rs hh w D1 k => ?_⟩
  refine s1 _ σ2 h q σ H rs hh w _ ⟨fun σ' σ2' h' H' rs' hh' f q' => ?_, k.rt, k.bk, k.ct⟩
  exact s2 _ _ _ q' _ _ rs' hh' (w.step f) _ (k.step f)
theorem dss_one (h1 : DS X cn W st t) : DSs X cn W [st] t := by
  obtain ⟨t1, p1, s1⟩ := h1
  exact ⟨_, pss_one p1, s1⟩
theorem ds_pass : DS X cn W (.Pass pos) F.sNext := ⟨_, ps_pass, simS_next⟩
theorem ds_break : DS X cn W (.Break pos) F.sBreak := ⟨_, ps_break, fun D2 σ2 h q σ H rs hh w D1 k => k.bk _ _ h H rs hh (Fr.refl h H) q⟩
theorem ds_continue : DS X cn W (.Continue pos) F.sCont := ⟨_, ps_continue, fun D2 σ2 h q σ H rs hh w D1 k => k.ct _ _ h H rs hh (Fr.refl h H) q⟩
theorem ds_expr (he : DE X cn W e te) (hs : swapsWith e none pos.line X.env = pure false := by rfl) : DS X cn W (.Expr e pos) (F.sDrop te) := by
  obtain ⟨t1, p1, s1⟩ := he
  refine ⟨_, ps_expr p1 hs, fun D2 σ2 h q σ H rs hh w D1 k => ?_⟩
  exact s1 _ σ2 h _ q σ H rs hh w _ fun v d h1 H1 rv hh1 f1 q1 => k.nx _ _ h1 H1 (rs.mono (f1.tle hh)) hh1 f1 q1
theorem ds_ret (he : DE X cn W e te) : DS X cn W (.Return (some e) pos) (F.sRet te) := by
  obtain ⟨t1, p1, s1⟩ := he
  exact ⟨_, ps_ret p1, fun D2 σ2 h q σ H rs hh w D1 k => s1 _ σ2 h _ q σ H rs hh w _ k.rt⟩
theorem ds_retN : DS X cn W (.Return none pos) F.sRetN := ⟨_, ps_retN, fun D2 σ2 h q σ H rs hh w D1 k => k.rt _ _ h H .non hh (Fr.refl h H) q⟩
theorem ds_if {tc : TT} {x y : List Stmt} (hc : DT X cn W c tc) (hx : DSs X cn W x t) (hy : DSs X cn W y u) : DS X cn W (.If c x y pos) (F.sIf tc t u) := by
  obtain ⟨t1, p1, s1⟩ := hc
  obtain ⟨u1, p2, s2⟩ := hx
  obtain ⟨u3, p3, s3⟩ := hy
  refine ⟨_, ps_if p1 p2 p3, fun D2 σ2 h q σ H rs hh w D1 k => ?_⟩
  refine s1 _ σ2 h _ q σ H rs hh w _ fun v h1 H1 hh1 f1 q1 => ?_
  cases v with
  | true =>
    rw [if_pos rfl] at q1 ⊢
    exact s2 _ _ _ q1 _ _ (rs.mono (f1.tle hh)) hh1 (w.step f1) _ (k.step f1)
  | false =>
    rw [if_neg (by decide)] at q1 ⊢
    exact s3 _ _ _ q1 _ _ (rs.mono (f1.tle hh)) hh1 (w.step f1) _ (k.step f1)
theorem ds_never : DS X cn W st F.sNever := ⟨_, ps_never, fun D2 σ2 h q => q.elim⟩
theorem SimS.asg {g : G} {t1 : L2.TE} {t2 : TE} {g1 : L2.TG} {g2 : TG} (s1 : SimE g W t1 t2) (s2 : SimG g W g1 g2) : SimS g W (L2.tAsg t1 g1) (F.sAsg t2 g2) := by
  intro D2 σ2 h q σ H rs hh w D1 k
  refine s1 _ σ2 h _ q σ H rs hh w _ fun v d h1 H1 rv hh1 f1 q1 => ?_
  exact s2 _ _ _ _ _ q1 _ _ _ rv (rs.mono (f1.tle hh)) hh1 (w.step f1) _ fun σ' σ2' h' H' rs' hh' f q' => k.nx _ _ h' H' rs' hh' (f1.trans f) q'
theorem ds_asg {tg : Expr} {g : TG} (he : DE X cn W e te) (hg : DG X cn W tg g) (hs : swapsWithSole [tg] e pos.line X.env = pure false := by rfl) (hw : swappedStores [tg] e X.env = pure none := by rfl)
    (h1 : (assignEach [tg] X.env).map (·.2) = [assign tg X.env] := by rfl) : DS X cn W (.Assign [tg] e pos) (F.sAsg te g) := by
  obtain ⟨t1, p1, s1⟩ := he
  obtain ⟨u1, p2, s2⟩ := hg
  exact ⟨_, ps_asg p1 p2 hs hw h1, SimS.asg s1 s2⟩
theorem ds_set {i : Nat} {x : Str} (hN : X.N.Nodup) (hi : X.N[i]? = some x) (hx : Loc X.env.scope x) (he : DE X cn W e te) (hs : swapsWith e (some (.Name x pos')) pos.line X.env = pure false := by rfl) (hf : X.fn x = true ∨ X.env.scope.names.lookup x = some .local := by first | exact .inl rfl | exact .inr rfl | assumption) :
    DS X cn W (.Assign [.Name x pos'] e pos) (F.sAsg te (F.gName i)) := by
  obtain ⟨t1, p1, s1⟩ := he
  exact ⟨_, ps_set hN hi hx p1 hs hf, SimS.asg s1 (simG_name i)⟩
/-- a, b = e, f -/
theorem ds_par {i j : Nat} {x y : Str} {px py pt : Pos} {kt k2 : Nat} {pt2 : Pos} (hc : X.calm = true) (hN : X.N.Nodup) (hi : X.N[i]? = some x) (hj : X.N[j]? = some y) (hij : i ≠ j)
    (hx : X.env.scope.names.lookup x = some .local) (hy : X.env.scope.names.lookup y = some .local) (ha : DA X cn W [a, b] tr)
    (hw : swappedStores [.Tuple [.Name x px, .Name y py] kt pt] (.Tuple [a, b] k2 pt2) X.env = pure (some [x, y]) := by rfl)
    (hs : swapsWithSole [.Tuple [.Name x px, .Name y py] kt pt] (.Tuple [a, b] k2 pt2) pos.line X.env = pure false := by rfl) : DS X cn W (.Assign [.Tuple [.Name x px, .Name y py] kt pt] (.Tuple [a, b] k2 pt2) pos) (F.sPar [i, j] tr) := by
  obtain ⟨t1, p1, s1⟩ := ha
  refine ⟨_, ps_par hc hN hi hj hij hx hy p1 hw hs, fun D2 σ2 h q σ H rs hh w D1 k => ?_⟩
  refine s1 _ σ2 h _ q σ H rs hh w _ fun vs ds h1 H1 rv hh1 f1 q1 => ?_
  obtain ⟨hl, q2⟩ := q1
  match ds, hl, rv, q2 with
  | [d, d'], _, rv, q2 =>
    obtain ⟨v, v', rfl, r1, r2⟩ := rv.two_inv
    exact ⟨v, v', rfl, k.nx _ _ h1 H1 (((rs.mono (f1.tle hh)).set i r1).set j r2) hh1 f1 q2⟩
end
end F

set_option Elab.async false
set_option linter.all false
set_option maxRecDepth 100000
set_option maxHeartbeats 4000000
/-! the bridge: enumerate of a tuple -/
namespace F
open PySem PySem.Spec PyProof.Rows L2
section
open AutoSeq1 (wpAny_loadPart')
theorem meets_enumerate_newT (l : Addr) (items : Array Value) (n : Nat) (dct : Option Addr) (sl : Array (Option Value)) :
    Meets (Builtin.«enumerate.__new__» ⟨[.type "enumerate", .ref l], []⟩) (fun _ R s => s.heap.get? l = some { cls := .type "tuple", dict := dct, data := .seq items n, slots := sl } ∧
      R (.ok (.ret (.ref (s.heap.push { cls := .type "tuple_iterator", data := .fields #[.ref l, .int 0 0] }).objs.size)))
        { s with heap := (s.heap.push { cls := .type "tuple_iterator", data := .fields #[.ref l, .int 0 0] }).push { cls := .type "enumerate", data := .fields #[.none, .bool false, .ref s.heap.objs.size, rawInt 0, .none, .none] } }) :=
  .of_wp fun prog w A R s h => by
    obtain ⟨hp, g, d, tk, os⟩ := s; obtain ⟨hl, h⟩ := h
    have hsub := sub_enumerate
    have hL : Heap.IsTuple (Shared.heap ⟨hp, g, d, tk, os⟩) l items := ⟨_, hl, rfl, n, rfl⟩
    wp_walk using wpAny_loadPart' hl
    refine wpAny_stack_any fun st => wpAny_pure ?_
    split
    · rename_i c _ _ _ _ _
      cases (c == Value.type "enumerate")
      · wp_walk using wpAny_loadPart' hl, wpAny_pyIter_tuple hL
        exact ⟨_, rfl, h⟩
      · wp_walk using wpAny_loadPart' hl, wpAny_pyIter_tuple hL
        exact ⟨_, rfl, h⟩
    · wp_walk using wpAny_loadPart' hl, wpAny_pyIter_tuple hL
      exact ⟨_, rfl, h⟩
end
section
variable {prog : Program} {w : World} {A : Around} {E : Value → Shared → Prop} {s : Shared}
theorem call_enumerate_tuple {l : Addr} {items : Array Value} {Q : Value → Shared → Prop} (hL : s.heap.IsTuple l items)
    (h : ∀ h', IsEnum h' (s.heap.objs.size + 1) s.heap.objs.size 0 .none → h'.IsTupleIter s.heap.objs.size l 0 → h'.objs.size = s.heap.objs.size + 2 →
      (∀ b o, s.heap.get? b = some o → h'.get? b = some o) → Q (.ref (s.heap.objs.size + 1)) { s with heap := h' }) :
    wpAny (model prog w) A (call (.type "enumerate") [.ref l]) Q E s := by
  obtain ⟨⟨c, dct, dt, sl⟩, hl, hc, n, hd⟩ := hL
  replace hc : c = .type "tuple" := hc
  replace hd : dt = .seq items n := hd
  subst hc hd
  refine callType_new F.called_enumerate (by decide) (F.typeCall_enumerate_1 _) (F.newCall_enumerate_1 _) (fun obj => F.args_object_init_2 obj _) F.entry_enumerate_new
    (meets_enumerate_newT l items n dct sl) ⟨hl, ?_⟩
  have hz : (s.heap.push { cls := .type "tuple_iterator", data := .fields #[.ref l, .int 0 0] }).objs.size = s.heap.objs.size + 1 := Heap.size_push ..
  show _ ∧ _
  rw [hz]
  have he : IsEnum ((s.heap.push { cls := .type "tuple_iterator", data := .fields #[.ref l, .int 0 0] }).push
      { cls := .type "enumerate", data := .fields #[.none, .bool false, .ref s.heap.objs.size, rawInt 0, .none, .none] }) (s.heap.objs.size + 1) s.heap.objs.size 0 .none := by
    have := Heap.get?_push_size (s.heap.push { cls := .type "tuple_iterator", data := .fields #[.ref l, .int 0 0] })
      (o := { cls := .type "enumerate", data := .fields #[.none, .bool false, .ref s.heap.objs.size, rawInt 0, .none, .none] }) rfl
    rw [hz] at this; exact this
  refine ⟨⟨_, he, rfl⟩, h _ he ⟨_, Heap.get?_push_of_some _ (Heap.get?_push_size _ rfl), rfl, rfl⟩ (by rw [Heap.size_push, hz]) fun b o x => Heap.get?_push_of_some _ (Heap.get?_push_of_some _ x)⟩
end
section
variable {prog : Program} {w : World} {A : Around} {E : Value → Shared → Prop} {s : Shared}
theorem enum_endT {e it l : Addr} {i : Nat} {items : Array Value} {old : Value} {Q : Option Value → Shared → Prop} (hh : A.handled = none)
    (he : IsEnum s.heap e it i old) (hit : s.heap.IsTupleIter it l i) (hl : s.heap.IsTuple l items) (hx : items[i]? = none)
    (hQ : ∀ h', Heap.ExtBut it s.heap h' → Q none { s with heap := h' }) : wpAny (model prog w) A (pyNext (.ref e)) Q E s := by
  have hT : s.TypeIs (.ref e) "enumerate" := ⟨_, he, rfl⟩
  unfold pyNext
  refine wpAny_bind (wpAny_attempt (wpAny_callSpecial?_slot (name := Str.ofString "__next__") hT F.slot_enumerate_next
    (wpAny_call_entry F.slot_enumerate_next hT F.entry_enumerate_next ?_ (F.args_enumerate_next_1 _))))
  show wpAny _ _ (field (.ref e) 2 >>= _) _ _ _
  refine wpAny_bind (wpAny_field he rfl (x := .ref it) rfl ?_)
  refine wpAny_bind (wpAny_nextOf_tuple_end (A := A.in1) hh hit hl hx fun h' x he' hx' => ?_)
  obtain ⟨o, ho, hc⟩ := hx'
  refine wpAny_bind (wpAny_isInstance (T := "StopIteration") (b := true) ⟨o, ho, hc⟩ isSubtype_stop ?_)
  exact wpAny_pure (hQ _ he')
end
/-- the tuple at a, its items in new pairs with their numbers -/
def IteT (K : PySem.W.Frag) (a : Addr) : It :=
  ⟨fun i H => ∃ (xs : List V) (x : V), SqT K H a xs ∧ xs[i]? = some x, fun i H v H' => ∃ T x, v = .ref T ∧ H T = none ∧ H' = L2.upd H T (.tup [.int (i : Nat), x]) ∧ ∀ xs, SqT K H a xs → xs[i]? = some x, fun i H => ∃ xs : List V, SqT K H a xs ∧ xs.length ≤ i⟩
theorem turn_enumT {P : Program} {w : World} {K : PySem.W.Frag} {elts : List Expr} {kk : Nat} {tpos : Pos} (a e it : Addr) :
    Turn P w K (.Tuple elts kk tpos) (IteT K a) [e, it] e (fun i h => (∃ old, IsEnum h e it ((i : Nat) : Int) old) ∧ h.IsTupleIter it a i ∧ e ≠ it) where
  mem := by simp
  obj := fun i h st b hb => by
    obtain ⟨⟨old, he⟩, ⟨o, ho, hc, hd⟩, _⟩ := st
    have e' : b = e ∨ b = it := by simpa using hb
    rcases e' with z | z
    · rw [z]; exact ⟨_, he, fun v q => nomatch q⟩
    · rw [z]; exact ⟨o, ho, fun v q => by rw [hd] at q; cases q⟩
  keep := fun i h h' st k => let ⟨⟨old, he⟩, hi, hne⟩ := st; ⟨⟨old, k e (by simp) _ he⟩, hi.at fun o q => k it (by simp) o q, hne⟩
  item := by
    intro X hP hw hK hc i pins s σ H E I hf st hg
    subst hP hw hK
    obtain ⟨⟨old, he⟩, hit, hne⟩ := st
    obtain ⟨xs, x, hq, hx⟩ := hg
    obtain ⟨its, rv, p, hz⟩ := I.tuple hq
    obtain ⟨u, hu, ru⟩ := rv.get hx
    have hel : e < s.heap.objs.size := Heap.lt_size he
    have hil : it < s.heap.objs.size := by obtain ⟨_, q, _⟩ := hit; exact Heap.lt_size q
    have p' : s.heap.IsTuple a its.toArray := p
    have hea : e ≠ a := by
      intro q; subst q
      obtain ⟨o, ho, hc1, _⟩ := p'
      rw [he] at ho
      have := Option.some.inj ho
      rw [← this] at hc1
      exact absurd (show Value.type "enumerate" = Value.type "tuple" from hc1) (by decide)
    have hia : a ≠ it := by
      intro q; subst q
      obtain ⟨o, ho, hc1, _⟩ := p'
      obtain ⟨o2, ho2, hc2, _⟩ := hit
      rw [ho2] at ho
      have := Option.some.inj ho
      rw [this, hc1] at hc2
      exact absurd hc2 (by decide)
    have hlt : i < its.toArray.size := by
      have := (List.getElem?_eq_some_iff.mp hu).1
      simpa using this
    refine wpAny_pyNext_enum_itemD (Draws.tuple (A := X.A.in1) (show X.A.in1.handled = none from I.ok.hd hc) it a hia its.toArray) he ⟨hit, p'⟩ hlt hne (by simp [hne, hea]) fun y h' tk hy ho hst hT hsz hk => ?_
    have hyu : y = u := by
      have e1 : its.toArray[i]? = some u := by simpa using hu
      rw [e1] at hy
      exact (Option.some.inj hy).symm
    subst hyu
    refine ⟨_, rfl, wpAny_letOwnedTupleGo_enum (s := { s with heap := h', toks := tk + 1 }) ho fun h'' he' sb => ?_⟩
    have hT2 : h''.get? s.heap.objs.size = some { cls := .type "tuple", data := .seq #[.int i tk, y] } := (sb.2 _ (Nat.ne_of_gt hel)).trans hT
    have new : ObjOk X.prog X.w (L2.upd H s.heap.objs.size (.tup [.int (i : Nat), x])) h'' s.heap.objs.size (.tup [.int (i : Nat), x]) :=
      ⟨by show 2 ≤ sizeLine; decide, [.int i tk, y], .cons ⟨_, rfl⟩ (.cons ru .nil), ⟨_, hT2, rfl, _, rfl⟩⟩
    have I1 : Inv X pins σ (L2.upd H s.heap.objs.size (.tup [.int (i : Nat), x])) { s with heap := h'', toks := tk + 1 } :=
      I.turnedNew (ch := [e, it]) (fun b ob hb q => (sb.2 b (fun z => hb (by simp [z]))).trans (hk b ob (fun z => hb (by simp [z])) (fun z => hb (by simp [z])) q)) hf (Nat.le_refl _) new
    refine ⟨.ref s.heap.objs.size, _, I1, rfl, ⟨_, x, rfl, I.hok.fresh (Nat.le_refl _), rfl, fun ys hy => by rw [I.tuple_inj hy hq]; exact hx⟩, ⟨⟨y, ?_⟩, hst.1.at fun o q => (sb.2 it (Ne.symm hne)).trans q, hne⟩, fun b hb => ?_⟩
    · have e1 : ((i + 1 : Nat) : Int) = (i : Int) + 1 := by omega
      rw [e1]; exact he'
    · have hb' : b < s.heap.objs.size := by
        have e' : b = e ∨ b = it := by simpa using hb
        rcases e' with z | z
        · rw [z]; exact hel
        · rw [z]; exact hil
      rw [L2.upd_ne (Nat.ne_of_lt hb')]
      exact (hf b hb).1
  done := by
    intro X hP hw hK hc i pins s σ H E I hf st hg
    subst hP hw hK
    obtain ⟨⟨old, he⟩, hit, hne⟩ := st
    obtain ⟨xs, hq, hx⟩ := hg
    obtain ⟨its, rv, p, hz⟩ := I.tuple hq
    obtain ⟨f0, f1, f2, f3, f4, f5⟩ := hf it (by simp)
    have hl := rv.length
    have hia : a ≠ it := by
      intro q; subst q
      obtain ⟨o, ho, hc1, _⟩ := (show s.heap.IsTuple a its.toArray from p)
      obtain ⟨o2, ho2, hc2, _⟩ := hit
      rw [ho2] at ho
      have := Option.some.inj ho
      rw [this, hc1] at hc2
      exact absurd hc2 (by decide)
    exact enum_endT (I.ok.hd hc) he hit (show s.heap.IsTuple a its.toArray from p) (by simp; omega) fun h' eb => ⟨rfl, I.turned (t' := s.toks) (fun b o hb q => eb b o hb q) f0 f1 f3 f4 f5⟩
  self := fun A i s Q E st h => let ⟨⟨_, he⟩, _⟩ := st; wpAny_pyIter_enum he h
def L2iEnumT (K : PySem.W.Frag) (ta : L2.TA) : L2.TI := fun σ H R => ta σ H fun vs H1 => ∃ a xs, vs = [.ref a] ∧ SqT K H1 a xs ∧ R (IteT K a) H1
end F

set_option Elab.async false
set_option linter.all false
set_option maxRecDepth 100000
set_option maxHeartbeats 4000000
/-! the bridge: what is walked; for, while, comprehensions -/
namespace F
open PySem PySem.Spec PyProof.Rows L2

/-- a written dict's keys -/
def Itkd (vs : List (Str × V)) : It := ⟨fun i _ => i < vs.length, fun i H x H' => H' = H ∧ ∃ k v, vs[i]? = some (k, v) ∧ x = .str k, fun i _ => vs.length ≤ i⟩
theorem WdEs.length : ∀ {es : List DictEntry} {vs : List (Str × V)}, WdEs es vs → es.length = vs.length
  | _, _, .nil => rfl
  | _, _, .cons _ _ r => by simp [WdEs.length r]
theorem WdEs.get : ∀ {es : List DictEntry} {vs : List (Str × V)} {i : Nat} {p : Str × V}, WdEs es vs → vs[i]? = some p → ∃ en t, es[i]? = some en ∧ en.key = .str p.1 t
  | _, _, _, _, .nil, e => by simp at e
  | _, _, 0, _, .cons h _ _, e => by simp at e; subst e; exact ⟨_, _, rfl, h⟩
  | _, _, i + 1, p, .cons _ _ r, e => by
    obtain ⟨en, t, h1, h2⟩ := WdEs.get (i := i) (p := p) r (by simpa using e)
    exact ⟨en, t, by simpa using h1, h2⟩
theorem turn_kd {P : Program} {w : World} {K : PySem.W.Frag} {tg : Expr} {d : Addr} {es : Array DictEntry} {n : Nat} {vs : List (Str × V)} (it : Addr) (hk : KDict K w d es n) (r : WdEs es.toList vs) :
    Turn P w K tg (Itkd vs) [it] it (fun i h => h.IsKeyIter it d i es.size n) where
  mem := by simp
  obj := fun i h st b hb => by
    have e : b = it := by simpa using hb
    subst e
    obtain ⟨oi, e, c, dd⟩ := st
    exact ⟨oi, e, fun v z => by rw [dd] at z; cases z⟩
  keep := fun i h h' st k => st.at fun oi e => k it (by simp) oi e
  item := by
    intro X hP hw hK hc i pins s σ H E I hf st hg
    subst hP hw hK
    obtain ⟨f0, f1, f2, f3, f4, f5⟩ := hf it (by simp)
    have hgd := I.kIn _ _ hk.at_
    obtain ⟨⟨k, v⟩, hkv⟩ : ∃ p, vs[i]? = some p := ⟨vs[i], List.getElem?_eq_getElem hg⟩
    obtain ⟨en, t, he, hkey⟩ := r.get hkv
    refine next_key_item st hgd rfl rfl (en := en) (by simpa using he) fun h' st' sb => ?_
    have I1 : Inv X pins σ H { s with heap := h' } := I.turned (t' := s.toks) (fun b ob hb e => (sb.2 b hb).trans e) f0 f1 f3 f4 f5
    obtain ⟨oi, e, c, dd⟩ := id st'
    exact ⟨en.key, rfl, go_of (s := { s with heap := h' }) e c dd (by decide) ⟨.str k, H, I1, ⟨t, hkey⟩, ⟨rfl, k, v, hkv, rfl⟩, st', fun b hb => (hf b hb).1⟩⟩
  done := by
    intro X hP hw hK hc i pins s σ H E I hf st hg
    subst hP hw hK
    obtain ⟨f0, f1, f2, f3, f4, f5⟩ := hf it (by simp)
    have hgd := I.kIn _ _ hk.at_
    have hl : es.size = vs.length := by have := r.length; simpa using this
    exact next_key_end (I.ok.hd hc) st hgd rfl rfl (by rw [hl]; exact hg) fun h' eb => ⟨rfl, I.turned (t' := s.toks) (fun b o hb q => eb b o hb q) f0 f1 f3 f4 f5⟩
  self := fun A i s Q E st h => wpAny_pyIter_keyiter st h
section
variable {X : Cx} {tg : Expr}
def PIV (X : Cx) (tg : Expr) (r : V → LHp → (It → LHp → Prop) → Prop) : Prop := ∀ (pins : List (Addr × Obj)) (s : Shared) (σ : LSt) (H : LHp) (x : V) (v : Value) (R : It → LHp → Prop), Inv X pins σ H s → RelV x v → r x H R →
  wpAny (model X.prog X.w) X.A (pyIter v) (PIE X pins σ tg R) X.xe s
theorem piv_list : PIV X tg (fun x H R => ∃ a, x = .ref a ∧ (∃ xs, SqL X.K H a xs) ∧ R (Itl X.K a) H) := by
  intro pins s1 σ H1 x v R I1 r1 q1
  obtain ⟨a, e, ⟨xs, hq⟩, q⟩ := q1
  subst e
  cases r1
  obtain ⟨its, rv, p, hz⟩ := I1.list hq
  exact wpAny_pyIter_list p.isList (pi_one (tk := s1.toks) I1 _ (turn_list a _) ⟨_, Heap.get?_push_size _ rfl, rfl, rfl⟩ q)
theorem piv_tup : PIV X tg (fun x H R => ∃ a, x = .ref a ∧ (∃ xs, SqT X.K H a xs) ∧ R (Itt X.K a) H) := by
  intro pins s1 σ H1 x v R I1 r1 q1
  obtain ⟨a, e, ⟨xs, hq⟩, q⟩ := q1
  subst e
  cases r1
  obtain ⟨its, rv, p, hz⟩ := I1.tuple hq
  exact wpAny_pyIter_tuple (show s1.heap.IsTuple a its.toArray from p) (pi_one (tk := s1.toks) I1 _ (turn_tuple a _) ⟨_, Heap.get?_push_size _ rfl, rfl, rfl⟩ q)
theorem piv_keys : PIV X tg (fun x H R => ∃ d o, x = .ref d ∧ ((∃ kvs, H d = some (.frz o (.dK kvs)) ∧ R (Itk d o kvs) H) ∨ ∃ kvs, H d = some (.frz o (.dT kvs)) ∧ R (Itkt d o kvs) H)) := by
  intro pins s1 σ H1 x v R I1 r1 q1
  obtain ⟨d, o, e, q⟩ := q1
  subst e
  cases r1
  rcases q with ⟨kvs, hd, q⟩ | ⟨kvs, hd, q⟩
  · obtain ⟨hs, hgd, hx, es, ep, vs, hdt, hsz, kv, hm⟩ := I1.frzK hd
    refine iter_keys hs hgd hx hdt (pi_one (tk := s1.toks) I1 _ (turn_keys _ hdt) ⟨_, Heap.get?_push_size _ rfl, rfl, ?_⟩ q)
    rw [hsz] <;> rfl
  · obtain ⟨hs, hgd, hx, es, ep, hdt, hsz, ent⟩ := I1.frzT hd
    refine iter_keys hs hgd hx hdt (pi_one (tk := s1.toks) I1 _ (turn_keysT _ hdt) ⟨_, Heap.get?_push_size _ rfl, rfl, ?_⟩ q)
    rw [hsz] <;> rfl
theorem piv_kd : PIV X tg (fun x H R => ∃ (d : Addr) (vs : List (Str × V)), x = .ref d ∧ WdAt X.K X.w d vs ∧ R (Itkd vs) H) := by
  intro pins s1 σ H1 x v R I1 r1 q1
  obtain ⟨d, vs, e, ⟨es, n, hk, r⟩, q⟩ := q1
  subst e
  cases r1
  have hgd := I1.kIn _ _ hk.at_
  exact iter_keys hk.low hgd ⟨rfl, rfl, rfl⟩ rfl (pi_one (tk := s1.toks) I1 _ (turn_kd _ hk r) ⟨_, Heap.get?_push_size _ rfl, rfl, rfl⟩ q)
theorem PIV.or {r r' : V → LHp → (It → LHp → Prop) → Prop} (h : PIV X tg r) (h' : PIV X tg r') : PIV X tg (fun x H R => r x H R ∨ r' x H R) := by
  intro pins s σ H x v R I rx q
  rcases q with q | q
  · exact h pins s σ H x v R I rx q
  · exact h' pins s σ H x v R I rx q
theorem PIV.pi {r : V → LHp → (It → LHp → Prop) → Prop} {e : Expr} {te : L2.TE} (h : PIV X tg r) (he : PE X e te) : PI X tg e (fun σ H R => te σ H fun x H1 => r x H1 R) :=
  ⟨fun pins s σ H R I q => thn (he.run pins s σ H _ I q) fun v s1 ⟨x, H1, I1, r1, q1⟩ => h pins s1 σ H1 x v R I1 r1 q1⟩
theorem pi_enumT {e : Expr} {ta : L2.TA} {p pos tpos : Pos} {elts : List Expr} {kk : Nat} (hg : Gl X "enumerate") (hm : X.mg "enumerate" = none) (ha : PA X [e] ta) (hs : starEach [e] X.env = [(false, eval e X.env)] := by rfl) :
    PI X (.Tuple elts kk tpos) (.Call (.Name "enumerate" p) [e] [] pos) (fun σ H R => ta σ H fun vs H1 => ∃ a, vs = [.ref a] ∧ ((∃ xs, SqL X.K H1 a xs ∧ R (Ite X.K a) H1) ∨ ∃ xs, SqT X.K H1 a xs ∧ R (IteT X.K a) H1)) := by
  refine ⟨fun pins s σ H R I h => ?_⟩
  refine Call_ (ld_blt I hg hm boot_enumerate (PyProof.Rows.callWith_type1 (thn (ha.run pos pins s σ H _ I h) fun us s1 ⟨vs, H1, I1, r1, q1⟩ => ?_) hs rfl))
  obtain ⟨a, ex, q⟩ := q1
  subst ex
  cases r1 with
  | cons r rr =>
    cases rr
    cases r
    rcases q with ⟨xs, hq, q⟩ | ⟨xs, hq, q⟩
    · obtain ⟨its, rv, p', hz⟩ := I1.list hq
      refine call_enumerate_list p'.isList fun h' he hit hsz hk => wpAny_pyIter_enum he ?_
      have I2 : Inv X pins σ H1 { s1 with heap := h' } := I1.kept (t' := s1.toks) hk
      refine ⟨s1.heap.objs.size + 1, [s1.heap.objs.size + 1, s1.heap.objs.size], _, _, H1, rfl, I2, turn_enum a (s1.heap.objs.size + 1) s1.heap.objs.size, ⟨⟨.none, he⟩, hit, Nat.succ_ne_self _⟩, fun b hb => ?_, q⟩
      have e' : b = s1.heap.objs.size + 1 ∨ b = s1.heap.objs.size := by simpa using hb
      have hle : s1.heap.objs.size ≤ b := by
        rcases e' with z | z
        · rw [z]; exact Nat.le_add_right _ _
        · rw [z]; exact Nat.le_refl _
      exact I1.fpOk hle (I1.hok.fresh hle)
    · obtain ⟨its, rv, p', hz⟩ := I1.tuple hq
      refine call_enumerate_tuple (show s1.heap.IsTuple a its.toArray from p') fun h' he hit hsz hk => wpAny_pyIter_enum he ?_
      have I2 : Inv X pins σ H1 { s1 with heap := h' } := I1.kept (t' := s1.toks) hk
      refine ⟨s1.heap.objs.size + 1, [s1.heap.objs.size + 1, s1.heap.objs.size], _, _, H1, rfl, I2, turn_enumT a (s1.heap.objs.size + 1) s1.heap.objs.size, ⟨⟨.none, he⟩, hit, Nat.succ_ne_self _⟩, fun b hb => ?_, q⟩
      have e' : b = s1.heap.objs.size + 1 ∨ b = s1.heap.objs.size := by simpa using hb
      have hle : s1.heap.objs.size ≤ b := by
        rcases e' with z | z
        · rw [z]; exact Nat.le_add_right _ _
        · rw [z]; exact Nat.le_refl _
      exact I1.fpOk hle (I1.hok.fresh hle)
end

/-! walks by data -/
def Later (g : G) (H0 H : LHp) : Prop := TLe g H0 H ∧ ∀ a o u, H0 a = some (.frz o u) → H a = some (.frz o u)
theorem Fr.later {g : G} {h h' : Hp} {H H' : LHp} (r : HR g h H) (f : Fr h H h' H') : Later g H H' := ⟨f.tle r, f.2⟩
theorem Later.trans {g : G} {H0 H1 H2 : LHp} (a : Later g H0 H1) (b : Later g H1 H2) : Later g H0 H2 := ⟨a.1.trans b.1, fun x o u e => b.2 x o u (a.2 x o u e)⟩
structure WalkD (g : G) (H0 : LHp) (J : It) (xs : List D) (ok : Hp → Prop) : Prop where
  go : ∀ i h H, i < xs.length → HR g h H → Later g H0 H → ok h → J.go i H
  stop : ∀ h H, HR g h H → Later g H0 H → ok h → J.stop xs.length H
  yld : ∀ i h H x H', i < xs.length → HR g h H → Later g H0 H → ok h → J.yld i H x H' → ∃ d, xs[i]? = some d ∧ Rep g H' x d ∧ HR g h H' ∧ Fr h H h H'
def SimI (g : G) (W : WX) (wi : L2.TI) (t2 : TI) : Prop := ∀ E σ2 h R2, t2 E σ2 h R2 → ∀ σ H, RSt g H σ σ2 → HR g h H → Wi g W E h H →
  ∀ R1 : It → LHp → Prop, (∀ J xs ok h' H', HR g h' H' → Fr h H h' H' → WalkD g H' J xs ok → R2 xs ok h' → R1 J H') → wi σ H R1
structure DI (X : Cx) (cn : Cn) (W : WX) (tg iter : Expr) (t2 : TI) : Prop where
  ex : ∃ wi, PI X tg iter wi ∧ SimI (gOf X cn) W wi t2
theorem walk_tupD {g : G} {H0 : LHp} {a : Addr} {vs : List V} {ds : List D} (ha : H0 a = some (.tup vs)) (r : Reps g H0 vs ds) : WalkD g H0 (Itt g.K a) ds (fun _ => True) := by
  refine ⟨fun i h H hi hh l _ => ?_, fun h H hh l _ => ?_, fun i h H x H' hi hh l _ y => ?_⟩
  · obtain ⟨v, e, _⟩ := r.get (List.getElem?_eq_getElem hi)
    exact ⟨vs, v, SqT.of (l.1.1 a _ ha), e⟩
  · exact ⟨vs, SqT.of (l.1.1 a _ ha), by rw [r.length]; exact Nat.le_refl _⟩
  · obtain ⟨rfl, y⟩ := y
    obtain ⟨v, e, rv⟩ := r.get (List.getElem?_eq_getElem hi)
    have := y vs (SqT.of (l.1.1 a _ ha))
    rw [e] at this
    cases this
    exact ⟨_, List.getElem?_eq_getElem hi, rv.mono l.1, hh, Fr.refl _ _⟩
theorem walk_roD {g : G} {H0 : LHp} {a : Addr} {vs : List V} {ds : List D} (ha : RoL g.K H0 a vs) (r : Reps g H0 vs ds) : WalkD g H0 (Itl g.K a) ds (fun _ => True) := by
  refine ⟨fun i h H hi hh l _ => ?_, fun h H hh l _ => ?_, fun i h H x H' hi hh l _ y => ?_⟩
  · obtain ⟨v, e, _⟩ := r.get (List.getElem?_eq_getElem hi)
    exact ⟨vs, v, (l.1.2 a _ ha).sq, e⟩
  · exact ⟨vs, (l.1.2 a _ ha).sq, by rw [r.length]; exact Nat.le_refl _⟩
  · obtain ⟨rfl, y⟩ := y
    obtain ⟨v, e, rv⟩ := r.get (List.getElem?_eq_getElem hi)
    have := y vs (l.1.2 a _ ha).sq
    rw [e] at this
    cases this
    exact ⟨_, List.getElem?_eq_getElem hi, rv.mono l.1, hh, Fr.refl _ _⟩
theorem walk_lstD {g : G} {H0 : LHp} {a : Addr} {ds : List D} : WalkD g H0 (Itl g.K a) ds (fun h => h a = some (.lst ds)) := by
  refine ⟨fun i h H hi hh l e0 => ?_, fun h H hh l e0 => ?_, fun i h H x H' hi hh l e0 y => ?_⟩
  · obtain ⟨vs, ha, r⟩ := hh _ _ e0
    obtain ⟨v, e, _⟩ := r.get (List.getElem?_eq_getElem hi)
    exact ⟨vs, v, SqL.of ha, e⟩
  · obtain ⟨vs, ha, r⟩ := hh _ _ e0
    exact ⟨vs, SqL.of ha, by rw [r.length]; exact Nat.le_refl _⟩
  · obtain ⟨rfl, y⟩ := y
    obtain ⟨vs, ha, r⟩ := hh _ _ e0
    obtain ⟨v, e, rv⟩ := r.get (List.getElem?_eq_getElem hi)
    have := y vs (SqL.of ha)
    rw [e] at this
    cases this
    exact ⟨_, List.getElem?_eq_getElem hi, rv, hh, Fr.refl _ _⟩
theorem RKv.get {g : G} {H : LHp} {κ : Type} : ∀ {vs : List (κ × V)} {ds : List (κ × D)} {i : Nat} {p : κ × D}, RKv g H vs ds → ds[i]? = some p → ∃ v, vs[i]? = some (p.1, v) ∧ Rep g H v p.2
  | _, _, _, _, .nil, e => by simp at e
  | _, _, 0, _, .cons r _, e => by simp at e; subst e; exact ⟨_, rfl, r⟩
  | _, _, i + 1, p, .cons _ t, e => by
    obtain ⟨v, h1, h2⟩ := RKv.get (i := i) (p := p) t (by simpa using e)
    exact ⟨v, by simpa using h1, h2⟩
theorem kD_rep {g : G} {H : LHp} (k : Key) : Rep g H (kV k) (kD k) := by cases k <;> first | exact .int _ | exact .str _
theorem kDs_rep {g : G} {H : LHp} : ∀ (ks : List Key), Reps g H (ks.map kV) (ks.map kD)
  | [] => .nil
  | k :: ks => .cons (kD_rep k) (kDs_rep ks)
theorem walk_keysD {g : G} {H0 : LHp} {d : Addr} {o : Obj} {vs : List (Key × V)} {kvs : List (Key × D)} (ha : H0 d = some (.frz o (.dK vs))) (r : RKv g H0 vs kvs) : WalkD g H0 (Itk d o vs) (kvs.map fun q => kD q.1) (fun h => h d = some (.fK kvs)) := by
  refine ⟨fun i h H hi hh l e0 => ?_, fun h H hh l e0 => ?_, fun i h H x H' hi hh l e0 y => ?_⟩
  · exact ⟨l.2 _ _ _ ha, by rw [r.length]; simpa using hi⟩
  · exact ⟨l.2 _ _ _ ha, by rw [r.length]; simp⟩
  · obtain ⟨rfl, k, v, hv, rfl⟩ := y
    have hi' : i < kvs.length := by simpa using hi
    obtain ⟨v2, h1, h2⟩ := r.get (List.getElem?_eq_getElem hi')
    rw [hv] at h1
    cases h1
    exact ⟨_, by simp [hi'], kD_rep _, hh, Fr.refl _ _⟩
theorem walk_valsD {g : G} {H0 : LHp} {d : Addr} {o : Obj} {vs : List (Key × V)} {kvs : List (Key × D)} (ha : H0 d = some (.frz o (.dK vs))) (r : RKv g H0 vs kvs) : WalkD g H0 (Itd d o vs) (kvs.map fun q => q.2) (fun h => h d = some (.fK kvs)) := by
  refine ⟨fun i h H hi hh l e0 => ?_, fun h H hh l e0 => ?_, fun i h H x H' hi hh l e0 y => ?_⟩
  · exact ⟨l.2 _ _ _ ha, by rw [r.length]; simpa using hi⟩
  · exact ⟨l.2 _ _ _ ha, by rw [r.length]; simp⟩
  · obtain ⟨rfl, k, hv⟩ := y
    have hi' : i < kvs.length := by simpa using hi
    obtain ⟨v2, h1, h2⟩ := r.get (List.getElem?_eq_getElem hi')
    rw [hv] at h1
    cases h1
    exact ⟨_, by simp [hi'], h2.mono l.1, hh, Fr.refl _ _⟩
theorem walk_keysTD {g : G} {H0 : LHp} {d : Addr} {o : Obj} {vs : List (List Key × V)} {kvs : List (List Key × D)} (ha : H0 d = some (.frz o (.dT vs))) (r : RKv g H0 vs kvs) : WalkD g H0 (Itkt d o vs) (kvs.map fun q => .tup (q.1.map kD)) (fun h => h d = some (.fT kvs)) := by
  refine ⟨fun i h H hi hh l e0 => ?_, fun h H hh l e0 => ?_, fun i h H x H' hi hh l e0 y => ?_⟩
  · exact ⟨l.2 _ _ _ ha, by rw [r.length]; simpa using hi⟩
  · exact ⟨l.2 _ _ _ ha, by rw [r.length]; simp⟩
  · obtain ⟨rfl, k, v, q, hv, rfl, hq⟩ := y
    have hi' : i < kvs.length := by simpa using hi
    obtain ⟨v2, h1, h2⟩ := r.get (List.getElem?_eq_getElem hi')
    rw [hv] at h1
    cases h1
    exact ⟨_, by simp [hi'], .tup hq (kDs_rep _), hh, Fr.refl _ _⟩
theorem Repw.get {g : G} {H : LHp} : ∀ {vs : List (Str × V)} {ds : List (Str × D)} {i : Nat} {p : Str × D}, Repw g H vs ds → ds[i]? = some p → ∃ v, vs[i]? = some (p.1, v)
  | _, _, _, _, .nil, e => by simp at e
  | _, _, 0, _, .cons r _, e => by simp at e; subst e; exact ⟨_, rfl⟩
  | _, _, i + 1, p, .cons _ t, e => by
    obtain ⟨v, h1⟩ := Repw.get (i := i) (p := p) t (by simpa using e)
    exact ⟨v, by simpa using h1⟩
theorem Repw.length {g : G} {H : LHp} : ∀ {vs : List (Str × V)} {ds : List (Str × D)}, Repw g H vs ds → vs.length = ds.length
  | _, _, .nil => rfl
  | _, _, .cons _ b => by simp [Repw.length b]
theorem walk_kdD {g : G} {H0 : LHp} {vs : List (Str × V)} {kvs : List (Str × D)} (r : Repw g H0 vs kvs) : WalkD g H0 (Itkd vs) (kvs.map fun q => .str q.1) (fun _ => True) := by
  refine ⟨fun i h H hi hh l e0 => ?_, fun h H hh l e0 => ?_, fun i h H x H' hi hh l e0 y => ?_⟩
  · show i < vs.length
    rw [r.length]; simpa using hi
  · show vs.length ≤ _
    rw [r.length]; simp
  · obtain ⟨rfl, k, v, hv, rfl⟩ := y
    have hi' : i < kvs.length := by simpa using hi
    obtain ⟨v2, h1⟩ := r.get (List.getElem?_eq_getElem hi')
    rw [hv] at h1
    cases h1
    exact ⟨_, by simp [hi'], .str _, hh, Fr.refl _ _⟩
theorem irange_length (lo hi : Int) : (irange lo hi).length = (hi - lo).toNat := by simp [irange]
theorem irange_get {lo hi : Int} {i : Nat} (h : i < (hi - lo).toNat) : (irange lo hi)[i]? = some (.int (lo + (i : Int))) := by simp [irange, h]
theorem walk_rngD {g : G} {H0 : LHp} {lo hi : Int} : WalkD g H0 (Itr lo (hi - lo).toNat) (irange lo hi) (fun _ => True) := by
  refine ⟨fun i h H hi hh l _ => ?_, fun h H hh l _ => ?_, fun i h H x H' hi hh l _ y => ?_⟩
  · show i < _
    rw [← irange_length]; exact hi
  · show _ ≤ _
    rw [irange_length]; exact Nat.le_refl _
  · obtain ⟨rfl, rfl⟩ := y
    rw [irange_length] at hi
    exact ⟨_, irange_get hi, .int _, hh, Fr.refl _ _⟩
theorem enum_length (xs : List D) : (enum xs).length = xs.length := by simp [enum]
theorem enum_get {xs : List D} {i : Nat} {d : D} (h : xs[i]? = some d) : (enum xs)[i]? = some (.tup [.int (i : Int), d]) := by
  have hi := (List.getElem?_eq_some_iff.mp h).1
  unfold enum
  rw [List.getElem?_zipWith, List.getElem?_range hi, h]
theorem walk_enumT {g : G} {H0 : LHp} {a : Addr} {vs : List V} {ds : List D} (ha : H0 a = some (.tup vs)) (r : Reps g H0 vs ds) : WalkD g H0 (IteT g.K a) (enum ds) (fun _ => True) := by
  refine ⟨fun i h H hi hh l _ => ?_, fun h H hh l _ => ?_, fun i h H x H' hi hh l _ y => ?_⟩
  · rw [enum_length] at hi
    obtain ⟨v, e, _⟩ := r.get (List.getElem?_eq_getElem hi)
    exact ⟨vs, v, SqT.of (l.1.1 a _ ha), e⟩
  · exact ⟨vs, SqT.of (l.1.1 a _ ha), by rw [r.length, enum_length]; exact Nat.le_refl _⟩
  · obtain ⟨T, v, rfl, nT, rfl, y⟩ := y
    rw [enum_length] at hi
    obtain ⟨v', e, rv⟩ := r.get (List.getElem?_eq_getElem hi)
    have := y vs (SqT.of (l.1.1 a _ ha))
    rw [e] at this
    cases this
    exact ⟨_, enum_get (List.getElem?_eq_getElem hi), .tup L2.upd_same (.cons (.int _) (.cons (rv.mono (l.1.trans (tle_new nT))) .nil)), hr_tup hh nT, fr_tup nT⟩
theorem walk_enumL {g : G} {H0 : LHp} {a : Addr} {ds : List D} : WalkD g H0 (Ite g.K a) (enum ds) (fun h => h a = some (.lst ds)) := by
  refine ⟨fun i h H hi hh l e0 => ?_, fun h H hh l e0 => ?_, fun i h H x H' hi hh l e0 y => ?_⟩
  · rw [enum_length] at hi
    obtain ⟨vs, ha, r⟩ := hh _ _ e0
    obtain ⟨v, e, _⟩ := r.get (List.getElem?_eq_getElem hi)
    exact ⟨vs, v, SqL.of ha, e⟩
  · obtain ⟨vs, ha, r⟩ := hh _ _ e0
    exact ⟨vs, SqL.of ha, by rw [r.length, enum_length]; exact Nat.le_refl _⟩
  · obtain ⟨T, v, rfl, nT, rfl, y⟩ := y
    rw [enum_length] at hi
    obtain ⟨vs, ha, r⟩ := hh _ _ e0
    obtain ⟨v', e, rv⟩ := r.get (List.getElem?_eq_getElem hi)
    have := y vs (SqL.of ha)
    rw [e] at this
    cases this
    exact ⟨_, enum_get (List.getElem?_eq_getElem hi), .tup L2.upd_same (.cons (.int _) (.cons (rv.mono (tle_new nT)) .nil)), hr_tup hh nT, fr_tup nT⟩
end F

set_option Elab.async false
set_option linter.all false
set_option maxRecDepth 100000
set_option maxHeartbeats 4000000
/-! the bridge: for, while, locks, comprehensions -/
namespace F
open PySem PySem.Spec PyProof.Rows L2
section
variable {X : Cx} {cn : Cn} {W : WX} {a b c e f o i tg iter elt : Expr} {ta tb tc te tf to ti : TE} {pos pos' p apos cpos : Pos} {es : List Expr} {tr : F.TA} {t u : TS} {it : F.TI}
theorem di_seq (ha : DE X cn W e te) : DI X cn W tg e (F.iSeq te) := by
  obtain ⟨t1, p1, s1⟩ := ha
  refine ⟨_, (((piv_list.or piv_tup).or piv_keys).or piv_kd).pi p1, fun E σ2 h R2 q σ H rs hh w R1 k => ?_⟩
  refine s1 E σ2 h _ q σ H rs hh w _ fun v d h1 H1 rv hh1 f1 q1 => ?_
  cases rv with
  | tup ha r => exact .inl (.inl (.inr ⟨_, rfl, ⟨_, SqT.of ha⟩, k _ _ _ h1 H1 hh1 f1 (walk_tupD ha r) q1⟩))
  | ro ha r => exact .inl (.inl (.inl ⟨_, rfl, ⟨_, ha.sq⟩, k _ _ _ h1 H1 hh1 f1 (walk_roD ha r) q1⟩))
  | wd ha r => exact .inr ⟨_, _, rfl, ha, k _ _ _ h1 H1 hh1 f1 (walk_kdD r) q1⟩
  | ref a =>
    simp only at q1
    split at q1
    · rename_i ds e0
      obtain ⟨vs, ha, r⟩ := hh1 _ _ e0
      exact .inl (.inl (.inl ⟨_, rfl, ⟨_, SqL.of ha⟩, k _ _ _ h1 H1 hh1 f1 walk_lstD q1⟩))
    · rename_i ds e0
      obtain ⟨o, vs, ha, r⟩ := hh1 _ _ e0
      exact .inl (.inr ⟨_, o, rfl, .inl ⟨vs, ha, k _ _ _ h1 H1 hh1 f1 (walk_keysD ha r) q1⟩⟩)
    · rename_i ds e0
      obtain ⟨o, vs, ha, r⟩ := hh1 _ _ e0
      exact .inl (.inr ⟨_, o, rfl, .inr ⟨vs, ha, k _ _ _ h1 H1 hh1 f1 (walk_keysTD ha r) q1⟩⟩)
    · exact q1.elim
  | int i => exact q1.elim
  | bl b => exact q1.elim
  | non => exact q1.elim
  | str x => exact q1.elim
  | ct h r => exact q1.elim
theorem di_rng1 (hg : Gl X "range") (hm : X.mg "range" = none) (ha : DE X cn W a ta) (hs : starEach [a] X.env = [(false, eval a X.env)] := by rfl) : DI X cn W tg (.Call (.Name "range" p) [a] [] pos) (F.iRng (F.aCons ta F.aNil)) := by
  obtain ⟨t1, p1, s1⟩ := ha
  refine ⟨_, pi_range1 hg hm (pa_cons p1 pa_nil hs) hs, fun E σ2 h R2 q σ H rs hh w R1 k => ?_⟩
  refine s1 E σ2 h _ q σ H rs hh w _ fun v d h1 H1 rv hh1 f1 q1 => ?_
  cases rv with
  | int n =>
    refine ⟨n, rfl, q1.1.1, q1.1.2, ?_⟩
    have z := k _ _ _ h1 H1 hh1 f1 (walk_rngD (g := gOf X cn) (H0 := H1) (lo := 0) (hi := n)) q1.2
    rw [Int.sub_zero] at z
    exact z
  | bl b => exact q1.elim
  | non => exact q1.elim
  | str x => exact q1.elim
  | ct h r => exact q1.elim
  | tup h r => exact q1.elim
  | ro h r => exact q1.elim
  | wd h r => exact q1.elim
  | ref a => exact q1.elim
theorem di_rng2 (hg : Gl X "range") (hm : X.mg "range" = none) (ha : DE X cn W a ta) (hb : DE X cn W b tb) (hs : starEach [a, b] X.env = [(false, eval a X.env), (false, eval b X.env)] := by rfl) (hs1 : starEach [b] X.env = [(false, eval b X.env)] := by rfl) :
    DI X cn W tg (.Call (.Name "range" p) [a, b] [] pos) (F.iRng (F.aCons ta (F.aCons tb F.aNil))) := by
  obtain ⟨t1, p1, s1⟩ := ha
  obtain ⟨t2, p2, s2⟩ := hb
  have hs2 : starEach (a :: [b]) X.env = (false, eval a X.env) :: starEach [b] X.env := by rw [hs, hs1]
  refine ⟨_, pi_range2 hg hm (pa_cons p1 (pa_cons p2 pa_nil hs1) hs2) hs hs1, fun E σ2 h R2 q σ H rs hh w R1 k => ?_⟩
  refine s1 E σ2 h _ q σ H rs hh w _ fun v d h1 H1 rv hh1 f1 q1 => ?_
  refine s2 E σ2 h1 _ q1 σ H1 (rs.mono (f1.tle hh)) hh1 (w.step f1) _ fun v2 d2 h2 H2 rv2 hh2 f2 q2 => ?_
  simp only [F.aNil] at q2
  split at q2
  · rename_i n e; cases e
  · rename_i m n e
    cases e
    cases rv
    cases rv2
    exact ⟨m, n, rfl, q2.1, k _ _ _ h2 H2 hh2 (f1.trans f2) walk_rngD q2.2⟩
  · exact q2.elim
theorem di_enum {elts : List Expr} {kk : Nat} {tpos : Pos} (hg : Gl X "enumerate") (hm : X.mg "enumerate" = none) (ha : DE X cn W a ta) (hs : starEach [a] X.env = [(false, eval a X.env)] := by rfl) : DI X cn W (.Tuple elts kk tpos) (.Call (.Name "enumerate" p) [a] [] pos) (F.iEnum ta) := by
  obtain ⟨t1, p1, s1⟩ := ha
  refine ⟨_, pi_enumT hg hm (pa_cons p1 pa_nil hs) hs, fun E σ2 h R2 q σ H rs hh w R1 k => ?_⟩
  refine s1 E σ2 h _ q σ H rs hh w _ fun v d h1 H1 rv hh1 f1 q1 => ?_
  cases rv with
  | tup ha r => exact ⟨_, rfl, .inr ⟨_, SqT.of ha, k _ _ _ h1 H1 hh1 f1 (walk_enumT ha r) q1⟩⟩
  | ref a =>
    simp only at q1
    split at q1
    · rename_i ds e0
      obtain ⟨vs, ha, r⟩ := hh1 _ _ e0
      exact ⟨_, rfl, .inl ⟨_, SqL.of ha, k _ _ _ h1 H1 hh1 f1 walk_enumL q1⟩⟩
    · exact q1.elim
  | int i => exact q1.elim
  | bl b => exact q1.elim
  | non => exact q1.elim
  | str x => exact q1.elim
  | ct h r => exact q1.elim
  | ro h r => exact q1.elim
  | wd h r => exact q1.elim
theorem di_vals (ha : DE X cn W e te) (hbase : attributeBase e "values" X.env (eval e X.env) = eval e X.env := by rfl) (hline : (apos.endLine == cpos.line) = true := by rfl) : DI X cn W tg (.Call (.Attribute e "values" apos) [] [] cpos) (F.iVals te) := by
  obtain ⟨t1, p1, s1⟩ := ha
  refine ⟨_, pi_values p1 hbase hline, fun E σ2 h R2 q σ H rs hh w R1 k => ?_⟩
  refine s1 E σ2 h _ q σ H rs hh w _ fun v d h1 H1 rv hh1 f1 q1 => ?_
  cases rv with
  | ref a =>
    simp only at q1
    split at q1
    · rename_i ds e0
      obtain ⟨o, vs, ha, r⟩ := hh1 _ _ e0
      exact ⟨_, o, vs, rfl, ha, k _ _ _ h1 H1 hh1 f1 (walk_valsD ha r) q1⟩
    · exact q1.elim
  | int i => exact q1.elim
  | bl b => exact q1.elim
  | non => exact q1.elim
  | str x => exact q1.elim
  | ct h r => exact q1.elim
  | ro h r => exact q1.elim
  | wd h r => exact q1.elim
  | tup h r => exact q1.elim
theorem ds_for {body : List Stmt} {g : TG} (hp : PassesOwn (model X.prog X.w) X.A X.env X.xe) (hc : X.calm = true) (hi : DI X cn W tg iter it) (hg : DG X cn W tg g) (hb : DSs X cn W body t)
    (hs : ∀ x, foldedSetIterable iter X.env x = pure x := by intro _; rfl) : DS X cn W (.For tg iter body [] pos) (F.sFor it g t) := by
  obtain ⟨wi, p1, s1⟩ := hi
  obtain ⟨g1, p2, s2⟩ := hg
  obtain ⟨t1, p3, s3⟩ := hb
  refine ⟨_, ps_for hp hc p1 p2 p3 hs, fun D2 σ2 h q σ H rs hh w D1 k => ?_⟩
  refine s1 _ σ2 h _ q σ H rs hh w _ fun J xs ok h1 H1 hh1 f1 wk q1 => ?_
  obtain ⟨W2, w0, wt, wd⟩ := q1
  refine ⟨fun i m σ' H' => m = xs.length - i ∧ i ≤ xs.length ∧ ∃ σ2' h', RSt (gOf X cn) H' σ' σ2' ∧ HR (gOf X cn) h' H' ∧ Fr h1 H1 h' H' ∧ W2 i σ2' h', ⟨_, rfl, Nat.zero_le _, σ2, h1, rs.mono (f1.tle hh), hh1, Fr.refl _ _, w0⟩, fun i m σ' H' ⟨hm, hi, σ2', h', rs', hh', ff, w2⟩ => ?_⟩
  have lt := ff.later hh1
  by_cases e : i = xs.length
  · subst e
    obtain ⟨ho, hn⟩ := wd _ _ w2
    exact .inl ⟨wk.stop h' H' hh' lt ho, k.nx _ _ h' H' rs' hh' (f1.trans ff) hn⟩
  · have hlt : i < xs.length := by omega
    have hx := List.getElem?_eq_getElem hlt
    obtain ⟨ho, hb⟩ := wt i _ _ _ hx w2
    refine .inr ⟨wk.go i h' H' hlt hh' lt ho, fun σ3 H3 => (xs.length - (i + 1) = xs.length - (i + 1) ∧ i + 1 ≤ xs.length ∧ ∃ σ2' h', RSt (gOf X cn) H3 σ3 σ2' ∧ HR (gOf X cn) h' H3 ∧ Fr h1 H1 h' H3 ∧ W2 (i + 1) σ2' h'), fun σ3 H3 z => ⟨xs.length - (i + 1), by omega, z⟩, fun x H3 y => ?_⟩
    obtain ⟨d, hd, rd, hh3, f3⟩ := wk.yld i h' H' x H3 hlt hh' lt ho y
    rw [hx] at hd
    cases hd
    refine s2 _ _ _ _ _ hb x σ' H3 rd (rs'.mono (f3.tle hh')) hh3 (w.step ((f1.trans ff).trans f3)) _ fun σ4 σ24 h4 H4 rs4 hh4 f4 q4 => ?_
    refine s3 _ _ _ q4 σ4 H4 rs4 hh4 (w.step (((f1.trans ff).trans f3).trans f4)) _ ⟨?_, (k.step (((f1.trans ff).trans f3).trans f4)).rt, ?_, ?_⟩
    · exact fun σ5 σ25 h5 H5 rs5 hh5 f5 q5 => ⟨rfl, hlt, σ25, h5, rs5, hh5, ((ff.trans f3).trans f4).trans f5, q5⟩
    · exact (k.step (((f1.trans ff).trans f3).trans f4)).nx
    · exact fun σ5 σ25 h5 H5 rs5 hh5 f5 q5 => ⟨rfl, hlt, σ25, h5, rs5, hh5, ((ff.trans f3).trans f4).trans f5, q5⟩
theorem ds_while {tc : TT} {body : List Stmt} (hp : PassesOwn (model X.prog X.w) X.A X.env X.xe) (hc : DT X cn W c tc) (hb : DSs X cn W body t) : DS X cn W (.While c body [] pos) (F.sWhile tc t) := by
  obtain ⟨c1, p1, s1⟩ := hc
  obtain ⟨t1, p3, s3⟩ := hb
  refine ⟨_, ps_while hp p1 p3, fun D2 σ2 h q σ H rs hh w D1 k => ?_⟩
  obtain ⟨W2, ⟨m0, w0⟩, wt⟩ := q
  refine ⟨fun m σ' H' => ∃ σ2' h', RSt (gOf X cn) H' σ' σ2' ∧ HR (gOf X cn) h' H' ∧ Fr h H h' H' ∧ W2 m σ2' h', ⟨m0, σ2, h, rs, hh, Fr.refl _ _, w0⟩, fun m σ' H' ⟨σ2', h', rs', hh', ff, w2⟩ => ?_⟩
  refine s1 _ _ _ _ (wt m _ _ w2) σ' H' rs' hh' (w.step ff) _ fun v h1 H1 hh1 f1 q1 => ?_
  cases v with
  | true =>
    rw [if_pos rfl] at q1 ⊢
    obtain ⟨N, hN, q2⟩ := q1
    refine ⟨fun σ3 H3 => ∃ m', m' < m ∧ ∃ σ2' h', RSt (gOf X cn) H3 σ3 σ2' ∧ HR (gOf X cn) h' H3 ∧ Fr h H h' H3 ∧ W2 m' σ2' h', fun σ3 H3 z => z, ?_⟩
    refine s3 _ _ _ q2 σ' H1 (rs'.mono (f1.tle hh')) hh1 (w.step (ff.trans f1)) _ ⟨?_, (k.step (ff.trans f1)).rt, (k.step (ff.trans f1)).nx, ?_⟩
    · intro σ5 σ25 h5 H5 rs5 hh5 f5 q5
      obtain ⟨m', hm, hw⟩ := hN _ _ q5
      exact ⟨m', hm, σ25, h5, rs5, hh5, (ff.trans f1).trans f5, hw⟩
    · intro σ5 σ25 h5 H5 rs5 hh5 f5 q5
      obtain ⟨m', hm, hw⟩ := hN _ _ q5
      exact ⟨m', hm, σ25, h5, rs5, hh5, (ff.trans f1).trans f5, hw⟩
  | false =>
    rw [if_neg (by decide)] at q1 ⊢
    exact k.nx _ _ h1 H1 (rs'.mono (f1.tle hh')) hh1 (ff.trans f1) q1
end

/-! comprehensions -/
section
variable {g : G} {W : WX}
def canE (g : G) (W : WX) (t2 : TE) : L2.TE := fun σ H Q1 => ∃ E σ2 h Q2, t2 E σ2 h Q2 ∧ RSt g H σ σ2 ∧ HR g h H ∧ Wi g W E h H ∧ Bk g h H Q2 Q1
def canT (g : G) (W : WX) (t2 : TT) : L2.TT := fun σ H Q1 => ∃ E σ2 h Q2, t2 E σ2 h Q2 ∧ RSt g H σ σ2 ∧ HR g h H ∧ Wi g W E h H ∧ ∀ b h' H', HR g h' H' → Fr h H h' H' → Q2 b h' → Q1 b H'
/-- no wish -/
def noW : WX := fun _ _ _ _ => False
theorem wi_no {h : Hp} {H : LHp} : Wi g noW noX h H := fun _ _ _ _ _ _ _ _ _ _ _ e => e.elim
end
theorem DE.can {X : Cx} {cn : Cn} {W : WX} {e : Expr} {t2 : TE} (h : DE X cn W e t2) : PE X e (canE (gOf X cn) W t2) := by
  obtain ⟨t1, p1, s1⟩ := h
  refine ⟨fun pins s σ H Q I q => ?_⟩
  obtain ⟨E, σ2, h, Q2, q, rs, hh, w, k⟩ := q
  exact p1.run pins s σ H Q I (s1 E σ2 h Q2 q σ H rs hh w Q k)
structure DTs (X : Cx) (cn : Cn) (W : WX) (ifs : List Expr) (t2 : TT) : Prop where
  ex : ∃ t1, PTs X ifs t1 ∧ SimT (gOf X cn) W t1 t2
theorem dts_nil {X : Cx} {cn : Cn} {W : WX} : DTs X cn W [] F.tYes := ⟨_, pts_nil, fun E σ2 h Q2 q σ H rs hh w Q1 k => k _ h H hh (Fr.refl h H) q⟩
theorem dts_one {X : Cx} {cn : Cn} {W : WX} {c : Expr} {t : TT} (h : DT X cn W c t) : DTs X cn W [c] t := by
  obtain ⟨t1, p, s⟩ := h
  exact ⟨_, pts_one p, s⟩
theorem DTs.can {X : Cx} {cn : Cn} {W : WX} {ifs : List Expr} {t2 : TT} (h : DTs X cn W ifs t2) : PTs X ifs (canT (gOf X cn) W t2) := by
  obtain ⟨t1, p1, s1⟩ := h
  refine ⟨fun pins s σ H Q I q => ?_⟩
  obtain ⟨E, σ2, h, Q2, q, rs, hh, w, k⟩ := q
  exact p1.run pins s σ H Q I (s1 E σ2 h Q2 q σ H rs hh w Q k)
/-- a comprehension's target: names of its own -/
def CG (g : G) (vs : List Nat) (g1 : L2.TG) (g2 : TG) : Prop := ∀ E d σ2 h Q2, g2 E d (swipe σ2 vs) h Q2 → ∀ v σ H, Rep g H v d → RSt g H σ σ2 → HR g h H →
  ∀ Q1 : LSt → LHp → Prop, (∀ σ' σ2' h' H', RSt g H' σ' σ2' → HR g h' H' → Fr h H h' H' → L2.wipe σ' vs = L2.wipe σ vs → Q2 σ2' h' → Q1 σ' H') → g1 v (L2.wipe σ vs) H Q1
theorem wipe_set (x : Option V) : ∀ (vs : List Nat) (σ : LSt) (j : Nat), j ∈ vs → L2.wipe (σ.set j x) vs = L2.wipe σ vs
  | v :: vs, σ, j, h => by
    show (L2.wipe (σ.set j x) vs).set v none = (L2.wipe σ vs).set v none
    by_cases e : j ∈ vs
    · rw [wipe_set x vs σ j e]
    · have hv : j = v := by
        rcases List.mem_cons.mp h with h | h
        · exact h
        · exact absurd h e
      subst hv
      have key : ∀ (ws : List Nat) (τ : LSt), j ∉ ws → L2.wipe (τ.set j x) ws = (L2.wipe τ ws).set j x := by
        intro ws
        induction ws with
        | nil => intro τ _; rfl
        | cons w ws ih =>
          intro τ hw
          have h1 : j ≠ w := fun q => hw (by simp [q])
          have h2 : j ∉ ws := fun q => hw (by simp [q])
          show (L2.wipe (τ.set j x) ws).set w none = ((L2.wipe τ ws).set w none).set j x
          rw [ih τ h2, List.set_comm _ _ h1]
      rw [key vs σ e, List.set_set]
theorem wipe_wipe (vs : List Nat) (σ : LSt) : L2.wipe (L2.wipe σ vs) vs = L2.wipe σ vs := by
  have key : ∀ (ws : List Nat), (∀ j ∈ ws, j ∈ vs) → L2.wipe (L2.wipe σ ws) vs = L2.wipe σ vs := by
    intro ws
    induction ws with
    | nil => intro _; rfl
    | cons w ws ih =>
      intro h
      show L2.wipe ((L2.wipe σ ws).set w none) vs = _
      rw [wipe_set none vs _ w (h w (by simp)), ih fun j hj => h j (by simp [hj])]
  exact key vs fun _ h => h
theorem cg_name {g : G} {vs : List Nat} {j : Nat} (hj : j ∈ vs) : CG g vs (L2.gName j) (F.gName j) := by
  intro E d σ2 h Q2 q v σ H rv rs hh Q1 k
  exact k _ _ h H ((rs.wipe vs).set j rv) hh (Fr.refl _ _) (by rw [wipe_set _ vs _ j hj, wipe_wipe]) q
theorem cg_two {g : G} {vs : List Nat} {i j : Nat} (hi : i ∈ vs) (hj : j ∈ vs) : CG g vs (L2.gTup g.K 2 (L2.gCons (L2.gName i) (L2.gCons (L2.gName j) L2.gNil))) (F.gTup 2 (F.gCons (F.gName i) (F.gCons (F.gName j) F.gNil))) := by
  intro E d σ2 h Q2 q v σ H rv rs hh Q1 k
  unfold F.gTup at q
  split at q
  · rename_i xs
    obtain ⟨hl, q⟩ := q
    obtain ⟨a, ws, rfl, ha, r⟩ := rv.tup_inv
    match xs, hl, r, q with
    | [d1, d2], _, r, q =>
      obtain ⟨v1, v2, rfl, r1, r2⟩ := r.two_inv
      refine ⟨a, [v1, v2], rfl, SqT.of ha, rfl, v1, [v2], rfl, v2, [], rfl, rfl, ?_⟩
      exact k _ _ h H (((rs.wipe vs).set i r1).set j r2) hh (Fr.refl _ _) (by rw [wipe_set _ vs _ j hj, wipe_set _ vs _ i hi, wipe_wipe]) q
  · exact q.elim
theorem hr_add {g : G} {h : Hp} {H : LHp} {p : Addr} {o : O} (r : HR g h H) (ro : RepO g H p o) : HR g (upd h p o) H := fun a o' e => by
  by_cases q : a = p
  · subst q
    rw [upd_same] at e
    cases Option.some.inj e
    exact ro
  · rw [upd_ne q] at e
    exact r a o' e
theorem simE_lc {g : G} {W : WX} {wi : L2.TI} {it : F.TI} {g1 : L2.TG} {g2 : TG} {tt : TT} {te : TE} {vs : List Nat} (s1 : SimI g W wi it) (sg : CG g vs g1 g2) : SimE g W (tLc wi g1 (canT g noW tt) (canE g noW te) vs) (F.eLc it g2 tt te vs) := by
  intro E σ2 h Q2 q σ H rs hh w Q1 k
  refine s1 _ σ2 h _ q σ H rs hh w _ fun J xs ok h1 H1 hh1 f1 wk q1 => ?_
  obtain ⟨W2, w0, hlen, wt, wd⟩ := q1
  intro Dl nD
  have nD2 : h1 Dl = none := hh1.none nD
  refine ⟨fun i m H' => m = xs.length - i ∧ i ≤ xs.length ∧ ∃ acc av h', H' Dl = some (.lst av) ∧ h' Dl = none ∧ Reps g H' av acc ∧ acc.length ≤ i ∧ HR g h' H' ∧ Fr h1 H1 (upd h' Dl (.lst acc)) H' ∧ W2 i acc h',
    ⟨_, rfl, Nat.zero_le _, [], [], h1, L2.upd_same, nD2, .nil, Nat.le_refl _, hr_tup hh1 nD, fr_new nD, w0⟩, fun i m H' ⟨hm, hi, acc, av, h', hD, hD2, ra, la, hh', ff, w2⟩ => ?_⟩
  have lt := ff.later hh1
  have hsub : Fr h' H' h' H' := Fr.refl _ _
  by_cases e : i = xs.length
  · subst e
    obtain ⟨ho, hn⟩ := wd _ _ w2
    exact .inl ⟨wk.stop h' H' hh' lt ho, k _ _ (upd h' Dl (.lst acc)) H' (.ref Dl) (hr_add hh' ⟨av, hD, ra⟩) (f1.trans ff) (hn Dl hD2)⟩
  · have hlt : i < xs.length := by omega
    have hx := List.getElem?_eq_getElem hlt
    obtain ⟨ho, hb⟩ := wt i _ _ _ hx w2
    refine .inr ⟨wk.go i h' H' hlt hh' lt ho, fun H3 => (xs.length - (i + 1) = xs.length - (i + 1) ∧ i + 1 ≤ xs.length ∧ ∃ acc av h', H3 Dl = some (.lst av) ∧ h' Dl = none ∧ Reps g H3 av acc ∧ acc.length ≤ i + 1 ∧ HR g h' H3 ∧ Fr h1 H1 (upd h' Dl (.lst acc)) H3 ∧ W2 (i + 1) acc h'), fun H3 z => ⟨xs.length - (i + 1), by omega, z⟩, fun x H3 y => ?_⟩
    obtain ⟨d, hd, rd, hh3, f3⟩ := wk.yld i h' H' x H3 hlt hh' lt ho y
    rw [hx] at hd
    cases hd
    have rs3 : RSt g H3 σ σ2 := rs.mono (((f1.tle hh).trans (ff.tle hh1)).trans (f3.tle hh'))
    refine sg _ _ _ _ _ hb x σ H3 rd rs3 hh3 _ fun σ4 σ24 h4 H4 rs4 hh4 f4 hw q4 => ⟨hw, ?_⟩
    refine ⟨noX, σ24, h4, _, q4, rs4, hh4, wi_no, fun b h5 H5 hh5 f5 q5 => ?_⟩
    have fa := (f3.trans f4).trans f5
    -- what stands at Dl
    have stay : ∀ h6 H6, Fr h' H' h6 H6 → H6 Dl = some (.lst av) ∧ h6 Dl = none := fun h6 H6 f6 => f6.1 Dl _ hD hD2
    have fr6 : ∀ h6 H6 acc' av', Fr h' H' h6 H6 → Fr h1 H1 (upd h6 Dl (.lst acc')) (L2.upd H6 Dl (.lst av')) := fun h6 H6 acc' av' f6 => by
      refine ⟨fun a u e1 e2 => ?_, fun a ob u e1 => ?_⟩
      · have na : a ≠ Dl := by intro q; subst q; rw [nD] at e1; cases e1
        obtain ⟨x1, x2⟩ := ff.1 a u e1 e2
        rw [upd_ne na] at x2
        rw [upd_ne na, L2.upd_ne na]
        exact f6.1 a u x1 x2
      · have na : a ≠ Dl := by intro q; subst q; rw [nD] at e1; cases e1
        rw [L2.upd_ne na]
        exact f6.2 a ob u (ff.2 a ob u e1)
    cases b with
    | false =>
      rw [if_neg (by decide)] at q5
      refine iteF ?_
      obtain ⟨z1, z2⟩ := stay h5 H5 fa
      have z := fr6 h5 H5 acc av fa
      have e5 : L2.upd H5 Dl (.lst av) = H5 := by
        funext a
        by_cases q : a = Dl
        · subst q; rw [L2.upd_same, z1]
        · rw [L2.upd_ne q]
      rw [e5] at z
      exact ⟨rfl, hlt, acc, av, h5, z1, z2, ra.mono (fa.tle hh'), by omega, hh5, z, q5⟩
    | true =>
      rw [if_pos rfl] at q5
      refine iteT ?_
      refine ⟨noX, σ24, h5, _, q5, rs4.mono (f5.tle hh4), hh5, wi_no, fun v6 d6 h6 H6 rv6 hh6 f6 q6 => ?_⟩
      have fb := fa.trans f6
      obtain ⟨z1, z2⟩ := stay h6 H6 fb
      have tl : TLe g H6 (L2.upd H6 Dl (.lst (av ++ [v6]))) := tle_write z1 (fun _ q => nomatch q) (fun _ _ q => nomatch q) (fun _ _ q => nomatch q)
      have ral := ra.length
      have hln := line_le
      refine ⟨av, z1, by omega, rfl, hlt, acc ++ [d6], av ++ [v6], h6, L2.upd_same, z2, ((ra.mono (fb.tle hh')).append (.one rv6)).mono tl, by simp; omega, ?_, fr6 h6 H6 _ _ fb, q6⟩
      intro a o ea
      have na : a ≠ Dl := by intro q; subst q; rw [z2] at ea; cases ea
      exact (hh6 a o ea).mono tl (L2.upd_ne na)
section
variable {X : Cx} {cn : Cn} {W : WX} {elt tg iter : Expr} {ifs : List Expr} {scope : Scope} {own : List (Str × Nat)} {pos : Pos} {it : F.TI} {g2 : TG} {tt : TT} {te : TE}
theorem de_lc {g1 : L2.TG} (hc : X.calm = true) (hN : X.N.Nodup) (hi : DI X cn W tg iter it) (ok : BlkOk X.N X.env.scope scope own) (sg : CG (gOf X cn) (own.map (·.2)) g1 g2)
    (hg : ∀ (s : Shared) (H : LHp) (C : Addr) (cl : List (Str × Addr)) (fp : List Addr), PG (X.blk s H scope (compEnvC scope cl C X.env) fp) tg g1) (ht : ∀ (s : Shared) (H : LHp) (C : Addr) (cl : List (Str × Addr)) (fp : List Addr), DTs (X.blk s H scope (compEnvC scope cl C X.env) fp) cn noW ifs tt)
    (he : ∀ (s : Shared) (H : LHp) (C : Addr) (cl : List (Str × Addr)) (fp : List Addr), DE (X.blk s H scope (compEnvC scope cl C X.env) fp) cn noW elt te) (hs : ∀ x, foldedSetIterable iter X.env x = pure x := by intro _; rfl) :
    DE X cn W (.ListComp elt [⟨tg, iter, ifs, 0⟩] scope pos) (F.eLc it g2 tt te (own.map (·.2))) := by
  obtain ⟨wi, p1, s1⟩ := hi
  exact ⟨_, pe_lc hc hN p1 ok hg (fun s H C cl fp => (ht s H C cl fp).can) (fun s H C cl fp => (he s H C cl fp).can) hs, simE_lc s1 sg⟩
theorem ds_setLc {i : Nat} {y : Str} {py spos : Pos} {g1 : L2.TG} (hc : X.calm = true) (hN : X.N.Nodup) (hy : X.N[i]? = some y) (hyl : X.env.scope.names.lookup y = some .local)
    (hsw : swapsWith (.ListComp elt [⟨tg, iter, ifs, 0⟩] scope pos) (some (.Name y py)) spos.line X.env = pure true) (hi : DI X cn W tg iter it) (ok : BlkOk X.N X.env.scope scope own) (sg : CG (gOf X cn) (own.map (·.2)) g1 g2)
    (hg : ∀ (s : Shared) (H : LHp) (C : Addr) (cl : List (Str × Addr)) (fp : List Addr), PG (X.blk s H scope (compEnvC scope cl C X.env) fp) tg g1) (ht : ∀ (s : Shared) (H : LHp) (C : Addr) (cl : List (Str × Addr)) (fp : List Addr), DTs (X.blk s H scope (compEnvC scope cl C X.env) fp) cn noW ifs tt)
    (he : ∀ (s : Shared) (H : LHp) (C : Addr) (cl : List (Str × Addr)) (fp : List Addr), DE (X.blk s H scope (compEnvC scope cl C X.env) fp) cn noW elt te) (hs : ∀ x, foldedSetIterable iter X.env x = pure x := by intro _; rfl) :
    DS X cn W (.Assign [.Name y py] (.ListComp elt [⟨tg, iter, ifs, 0⟩] scope pos) spos) (F.sAsg (F.eLc it g2 tt te (own.map (·.2))) (F.gName i)) := by
  obtain ⟨wi, p1, s1⟩ := hi
  exact ⟨_, ps_setLc hc hN hy hyl hsw p1 ok hg (fun s H C cl fp => (ht s H C cl fp).can) (fun s H C cl fp => (he s H C cl fp).can) hs, SimS.asg (simE_lc s1 sg) (simG_name i)⟩
end
end F

set_option Elab.async false
set_option linter.all false
set_option maxRecDepth 100000
set_option maxHeartbeats 4000000
/-! the bridge: calls, defs, locks, the end -/
namespace F
open PySem PySem.Spec PyProof.Rows L2

/-- a promise by data, in the layer's words -/
def liftSp (g : G) (sp : Sp) : L2.Sp := fun vs H Q E => ∃ ds h Q2 E2, Reps g H vs ds ∧ HR g h H ∧ sp ds h Q2 E2 ∧ (∀ v d h' H', Rep g H' v d → HR g h' H' → Fr h H h' H' → Q2 d h' → Q v H') ∧
  ∀ cls dd x h' H', RX g H' cls dd x → HR g h' H' → Fr h H h' H' → E2 x h' → E cls dd H'
/-- a def of the text that keeps its promise, and how it is called -/
structure CallOk (P : Program) (w : World) (K : PySem.W.Frag) (mg : Str → Option Value) (base : Heap) (cn : Cn) (x : Str) (k : Nat) (ps : List Str) (sp : Sp) : Prop where
  ex : ∃ f fd, FnOk P w K mg base (L2.CX P w) k f fd ps (liftSp ⟨K, w, cn⟩ sp) ∧ mg x = some (.ref f) ∧ PySem.W.keepIn K (.ref f) = true ∧ Binds K fd ps []
section
variable {X : Cx} {cn : Cn} {W : WX} {e : Expr} {es : List Expr} {tr : F.TA} {pos p : Pos}
theorem simE_call {g : G} {t1 : L2.TA} {sp : Sp} (s1 : SimA g W t1 tr) : SimE g W (tCallSD (liftSp g sp) [] (WE W) t1) (F.eCall sp tr) := by
  intro E σ2 h Q2 q σ H rs hh w Q1 k
  refine s1 _ σ2 h _ q σ H rs hh w _ fun vs ds h1 H1 rv hh1 f1 q1 => ?_
  rw [List.append_nil]
  refine ⟨ds, h1, _, _, rv, hh1, q1, fun v d h' H' rv hh' ff q => k v d h' H' rv hh' (f1.trans ff) q, fun cls dd x h' H' rx hh' ff q => ?_⟩
  exact w cls dd σ H' σ2 h' x (rs.mono ((f1.trans ff).tle hh)) hh' (f1.trans ff) rx q
theorem de_call {x : Str} {k j : Nat} {ps : List Str} {sp : Sp} (C : CallOk X.prog X.w X.K X.mg X.base cn x k ps sp) (hr : Room j X.A) (hk : k ≤ j) (hg : Gl X x) (tk : Takes X W) (ha : DA X cn W (e :: es) tr)
    (hdb : (x == ("__debug__" : Str)) = false := by decide) (he : starEach (e :: es) X.env = (false, eval e X.env) :: starEach es X.env := by rfl) (hpl : (backTo pos (starEach es X.env)).any (·.1) = false := by rfl) :
    DE X cn W (.Call (.Name x p) (e :: es) [] pos) (F.eCall sp tr) := by
  obtain ⟨f, fd, F, hm, hkp, hb⟩ := C.ex
  obtain ⟨t1, p1, s1⟩ := ha
  exact ⟨_, pe_callSD F (hr.mono hk) hg hm hkp hb .nil (fun σ => passAt tk σ) p1 hdb he hpl, simE_call s1⟩
/-! locks -/
variable {st : Stmt} {t : TS} {te : TE}
theorem ds_lock {i : Nat} (hs : DS X cn W st t) : DS X cn W st (F.sLock i t) := by
  obtain ⟨t1, p1, s1⟩ := hs
  refine ⟨_, ps_lock p1, fun D2 σ2 h q σ H rs hh w D1 k => ?_⟩
  unfold F.sLock at q
  have key : ∀ (d : Addr) (o o' : O) (u : HO), h d = some o → o.wr = true → H d = some u → Mut (some u) → (∀ ob u', u ≠ .frz ob u') → (∀ xs, u ≠ .lst xs) → (∀ ob, RepO (gOf X cn) (L2.upd H d (.frz ob u)) d o') → (∀ H' : LHp, TLe (gOf X cn) H H' → H' d = some u → RepO (gOf X cn) H' d o) →
      t ⟨fun σ' h' => h' d = some o' ∧ D2.nx σ' (upd h' d o), fun v h' => h' d = some o' ∧ D2.rt v (upd h' d o), fun σ' h' => h' d = some o' ∧ D2.bk σ' (upd h' d o), fun σ' h' => h' d = some o' ∧ D2.ct σ' (upd h' d o), fun _ _ _ => False⟩ σ2 (upd h d o') →
      tLock t1 D1 σ H := by
    intro d o o' u e0 ew hd mu nf nl r1 r2 q
    refine ⟨d, u, hd, mu, fun od => ?_⟩
    have t0 : TLe (gOf X cn) H (L2.upd H d (.frz od u)) := hh.tw e0
    have hh1 : HR (gOf X cn) (upd h d o') (L2.upd H d (.frz od u)) := hr_write hh e0 (r1 od)
    have out : ∀ h' H', HR (gOf X cn) h' H' → Fr (upd h d o') (L2.upd H d (.frz od u)) h' H' → H' d = some (.frz od u) ∧ HR (gOf X cn) (upd h' d o) (L2.upd H' d u) ∧ Fr h H (upd h' d o) (L2.upd H' d u) ∧ TLe (gOf X cn) H' (L2.upd H' d u) := by
      intro h' H' hh' ff
      have z : H' d = some (.frz od u) := ff.2 _ _ _ L2.upd_same
      have tl : TLe (gOf X cn) H' (L2.upd H' d u) := by
        refine tle_write z (fun _ q => nomatch q) (fun ob xs q => ?_) (fun ob xs q => ?_)
        · injection q with _ q
          rw [q] at mu; exact mu
        · injection q with _ q
          exact nl _ q
      refine ⟨z, ?_, ?_, tl⟩
      · intro a oa ea
        by_cases qa : a = d
        · subst qa
          rw [upd_same] at ea
          cases Option.some.inj ea
          exact r2 _ ((t0.trans (ff.tle hh1)).trans tl) L2.upd_same
        · rw [upd_ne qa] at ea
          exact (hh' a oa ea).mono tl (L2.upd_ne qa)
      · refine ⟨fun a oa e1 e2 => ?_, fun a ob ua e1 => ?_⟩
        · have na : a ≠ d := by intro q; subst q; rw [e0] at e2; cases e2
          rw [upd_ne na, L2.upd_ne na]
          exact ff.1 a oa (by rw [L2.upd_ne na]; exact e1) (by rw [upd_ne na]; exact e2)
        · have na : a ≠ d := by
            intro q; subst q
            rw [hd] at e1
            exact nf _ _ (Option.some.inj e1)
          rw [L2.upd_ne na]
          exact ff.2 a ob ua (by rw [L2.upd_ne na]; exact e1)
    refine s1 _ _ _ q σ _ (rs.mono t0) hh1 (fun _ _ _ _ _ _ _ _ _ _ _ e => e.elim) _ ⟨?_, ?_, ?_, ?_⟩
    · intro σ' σ2' h' H' rs' hh' ff q'
      obtain ⟨z1, z2, z3, z4⟩ := out h' H' hh' ff
      exact ⟨z1, k.nx _ _ _ _ (rs'.mono z4) z2 z3 q'.2⟩
    · intro v dv h' H' rv hh' ff q'
      obtain ⟨z1, z2, z3, z4⟩ := out h' H' hh' ff
      exact ⟨z1, k.rt _ _ _ _ (rv.mono z4) z2 z3 q'.2⟩
    · intro σ' σ2' h' H' rs' hh' ff q'
      obtain ⟨z1, z2, z3, z4⟩ := out h' H' hh' ff
      exact ⟨z1, k.bk _ _ _ _ (rs'.mono z4) z2 z3 q'.2⟩
    · intro σ' σ2' h' H' rs' hh' ff q'
      obtain ⟨z1, z2, z3, z4⟩ := out h' H' hh' ff
      exact ⟨z1, k.ct _ _ _ _ (rs'.mono z4) z2 z3 q'.2⟩
  split at q
  · rename_i d ed
    split at q
    · rename_i kvs e0
      obtain ⟨vs, hd, r⟩ := hh _ _ e0
      exact key d (.dK kvs) (.fK kvs) (.dK vs) e0 rfl hd trivial (fun _ _ q => nomatch q) (fun _ q => nomatch q) (fun ob => ⟨ob, vs, L2.upd_same, r.mono (hh.tw e0)⟩) (fun H' tl h2 => ⟨vs, h2, r.mono tl⟩) q
    · rename_i kvs e0
      obtain ⟨vs, hd, r⟩ := hh _ _ e0
      exact key d (.dT kvs) (.fT kvs) (.dT vs) e0 rfl hd trivial (fun _ _ q => nomatch q) (fun _ q => nomatch q) (fun ob => ⟨ob, vs, L2.upd_same, r.mono (hh.tw e0)⟩) (fun H' tl h2 => ⟨vs, h2, r.mono tl⟩) q
    · exact q.elim
  · exact q.elim
theorem de_lock {i : Nat} (hs : DE X cn W e te) : DE X cn W e (F.eLock i te) := by
  obtain ⟨t1, p1, s1⟩ := hs
  refine ⟨_, pe_lock p1, fun E σ2 h Q2 q σ H rs hh w Q1 k => ?_⟩
  unfold F.eLock at q
  have key : ∀ (d : Addr) (o o' : O) (u : HO), h d = some o → o.wr = true → H d = some u → Mut (some u) → (∀ ob u', u ≠ .frz ob u') → (∀ xs, u ≠ .lst xs) → (∀ ob, RepO (gOf X cn) (L2.upd H d (.frz ob u)) d o') → (∀ H' : LHp, TLe (gOf X cn) H H' → H' d = some u → RepO (gOf X cn) H' d o) →
      te (fun _ _ _ => False) σ2 (upd h d o') (fun v h' => h' d = some o' ∧ Q2 v (upd h' d o)) → tLockE t1 σ H Q1 := by
    intro d o o' u e0 ew hd mu nf nl r1 r2 q
    refine ⟨d, u, hd, mu, fun od => ?_⟩
    have t0 : TLe (gOf X cn) H (L2.upd H d (.frz od u)) := hh.tw e0
    have hh1 : HR (gOf X cn) (upd h d o') (L2.upd H d (.frz od u)) := hr_write hh e0 (r1 od)
    refine s1 _ _ _ _ q σ _ (rs.mono t0) hh1 (fun _ _ _ _ _ _ _ _ _ _ _ e => e.elim) _ fun v dv h' H' rv hh' ff q' => ?_
    have z : H' d = some (.frz od u) := ff.2 _ _ _ L2.upd_same
    have tl : TLe (gOf X cn) H' (L2.upd H' d u) := by
      refine tle_write z (fun _ q => nomatch q) (fun ob xs q => ?_) (fun ob xs q => ?_)
      · injection q with _ q
        rw [q] at mu; exact mu
      · injection q with _ q
        exact nl _ q
    refine ⟨z, k _ _ (upd h' d o) _ (rv.mono tl) ?_ ?_ q'.2⟩
    · intro a oa ea
      by_cases qa : a = d
      · subst qa
        rw [upd_same] at ea
        cases Option.some.inj ea
        exact r2 _ ((t0.trans (ff.tle hh1)).trans tl) L2.upd_same
      · rw [upd_ne qa] at ea
        exact (hh' a oa ea).mono tl (L2.upd_ne qa)
    · refine ⟨fun a oa e1 e2 => ?_, fun a ob ua e1 => ?_⟩
      · have na : a ≠ d := by intro q; subst q; rw [e0] at e2; cases e2
        rw [upd_ne na, L2.upd_ne na]
        exact ff.1 a oa (by rw [L2.upd_ne na]; exact e1) (by rw [upd_ne na]; exact e2)
      · have na : a ≠ d := by
          intro q; subst q
          rw [hd] at e1
          exact nf _ _ (Option.some.inj e1)
        rw [L2.upd_ne na]
        exact ff.2 a ob ua (by rw [L2.upd_ne na]; exact e1)
  split at q
  · rename_i d ed
    split at q
    · rename_i kvs e0
      obtain ⟨vs, hd, r⟩ := hh _ _ e0
      exact key d (.dK kvs) (.fK kvs) (.dK vs) e0 rfl hd trivial (fun _ _ q => nomatch q) (fun _ q => nomatch q) (fun ob => ⟨ob, vs, L2.upd_same, r.mono (hh.tw e0)⟩) (fun H' tl h2 => ⟨vs, h2, r.mono tl⟩) q
    · rename_i kvs e0
      obtain ⟨vs, hd, r⟩ := hh _ _ e0
      exact key d (.dT kvs) (.fT kvs) (.dT vs) e0 rfl hd trivial (fun _ _ q => nomatch q) (fun _ q => nomatch q) (fun ob => ⟨ob, vs, L2.upd_same, r.mono (hh.tw e0)⟩) (fun H' tl h2 => ⟨vs, h2, r.mono tl⟩) q
    · exact q.elim
  · exact q.elim
/-! {} -/
theorem de_dK (hc : True := by trivial) : DE X cn W (.Dict [] [] pos) F.eDK := by
  refine ⟨_, pe_dnewK, fun E σ2 h Q2 q σ H rs hh w Q1 k => ?_⟩
  intro p np
  exact k _ _ (upd h p (.dK [])) _ (.ref p) (hr_new hh np ⟨[], L2.upd_same, .nil⟩) (fr_new np) (q p (hh.none np))
theorem de_dT (hc : True := by trivial) : DE X cn W (.Dict [] [] pos) F.eDT := by
  refine ⟨_, pe_dnewT, fun E σ2 h Q2 q σ H rs hh w Q1 k => ?_⟩
  intro p np
  exact k _ _ (upd h p (.dT [])) _ (.ref p) (hr_new hh np ⟨[], L2.upd_same, .nil⟩) (fr_new np) (q p (hh.none np))
/-! names stored: x op= e -/
theorem ds_aug {i : Nat} {x : Str} {op : Operator} {pos' : Pos} {r2 : R2} (hN : X.N.Nodup) (hi : X.N[i]? = some x) (hx : Loc X.env.scope x) (he : DE X cn W e te) (ho : ∃ r1, PIp X op r1 ∧ OpS (gOf X cn) r1 r2) (hf : X.fn x = true ∨ X.env.scope.names.lookup x = some .local := by first | exact .inl rfl | exact .inr rfl | assumption) :
    DS X cn W (.AugAssign (.Name x pos') op e pos) (F.sAug i r2 te) := by
  obtain ⟨t1, p1, s1⟩ := he
  obtain ⟨r1, h1, h2⟩ := ho
  refine ⟨_, ps_aug hN hi hx p1 h1 hf, fun D2 σ2 h q σ H rs hh w D1 k => ?_⟩
  unfold F.sAug at q
  split at q
  · rename_i d ed
    obtain ⟨v, ev, rv⟩ := rs.2 i d ed
    refine ⟨v, ev, ?_⟩
    refine s1 _ σ2 h _ q σ H rs hh w _ fun v2 d2 h3 H3 rv2 hh3 f3 q3 => ?_
    exact h2 _ _ _ _ q3 _ _ _ (rv.mono (f3.tle hh)) rv2 hh3 _ fun z y h4 H4 rz hh4 f4 q4 => k.nx _ _ h4 H4 ((rs.mono ((f3.trans f4).tle hh)).set i rz) hh4 (f3.trans f4) q4
  · exact q.elim
end
/-! a def -/
theorem sg_get : ∀ (σ : St) (i : Nat) (d : D), sg σ i = some d → σ[i]? = some (some d)
  | [], _, _, e => by cases e
  | x :: r, 0, d, e => by simp [sg] at e; subst e; rfl
  | x :: r, n + 1, d, e => by simpa using sg_get r n d e
theorem rst_start {g : G} {H : LHp} {N : List Str} {vs : List V} {ds : List D} (r : Reps g H vs ds) : RSt g H (L2.start N vs) (start2 N.length ds) := by
  refine ⟨by simp [L2.start, start2, r.length], fun i d e => ?_⟩
  have e1 := sg_get _ _ _ e
  unfold start2 at e1
  by_cases hi : i < ds.length
  · rw [List.getElem?_append_left (by simpa using hi)] at e1
    rw [List.getElem?_map] at e1
    have e2 := List.getElem?_eq_getElem hi
    rw [e2] at e1
    cases e1
    obtain ⟨v, h1, h2⟩ := r.get e2
    refine ⟨v, ?_, h2⟩
    unfold L2.start
    rw [List.getElem?_append_left (by simpa [r.length] using hi), List.getElem?_map, h1]
    rfl
  · rw [List.getElem?_append_right (by simpa using hi)] at e1
    have := List.mem_of_getElem? e1
    simp at this
theorem hu1 {k : Nat} {A : Around} (hr : Room k A) : A.units + 1 < cLine := by have := hr.un; omega
theorem hu64 {k : Nat} {A : Around} (hr : Room k A) : A.units + 64 < cLine := by have := hr.un; omega
theorem hu70 {k : Nat} {A : Around} (hr : Room k A) : A.units + 70 < cLine := by have := hr.un; omega
section
variable {P : Program} {w : World} {K : PySem.W.Frag} {mg : Str → Option Value} {base : Heap} {cn : Cn}
theorem HR.sub {g : G} {h h0 : Hp} {H : LHp} (r : HR g h H) (s : Sub h0 h) : HR g h0 H := fun a o e => r a o (s a o e)
theorem Fr.sub {h h' h0 : Hp} {H H' : LHp} (f : Fr h H h' H') (s : Sub h0 h') : Fr h H h0 H' := by
  refine ⟨fun a o e n => ?_, f.2⟩
  obtain ⟨x, y⟩ := f.1 a o e n
  refine ⟨x, ?_⟩
  cases z : h0 a with
  | none => rfl
  | some u =>
    have := s a u z
    rw [y] at this; cases this
/-- THE RULE: a def by its body -/
theorem fn_ok {x qual : Str} {st : Stmt} {f : Addr} {fd : FuncData} {N ps : List Str} {k : Nat} {sp : Sp} {t2 : TS} (F : Fun K x qual st f fd) (S : FnScope N ps (defScope st)) (ar : ∀ ds h Q E, sp ds h Q E → ds.length = ps.length)
    (hder : ∀ (cdv : Value) (A : Around) (outer : List Env) (s : Shared) (H : LHp) (E : XK), Room k (A.deeper (envOfC qual (defScope st) s.heap.objs.size f cdv)) →
      DSs (cxOf (L2.CX P w) P w K mg base N qual (defScope st) f cdv A outer s H E) cn (fun cls d _ H => E cls d H) (defBody st) t2)
    (hread : ∀ ds h Q E, sp ds h Q E → t2 (outE Q E) (start2 N.length ds) h) : FnOk P w K mg base (L2.CX P w) (k + 1) f fd ps (liftSp ⟨K, w, cn⟩ sp) := by
  refine F.okX S (fun vs H Q E h => ?_) fun cdv A outer s H vs Q E hr h => ?_
  · obtain ⟨ds, h', Q2, E2, r, hh, q, _, _⟩ := h
    rw [r.length]; exact ar _ _ _ _ q
  · obtain ⟨ds, h', Q2, E2, r, hh, q, k1, k2⟩ := h
    obtain ⟨t1, p1, s1⟩ := hder cdv A outer s H E hr
    refine ⟨t1, p1, ?_⟩
    refine s1 _ _ _ (hread _ _ _ _ q) _ _ (rst_start r) hh (fun cls d σ H' σ2 h' x _ hh' ff rx ⟨h0, hs, e⟩ => k2 cls d x h0 H' rx (hh'.sub hs) (ff.sub hs) e) _ ⟨?_, ?_, ?_, ?_⟩
    · exact fun σ' σ2' h' H' rs' hh' ff ⟨h0, hs, q'⟩ => k1 _ _ h0 H' .non (hh'.sub hs) (ff.sub hs) q'
    · exact fun v d h' H' rv hh' ff ⟨h0, hs, q'⟩ => k1 _ _ h0 H' rv (hh'.sub hs) (ff.sub hs) q'
    · exact fun σ' σ2' h' H' rs' hh' ff q' => q'.elim
    · exact fun σ' σ2' h' H' rs' hh' ff q' => q'.elim
end
/-- the law's promise -/
def spLaw : Sp := fun ds h Q _ => ∃ ns : List Int, ds = [.ro (ns.map .int)] ∧ ns.length ≤ 63 ∧ h = (fun _ => none) ∧ Q (.bl true) h
def spOut (K : PySem.W.Frag) : L2.Sp := fun vs H Q _ => ∃ (a : Addr) (ns : List Int), vs = [.ref a] ∧ RoL K H a (ns.map V.int) ∧ ns.length ≤ 63 ∧ ∀ H', Q (.bl true) H'
theorem out_law {g : G} {vs : List V} {H : LHp} {Q : VK} {E : XK} (h : spOut g.K vs H Q E) : liftSp g spLaw vs H Q E := by
  obtain ⟨a, ns, rfl, r, hl, q⟩ := h
  refine ⟨[.ro (ns.map .int)], fun _ => none, fun d _ => d = .bl true, fun _ _ => False, .cons (.ro r (Reps.of_ints ns)) .nil, fun _ _ e => (nomatch e), ⟨ns, rfl, hl, rfl, rfl⟩, fun v d h' H' rv _ _ e => ?_, fun _ _ _ _ _ _ _ _ e => e.elim⟩
  subst e
  cases rv
  exact q H'
theorem walk_end {l : PySem.W.OpenLaw} {q : Program} {loose : List Str} {XP : (Str → Option Value) → Heap → Prop} {YP : World → Heap → Prop} {d : DefRec} {K : Params → PySem.W.Frag} {k : Nat} {x : Str} (hn : l.most = some 63) (hdf : d.params.defaults = []) (hr : Room k callerA)
    (hY : ∀ (w : World) (h : Heap), YP w h → (K w.params).In h)
    (F : ∀ (w : World) (mg : Str → Option Value) (fa : Addr) (h : Heap), (K w.params).In h → h.Ns mainGlobals mg → mg d.name = some (.ref fa) →
      ∃ (fd : FuncData) (cn : Cn), (∀ (s : Shared) (u : Value), BindsTo s fd ⟨[u], []⟩ [(x, u)]) ∧ ∀ base : Heap, (K w.params).In base → base.Ns mainGlobals mg → FnOk l.prog w (K w.params) mg base (L2.CX l.prog w) k fa fd [x] (liftSp ⟨K w.params, w, cn⟩ spLaw)) :
    PySem.W.WalkO q loose XP YP l.row.toRowW d [] (fun f vs => PySem.call f vs) := by
  refine L2.walk_of (n := 63) (k := k) (x := x) (CX := fun w => L2.CX l.prog w) (sp := fun w => spOut (K w.params)) hn (by decide) hdf hr hY (fun w mg fa h KX G hmg => ?_) (fun w H a ns hl ho hS => ?_) fun w H s e s' z => ?_
  · obtain ⟨fd, cn, hb, hF⟩ := F w mg fa h KX G hmg
    exact ⟨fd, hb, fun base KB GB => (hF base KB GB).imp fun vs H Q E z => out_law (g := ⟨K w.params, w, cn⟩) z⟩
  · refine ⟨a, ns, rfl, ?_, hl, fun _ => rfl⟩
    rcases hS with hS | hS
    · rcases hS with hS | hS
      · rcases ho a with z | ⟨o, xs, z⟩
        · rw [z] at hS; cases hS
        · rw [z] at hS; cases hS
      · exact .inl hS
    · exact .inr hS
  · obtain ⟨_, _, _, _, _, _, _, _, _, _, _, _, z⟩ := z
    exact z
end F

set_option Elab.async false
set_option linter.all false
set_option maxRecDepth 100000
set_option maxHeartbeats 4000000
/-! the bridge: the rest -/
namespace F
open PySem PySem.Spec PyProof.Rows L2
section
variable {X : Cx} {cn : Cn} {W : WX} {a b c e : Expr} {ta tb tc te : TE} {pos pos' : Pos} {es : List Expr} {tr : F.TA}
theorem takes_no {X : Cx} : Takes X noW := fun u s' x => by
  obtain ⟨_, _, _, _, _, _, _, _, _, _, _, _, _, _, _, _, w⟩ := x
  exact w.elim
theorem po_no {X : Cx} (h : X.xe = fun _ _ => False) : PassesOwn (model X.prog X.w) X.A X.env X.xe := by rw [h]; exact PassesOwn.never
theorem dt_isN {j : Nat} (ha : DE X cn W a ta) : DT X cn W (.Compare a [.Is] [.Constant .none j pos'] pos) (tVal (eUn rIsN ta)) := by
  obtain ⟨t1, p1, s1⟩ := ha
  refine ⟨_, pt_cmpR op_isN p1 pe_non (nomark _), SimT.of fun E σ2 h Q2 q σ H rs hh w Q1 k => ?_⟩
  refine s1 E σ2 h _ q σ H rs hh w _ fun v d h1 H1 rv hh1 f1 q1 => ?_
  refine ⟨rfl, ?_⟩
  rw [rv.non_iff]
  exact k _ _ h1 H1 (.bl _) hh1 f1 q1
theorem dt_notN {j : Nat} (ha : DE X cn W a ta) : DT X cn W (.Compare a [.IsNot] [.Constant .none j pos'] pos) (tVal (eUn rIsNotN ta)) := by
  obtain ⟨t1, p1, s1⟩ := ha
  refine ⟨_, pt_cmpR op_notN p1 pe_non (nomark _), SimT.of fun E σ2 h Q2 q σ H rs hh w Q1 k => ?_⟩
  refine s1 E σ2 h _ q σ H rs hh w _ fun v d h1 H1 rv hh1 f1 q1 => ?_
  refine ⟨rfl, ?_⟩
  rw [rv.non_iff]
  exact k _ _ h1 H1 (.bl _) hh1 f1 q1
theorem simE_chain {g : G} {r r' : F.R2} {r1 r3 : L2.R2} {t1 u1 u3 : L2.TE} (h2 : OpS g r1 r) (h4 : OpS g r3 r') (s1 : SimE g W t1 ta) (s2 : SimE g W u1 tb) (s3 : SimE g W u3 tc) : SimE g W (tChain r1 r3 t1 u1 u3) (eChain r r' ta tb tc) := by
  intro E σ2 h Q2 q σ H rs hh w Q1 k
  refine s1 E σ2 h _ q σ H rs hh w _ fun v d h1 H1 rv hh1 f1 q1 => ?_
  refine s2 E σ2 h1 _ q1 σ H1 (rs.mono (f1.tle hh)) hh1 (w.step f1) _ fun v' d' hb Hb rv' hhb fb qb => ?_
  refine h2 _ _ _ _ qb _ _ _ (rv.mono (fb.tle hh1)) rv' hhb _ fun z y hc Hc rz hhc fc qc => ?_
  cases rz with
  | bl v =>
    refine ⟨v, rfl, ?_⟩
    cases v with
    | true =>
      rw [if_pos rfl]
      refine s3 E σ2 hc _ qc σ Hc (rs.mono ((((f1.trans fb).trans fc)).tle hh)) hhc (w.step ((f1.trans fb).trans fc)) _ fun v2 d2 hd Hd rv2 hhd fd qd => ?_
      exact h4 _ _ _ _ qd _ _ _ (rv'.mono ((fc.trans fd).tle hhb)) rv2 hhd _ fun z y he He rz hhe fe qe => k z y he He rz hhe (((f1.trans fb).trans fc).trans (fd.trans fe)) qe
    | false =>
      rw [if_neg (by decide)]
      exact k _ _ hc Hc (.bl _) hhc ((f1.trans fb).trans fc) qc
  | non => exact qc.elim
  | int i => exact qc.elim
  | str x => exact qc.elim
  | tup h r => exact qc.elim
  | ref a => exact qc.elim
  | ro h r => exact qc.elim
  | ct h r => exact qc.elim
  | wd h r => exact qc.elim
theorem dt_chain {op op' : CmpOp} {r r' : F.R2} (h : DB X cn (compareOp op) r) (h' : DB X cn (compareOp op') r') (ha : DE X cn W a ta) (hb : DE X cn W b tb) (hc : DE X cn W c tc)
    (hm : lastMarks [op, op'] [b, c] = false := by rfl) : DT X cn W (.Compare a [op, op'] [b, c] pos) (tVal (eChain r r' ta tb tc)) := by
  obtain ⟨r1, h1, h2⟩ := h
  obtain ⟨r3, h3, h4⟩ := h'
  obtain ⟨t1, p1, s1⟩ := ha
  obtain ⟨u1, p2, s2⟩ := hb
  obtain ⟨u3, p3, s3⟩ := hc
  exact ⟨_, pt_chain h1 h3 p1 p2 p3 hm, SimT.of (simE_chain h2 h4 s1 s2 s3)⟩
/-! constants of the module -/
def GC (X : Cx) (cn : Cn) (x : Str) (d : D) : Prop := ∃ u v, X.mg x = some u ∧ RelV v u ∧ ∀ H, Rep (gOf X cn) H v d
theorem de_gc {x : Str} {d : D} (h : GC X cn x d) (hg : Gl X x) (hd : (x == ("__debug__" : Str)) = false := by decide) : DE X cn W (.Name x pos) (eC d) := by
  obtain ⟨u, v, hm, r, rd⟩ := h
  exact de_glob hg hm r rd hd
/-! a, b, c = .. -/
theorem ds_par3 {i j l : Nat} {x y z : Str} {px py pz pt : Pos} {kt k2 : Nat} {pt2 : Pos} (hc : X.calm = true) (hN : X.N.Nodup) (hi : X.N[i]? = some x) (hj : X.N[j]? = some y) (hl : X.N[l]? = some z) (hij : i ≠ j) (hil : i ≠ l) (hjl : j ≠ l)
    (hx : X.env.scope.names.lookup x = some .local) (hy : X.env.scope.names.lookup y = some .local) (hz : X.env.scope.names.lookup z = some .local) (ha : DA X cn W [a, b, c] tr)
    (hw : swappedStores [.Tuple [.Name x px, .Name y py, .Name z pz] kt pt] (.Tuple [a, b, c] k2 pt2) X.env = pure (some [x, y, z]) := by rfl)
    (hs : swapsWithSole [.Tuple [.Name x px, .Name y py, .Name z pz] kt pt] (.Tuple [a, b, c] k2 pt2) pos.line X.env = pure false := by rfl) :
    DS X cn W (.Assign [.Tuple [.Name x px, .Name y py, .Name z pz] kt pt] (.Tuple [a, b, c] k2 pt2) pos) (F.sPar [i, j, l] tr) := by
  obtain ⟨t1, p1, s1⟩ := ha
  refine ⟨_, ps_par3 hc hN hi hj hl hij hil hjl hx hy hz p1 hw hs, fun D2 σ2 h q σ H rs hh w D1 k => ?_⟩
  refine s1 _ σ2 h _ q σ H rs hh w _ fun vs ds h1 H1 rv hh1 f1 q1 => ?_
  obtain ⟨hl, q2⟩ := q1
  match ds, hl, rv, q2 with
  | [d, d', d2], _, rv, q2 =>
    cases rv with
    | cons r1 rv =>
      obtain ⟨v', v2, rfl, r2, r3⟩ := rv.two_inv
      exact ⟨_, v', v2, rfl, k.nx _ _ h1 H1 ((((rs.mono (f1.tle hh)).set i r1).set j r2).set l r3) hh1 f1 q2⟩
end
end F

set_option Elab.async false
set_option linter.all false
set_option maxRecDepth 100000
set_option maxHeartbeats 4000000
/-! the bridge: list(d.values()) -/
namespace F
open PySem PySem.Spec PyProof.Rows L2
def tListVals (te : L2.TE) : L2.TE := fun σ H Q => te σ H fun x H1 => ∃ (d : Addr) (kvs : List (L2.Key × V)), x = .ref d ∧ H1 d = some (.dK kvs) ∧ ∀ p, H1 p = none → Q (.ref p) (L2.upd H1 p (.lst (kvs.map fun q => q.2)))
section
variable {X : Cx} {cn : Cn} {W : WX} {e : Expr} {te : L2.TE} {p apos cpos pos : Pos}
theorem list_laid {pins : List (Addr × Obj)} {σ : L2.St} {H : LHp} {s : Shared} {h' : Heap} {tk : Nat} {xs : List V} {acc : Array Value} {c : Nat} (I : Inv X pins σ H s) (hz : xs.length ≤ sizeLine) (kv : Vals xs acc.toList)
    (hk : ∀ b o, s.heap.get? b = some o → h'.get? b = some o) (hS : h'.get? s.heap.objs.size = some { cls := .type "list", dict := none, data := .seq acc c, slots := #[] }) :
    H s.heap.objs.size = none ∧ Inv X pins σ (L2.upd H s.heap.objs.size (.lst xs)) { s with heap := h', toks := tk } := by
  have newS : H s.heap.objs.size = none := I.hok.fresh (Nat.le_refl _)
  have kp : ∀ b u, H b = some u → (L2.upd H s.heap.objs.size (.lst xs)) b = some u := fun b u e => by
    rw [L2.upd_ne (fun z => by rw [z, newS] at e; cases e)]
    exact e
  refine ⟨newS, ?_⟩
  refine I.call' (ch := []) rfl ⟨fun b o q _ _ _ => hk b o q, fun b o q _ _ _ => ⟨o.slots, hk b o q⟩, fun b o q n _ => ?_, fun b o q _ => ⟨o, hk b o q⟩, fun b xs q => kp b _ q, fun b o u q => kp b _ q, fun b ps q => ⟨#[], by rw [kp b _ q]; simp⟩⟩ (fun b u q => ?_) I.bare fun b z => by simp at z
  · rw [L2.upd_ne (Nat.ne_of_lt (Heap.lt_size q))]
    exact n
  · by_cases hb2 : b = s.heap.objs.size
    · rw [hb2] at q ⊢
      rw [L2.upd_same] at q
      cases q
      refine ⟨hz, acc.toList, c, kv, ?_⟩
      rw [Array.toArray_toList]
      exact hS
    · rw [L2.upd_ne hb2] at q
      exact (I.hok b u q).stay (fun d v _ y => hk d v y) (fun d y => kp d _ y) fun d xs y => kp d _ y
theorem vals_of : ∀ {kvs : List (L2.Key × V)} {vs : List (L2.Key × Value)} {us : List Value}, L2.KV kvs vs → us.length = vs.length → (∀ (j : Nat) (u : Value), us[j]? = some u → ∃ k, vs[j]? = some (k, u)) → Vals (kvs.map fun q => q.2) us
  | _, _, [], .nil, _, _ => .nil
  | _, _, _ :: _, .nil, h, _ => by simp at h
  | _, _, [], .cons _ _, h, _ => by simp at h
  | _, _, u :: us, .cons r t, h, e => by
    obtain ⟨k, e1⟩ := e 0 u rfl
    simp only [List.getElem?_cons_zero, Option.some.injEq] at e1
    refine .cons ?_ (vals_of t (by simpa using h) fun j u hu => by simpa using e (j + 1) u (by simpa using hu))
    have := r.2
    rw [e1] at this
    exact this
theorem rkv_snd {g : G} {H : LHp} {κ : Type} : ∀ {vs : List (κ × V)} {ds : List (κ × D)}, RKv g H vs ds → Reps g H (vs.map fun q => q.2) (ds.map fun q => q.2)
  | _, _, .nil => .nil
  | _, _, .cons a b => .cons a (rkv_snd b)
/-- list(e.values()) -/
theorem pe_listVals (hc : X.calm = true) (he : PE X e te) (hg : Gl X "list") (hm : X.mg "list" = none) (hv : bootBuiltins "list" = some (.type "list")) (hbase : attributeBase e "values" X.env (eval e X.env) = eval e X.env := by rfl) (hline : (apos.endLine == cpos.line) = true := by rfl)
    (hs : starEach [.Call (.Attribute e "values" apos) [] [] cpos] X.env = (false, eval (.Call (.Attribute e "values" apos) [] [] cpos) X.env) :: starEach [] X.env := by rfl) :
    PE X (.Call (.Name "list" p) [.Call (.Attribute e "values" apos) [] [] cpos] [] pos) (tListVals te) := by
  refine ⟨fun pins s σ H Q I hq => ?_⟩
  refine wpAny_Call_Name_kw (ld_blt I hg hm hv ?_)
  refine PyProof.Rows.callWith_type1 ?_ hs rfl
  rw [hs]
  show wpAny _ _ (spliced ((false, eval (.Call (.Attribute e "values" apos) [] [] cpos) X.env) :: backTo pos (starEach [] X.env))) _ _ s
  refine Calls.spliced_cons ?_
  refine wpAny_Call_method (T := "dict") (id := "dict.values") hbase rfl hline PySem.F.plainAttrs_dict PySem.F.slot_dict_values PySem.F.type_dict_values (thn (he.run pins s σ H _ I hq) fun u s1 ⟨x, H1, I1, rx, d, kvs, ex, hd, q⟩ => ?_)
  subst ex
  obtain rfl : u = Value.ref d := rx
  obtain ⟨hz, hs0, vs, kv, hdo⟩ := I1.hok d _ hd
  obtain ⟨ep, hat⟩ := hdo.dictAt
  have lk : kvs.length = vs.length := Paired.length kv
  have I2 : Inv X pins σ H1 { s1 with heap := s1.heap.push { cls := .type "dict_values", data := .fields #[.ref d] } } := I1.kept (t' := s1.toks) fun b ob q => Heap.get?_push_of_some _ q
  refine ⟨hdo.typeIs, hdo.mapOf.noDict, ?_⟩
  show wpAny _ _ (callWith cpos (.builtin "dict.values") [.ref d] [] []) _ X.xe s1
  refine method_meetsIn PySem.F.slot_dict_values PySem.F.entry_dict_values rfl (PySem.evalArgs_none ⟨rfl, hdo.typeIs, PySem.F.args_dict_values_1 _, _, meets_dict_values (mixKind X.prog X.w) d hs0, ⟨⟨vs, hdo⟩, ?_⟩⟩)
  refine Calls.spliced_nil ?_
  refine PySem.W.kdl_call (PySem.W.kdl_values (knd := mixKind X.prog X.w) (kvs := vs) (ep := ep)) (I1.ok.hd hc) ⟨⟨_, Heap.get?_push_size _ rfl, rfl, rfl⟩, hat.push _⟩ (by omega) fun h' tk acc c hk hS hacc => ?_
  have kv2 : Vals (kvs.map fun q => q.2) acc.toList := vals_of kv (by rw [Array.length_toList]; exact hacc.1) fun j u hu => hacc.2 j u (by simpa using hu)
  obtain ⟨k3, J⟩ := list_laid (tk := tk) I2 (by rw [List.length_map]; exact hz) kv2 hk hS
  exact ⟨.ref _, _, J, rfl, q _ k3⟩
theorem de_listVals {te : TE} (hc : X.calm = true) (he : DE X cn W e te) (hg : Gl X "list") (hm : X.mg "list" = none) (hv : bootBuiltins "list" = some (.type "list") := by rfl) (hbase : attributeBase e "values" X.env (eval e X.env) = eval e X.env := by rfl) (hline : (apos.endLine == cpos.line) = true := by rfl)
    (hs : starEach [.Call (.Attribute e "values" apos) [] [] cpos] X.env = (false, eval (.Call (.Attribute e "values" apos) [] [] cpos) X.env) :: starEach [] X.env := by rfl) :
    DE X cn W (.Call (.Name "list" p) [.Call (.Attribute e "values" apos) [] [] cpos] [] pos) (eUn rListVals te) := by
  obtain ⟨t1, p1, s1⟩ := he
  refine ⟨_, pe_listVals hc p1 hg hm hv hbase hline hs, fun E σ2 h Q2 q σ H rs hh w Q1 k => ?_⟩
  refine s1 E σ2 h _ q σ H rs hh w _ fun v d h1 H1 rv hh1 f1 q1 => ?_
  unfold rListVals at q1
  dsimp only at q1
  split at q1
  · obtain ⟨kvs, e0, q1⟩ := q1
    cases rv
    obtain ⟨vs, hd, r⟩ := hh1 _ _ e0
    refine ⟨_, vs, rfl, hd, fun p np => ?_⟩
    exact k _ _ (upd h1 p (.lst (kvs.map fun q => q.2))) _ (.ref p) (hr_new hh1 np ⟨_, L2.upd_same, (rkv_snd r).mono (tle_new np)⟩) (f1.trans (fr_new np)) (q1 p (hh1.none np))
  · exact q1.elim
end
end F

set_option linter.all false
set_option maxRecDepth 100000
namespace F
open PySem (Str PyData)
/-! heaps -/
/-- what stands outside some places stands on -/
def Keep (h : Hp) (S : List Nat) (h' : Hp) : Prop := ∀ a o, a ∉ S → h a = some o → h' a = some o
theorem Keep.refl (h : Hp) (S : List Nat) : Keep h S h := fun _ _ _ e => e
theorem Keep.new {h h' : Hp} {S : List Nat} {p : Nat} {o : O} (k : Keep h S h') (n : h' p = none) : Keep h S (upd h' p o) := fun a u ha e => by
  have e1 := k a u ha e
  rw [upd_ne (ne_of_none e1 n)]; exact e1
theorem Keep.own {h h' : Hp} {S : List Nat} {p : Nat} {o : O} (k : Keep h S h') (n : h p = none) : Keep h S (upd h' p o) := fun a u ha e => by
  rw [upd_ne (ne_of_none e n)]; exact k a u ha e
theorem Keep.mem {h h' : Hp} {S : List Nat} {p : Nat} {o : O} (k : Keep h S h') (n : p ∈ S) : Keep h S (upd h' p o) := fun a u ha e => by
  have : a ≠ p := by intro q; subst q; exact ha n
  rw [upd_ne this]; exact k a u ha e
theorem Keep.none {h h' : Hp} {S : List Nat} {p : Nat} (k : Keep h S h') (hp : p ∉ S) (n : h' p = none) : h p = none := by
  cases e : h p with
  | none => rfl
  | some o => rw [k p o hp e] at n; cases n
theorem Keep.trans {h h1 h2 : Hp} {S : List Nat} (a : Keep h S h1) (b : Keep h1 S h2) : Keep h S h2 := fun x o n e => b x o n (a x o n e)
theorem Keep.nil {h h' : Hp} (k : Keep h [] h') : Sub h h' := fun a o e => k a o (by simp) e
theorem Sub.keep {h h' : Hp} (k : Sub h h') : Keep h [] h' := fun a o _ e => k a o e
/-! data -/
def intsD (ns : List Int) : List D := ns.map .int
theorem ints_inj {a b : List Int} (e : intsD a = intsD b) : a = b := by
  induction a generalizing b with
  | nil => cases b with
    | nil => rfl
    | cons => exact nomatch e
  | cons x r ih => cases b with
    | nil => exact nomatch e
    | cons y s =>
      simp only [intsD, List.map_cons, List.cons.injEq, D.int.injEq] at e
      rw [e.1, ih e.2]
theorem ints_length (a : List Int) : (intsD a).length = a.length := by simp [intsD]
/-! the drawn numbers -/
def boxH (h : Hp) (b l : Nat) (ns : List Int) (s : Int) : Hp := upd (upd h l (.lst (intsD ns))) b (.lst [.ref l, .int s])
structure Box (h : Hp) (b l : Nat) (ns : List Int) (s : Int) : Prop where
  hb : h b = some (.lst [.ref l, .int s])
  hl : h l = some (.lst (intsD ns))
  ne : b ≠ l
  le : ns.length ≤ 63
theorem Box.at {h : Hp} {b l : Nat} {ns : List Int} {s : Int} (x : Box h b l ns s) : boxH h b l ns s = h := by
  unfold boxH
  rw [upd_self x.hl, upd_self x.hb]
theorem box_boxH {h : Hp} {b l : Nat} {ns : List Int} {s : Int} (ne : b ≠ l) (le : ns.length ≤ 63) : Box (boxH h b l ns s) b l ns s :=
  ⟨upd_same, by unfold boxH; rw [upd_ne (Ne.symm ne)]; exact upd_same, ne, le⟩
theorem boxH_ne {h : Hp} {a b l : Nat} {ns : List Int} {s : Int} (h1 : a ≠ b) (h2 : a ≠ l) : boxH h b l ns s a = h a := by
  unfold boxH; rw [upd_ne h1, upd_ne h2]
theorem boxH_boxH {h : Hp} {b l : Nat} {ns ms : List Int} {s t : Int} : boxH (boxH h b l ns s) b l ms t = boxH h b l ms t := by
  funext a; unfold boxH upd
  by_cases e1 : a = b
  · rw [if_pos e1, if_pos e1]
  · rw [if_neg e1, if_neg e1, if_neg e1]
    by_cases e2 : a = l
    · rw [if_pos e2, if_pos e2]
    · rw [if_neg e2, if_neg e2, if_neg e2]
theorem Keep.box {h h' : Hp} {b l : Nat} {ns : List Int} {s : Int} (k : Keep h [b, l] h') : Keep h [b, l] (boxH h' b l ns s) := (k.mem (by simp)).mem (by simp)
/-- what a def that draws hands back: only the drawn numbers have changed -/
theorem Keep.sub {h h' : Hp} {b l : Nat} {ns : List Int} {s : Int} (k : Keep h [b, l] h') (x : Box h' b l ns s) : Sub (boxH h b l ns s) h' := fun a o e => by
  by_cases h1 : a = b
  · subst h1; rw [show boxH h a l ns s a = some (.lst [.ref l, .int s]) from upd_same] at e; rw [← e]; exact x.hb
  · by_cases h2 : a = l
    · subst h2; rw [show boxH h b a ns s a = some (.lst (intsD ns)) from by unfold boxH; rw [upd_ne h1]; exact upd_same] at e; rw [← e]; exact x.hl
    · rw [boxH_ne h1 h2] at e
      exact k a o (by simp [h1, h2]) e
theorem Keep.lk {h h' : Hp} {S : List Nat} {a : Nat} {o : O} (k : Keep h S h') (e : h a = some o) (n : a ∉ S := by simp_all) : h' a = some o := k a o n e
/-! the plan -/
abbrev Cell := Int × Int
def cellD (c : Cell) : D := .tup [.int c.1, .int c.2]
structure Plan where
  w : Int
  h : Int
  st : List Cell
  bk : List Cell
def planD (p : Plan) : D := .tup [.int p.w, .int p.h, .tup (p.st.map cellD), .tup (p.bk.map cellD)]
def inB (p : Plan) (c : Cell) : Prop := 0 ≤ c.1 ∧ c.1 < p.w ∧ 0 ≤ c.2 ∧ c.2 < p.h
structure Plan.Ok (p : Plan) : Prop where
  w2 : 2 ≤ p.w
  w6 : p.w ≤ 6
  h2 : 2 ≤ p.h
  h6 : p.h ≤ 6
  s1 : 1 ≤ p.st.length
  s4 : p.st.length ≤ 4
  cs : ∀ c ∈ p.st ++ p.bk, inB p c
  nd : (p.st ++ p.bk).Nodup
theorem cellD_inj {c d : Cell} : cellD c = cellD d ↔ c = d := by
  obtain ⟨a, b⟩ := c
  obtain ⟨a', b'⟩ := d
  simp [cellD]
theorem cells_inj {a b : List Cell} : a.map cellD = b.map cellD ↔ a = b := by
  induction a generalizing b with
  | nil => cases b <;> simp
  | cons x r ih => cases b with
    | nil => simp
    | cons y s => simp [cellD_inj, ih]
theorem planD_inj {p q : Plan} : planD p = planD q ↔ p = q := by
  obtain ⟨a, b, c, d⟩ := p
  obtain ⟨a', b', c', d'⟩ := q
  simp [planD, cells_inj]
/-! places among a literal tuple -/
theorem ix0 {x : D} {r : List D} {h : Hp} {Q : KV} : rIx (.tup (x :: r)) (.int 0) h Q = Q x h := by simp [rIx, atI, ixN]
theorem ix1 {x y : D} {r : List D} {h : Hp} {Q : KV} : rIx (.tup (x :: y :: r)) (.int 1) h Q = Q y h := by
  have : atI (x :: y :: r) 1 = some y := by unfold atI ixN; rw [if_pos (by decide), if_pos (by simp; omega)]; rfl
  simp [rIx, this]
theorem p0 {p : Plan} {h : Hp} {Q : KV} : rIx (planD p) (.int 0) h Q = Q (.int p.w) h := ix0
theorem p1 {p : Plan} {h : Hp} {Q : KV} : rIx (planD p) (.int 1) h Q = Q (.int p.h) h := ix1
theorem p2 {p : Plan} {h : Hp} {Q : KV} : rIx (planD p) (.int 2) h Q = Q (.tup (p.st.map cellD)) h := by simp [planD, rIx, atI, ixN]
theorem p3 {p : Plan} {h : Hp} {Q : KV} : rIx (planD p) (.int 3) h Q = Q (.tup (p.bk.map cellD)) h := by simp [planD, rIx, atI, ixN]
theorem c0 {c : Cell} {h : Hp} {Q : KV} : rIx (cellD c) (.int 0) h Q = Q (.int c.1) h := ix0
theorem c1 {c : Cell} {h : Hp} {Q : KV} : rIx (cellD c) (.int 1) h Q = Q (.int c.2) h := ix1
/-! one cell among cells -/
def cellP (c : Cell) : PyData := .tuple [.int c.1, .int c.2]
theorem toP_cell {h : Hp} {n : Nat} {c : Cell} : toP h (n + 1) (cellD c) = some (cellP c) := by
  cases n <;> simp [cellD, toP, omap, flatP, cellP]
theorem omap_cells {h : Hp} {n : Nat} {cs : List Cell} : omap (toP h (n + 1)) (cs.map cellD) = some (cs.map cellP) := by
  induction cs with
  | nil => rfl
  | cons c r ih => simp only [List.map_cons, omap, toP_cell, ih]
theorem peq_cell {c d : Cell} : peq (cellP c) (cellP d) = decide (c = d) := by
  obtain ⟨a, b⟩ := c
  obtain ⟨a', b'⟩ := d
  simp [cellP, peq, peqs]
theorem any_cells {c : Cell} {cs : List Cell} : ((cs.map cellP).any fun q => peq q (cellP c)) = decide (c ∈ cs) := by
  induction cs with
  | nil => simp
  | cons x r ih =>
    rw [List.map_cons, List.any_cons, ih, peq_cell]
    by_cases e : x = c
    · subst e; simp
    · have e' : ¬ c = x := fun q => e q.symm
      simp [e, e']
theorem in_cells {c : Cell} {cs : List Cell} {h : Hp} {Q : KV} : rIn (cellD c) (.tup (cs.map cellD)) h Q = Q (.bl (decide (c ∈ cs))) h := by
  have e1 : toP h 9 (cellD c) = some (cellP c) := toP_cell
  have e2 : omap (toP h 9) (cs.map cellD) = some (cs.map cellP) := omap_cells
  show (match toP h 9 (cellD c), omap (toP h 9) (cs.map cellD) with
    | some p, some qs => Q (.bl (qs.any fun q => peq q p)) h
    | _, _ => False) = _
  rw [e1, e2]
  show Q (.bl ((cs.map cellP).any fun q => peq q (cellP c))) h = _
  rw [any_cells]
theorem omap_ints {h : Hp} {n : Nat} {ns : List Int} : omap (toP h n) (intsD ns) = some (ns.map .int) := by
  induction ns with
  | nil => rfl
  | cons c r ih =>
    have : toP h n (.int c) = some (.int c) := by cases n <;> rfl
    simp only [intsD, List.map_cons, omap, this]
    have := ih
    simp only [intsD] at this
    rw [this]
theorem peqs_ints {a b : List Int} : peqs (a.map .int) (b.map .int) = decide (a = b) := by
  induction a generalizing b with
  | nil => cases b <;> simp [peqs]
  | cons x r ih => cases b with
    | nil => simp [peqs]
    | cons y s => simp [peqs, peq, ih]
theorem any_ints {c : Int} {cs : List Int} : ((cs.map PyData.int).any fun q => peq q (.int c)) = decide (c ∈ cs) := by
  induction cs with
  | nil => simp
  | cons x r ih =>
    rw [List.map_cons, List.any_cons, ih]
    by_cases e : x = c
    · subst e; simp [peq]
    · have e' : ¬ c = x := fun q => e q.symm
      simp [peq, e, e']
/-- a number in a list of numbers -/
theorem in_ints {c : Int} {cs : List Int} {a : Nat} {h : Hp} {Q : KV} (e : h a = some (.lst (intsD cs))) : rIn (.int c) (.ref a) h Q = Q (.bl (decide (c ∈ cs))) h := by
  have e1 : toP h 9 (.int c) = some (.int c) := rfl
  have e2 : omap (toP h 9) (intsD cs) = some (cs.map .int) := omap_ints
  unfold rIn
  simp only [e]
  rw [e1, e2]
  show Q (.bl ((cs.map PyData.int).any fun q => peq q (.int c))) h = _
  rw [any_ints]
theorem in_cellsL {c : Cell} {cs : List Cell} {a : Nat} {h : Hp} {Q : KV} (e : h a = some (.lst (cs.map cellD))) : rIn (cellD c) (.ref a) h Q = Q (.bl (decide (c ∈ cs))) h := by
  have e1 : toP h 9 (cellD c) = some (cellP c) := toP_cell
  have e2 : omap (toP h 9) (cs.map cellD) = some (cs.map cellP) := omap_cells
  unfold rIn
  simp only [e]
  rw [e1, e2]
  show Q (.bl ((cs.map cellP).any fun q => peq q (cellP c))) h = _
  rw [any_cells]
/-! == of atoms -/
theorem eqii {i j : Int} {h : Hp} {Q : KV} : rEq (.int i) (.int j) h Q = Q (.bl (decide (i = j))) h := rfl
theorem eqss {i j : Str} {h : Hp} {Q : KV} : rEq (.str i) (.str j) h Q = Q (.bl (decide (i = j))) h := rfl
theorem eqnn {h : Hp} {Q : KV} : rEq .non .non h Q = Q (.bl true) h := rfl
theorem eqni {i : Int} {h : Hp} {Q : KV} : rEq .non (.int i) h Q = Q (.bl false) h := rfl
theorem eqin {i : Int} {h : Hp} {Q : KV} : rEq (.int i) .non h Q = Q (.bl false) h := rfl
theorem eqbb {i j : Bool} {h : Hp} {Q : KV} : rEq (.bl i) (.bl j) h Q = Q (.bl (i == j)) h := rfl
/-! indices -/
theorem ixN_nat {n k : Nat} (h : k < n) : ixN n (k : Int) = some k := by unfold ixN; rw [if_pos (by omega), if_pos (by omega)]; simp
theorem atI_nat {xs : List D} {k : Nat} {v : D} (h : xs[k]? = some v) : atI xs (k : Int) = some v := by
  have : k < xs.length := by
    rcases Nat.lt_or_ge k xs.length with z | z
    · exact z
    · rw [List.getElem?_eq_none z] at h; cases h
  unfold atI; rw [ixN_nat this]; exact h
theorem atI_of {xs : List D} {i : Int} {v : D} (h0 : 0 ≤ i) (h : xs[i.toNat]? = some v) : atI xs i = some v := by
  have := atI_nat h
  rwa [Int.toNat_of_nonneg h0] at this
theorem ix_tup {xs : List D} {i : Int} {v : D} {h : Hp} {Q : KV} (e : atI xs i = some v) : rIx (.tup xs) (.int i) h Q = Q v h := by simp [rIx, e]
theorem ix_lst {xs : List D} {a : Nat} {i : Int} {v : D} {h : Hp} {Q : KV} (eh : h a = some (.lst xs)) (e : atI xs i = some v) : rIx (.ref a) (.int i) h Q = Q v h := by simp [rIx, eh, e]
theorem set_lst {xs : List D} {a j : Nat} {i : Int} {v : D} {h : Hp} {Q : Hp → Prop} (eh : h a = some (.lst xs)) (e : ixN xs.length i = some j) : rSet (.ref a) (.int i) v h Q = Q (upd h a (.lst (xs.set j v))) := by simp [rSet, eh, e]
theorem ixN_of {n : Nat} {i : Int} (h0 : 0 ≤ i) (h1 : i < n) : ixN n i = some i.toNat := by unfold ixN; rw [if_pos h0, if_pos h1]
theorem ints_get {ns : List Int} {i : Nat} : (intsD ns)[i]? = (ns[i]?).map .int := by simp [intsD]
theorem ints_set {ns : List Int} {i : Nat} {v : Int} : (intsD ns).set i (.int v) = intsD (ns.set i v) := by simp [intsD]
theorem ints_app {ns ms : List Int} : intsD ns ++ intsD ms = intsD (ns ++ ms) := by simp [intsD]
theorem ints_snoc {ns : List Int} {i : Int} : intsD ns ++ [.int i] = intsD (ns ++ [i]) := by simp [intsD]
theorem ints_erase {ns : List Int} {i : Nat} : (intsD ns).eraseIdx i = intsD (ns.eraseIdx i) := by
  induction ns generalizing i with
  | nil => rfl
  | cons x r ih => cases i with
    | zero => rfl
    | succ i => simp only [intsD, List.map_cons, List.eraseIdx_cons_succ] at ih ⊢; rw [ih]
end F

set_option linter.all false
set_option maxRecDepth 100000
namespace F
open PySem (Str PyData)
/-! promises of the game's defs -/
def picD (c : List Int) : D := .tup (intsD c)
def handsD (hs : List Str) : D := .tup (hs.map .str)
def handsS : List Str := ["n", "e", "s", "w", "mark", ""]
abbrev Plan.many (p : Plan) : Nat := p.st.length
abbrev Plan.n (p : Plan) : Nat := (p.w * p.h).toNat
def spot (p : Plan) (c : Cell) : Int := c.2 * p.w + c.1
def isB (p : Plan) (k : Nat) : Prop := (k : Int) ∈ p.bk.map (spot p)
instance (p : Plan) (k : Nat) : Decidable (isB p k) := by unfold isB; infer_instance
structure Good (p : Plan) (c : List Int) (pl : Nat → Nat) : Prop where
  len : c.length = p.n
  blk : ∀ k (v : Int), c[k]? = some v → isB p k → v = -1
  fre : ∀ k (v : Int), c[k]? = some v → ¬ isB p k → 0 ≤ v ∧ v ≤ 11 * p.many ∧ v % 10 - 1 < p.many
  pls : ∀ s, s < p.many → ∃ v, c[pl s]? = some v ∧ ¬ isB p (pl s) ∧ v % 10 - 1 = s
  unq : ∀ s k (v : Int), s < p.many → c[k]? = some v → ¬ isB p k → v % 10 - 1 = s → k = pl s
def isPl (s v : Int) : Bool := decide (v ≠ -1) && decide (v % 10 - 1 = s)
/-- the first cell where a seat stands -/
def placeF (c : List Int) (s : Int) : Nat := c.findIdx (isPl s)
def HasPl (c : List Int) (s : Int) : Prop := placeF c s < c.length
def wayF (x : Str) : Option Cell := if x = "n" then some (0, -1) else if x = "e" then some (1, 0) else if x = "s" then some (0, 1) else if x = "w" then some (-1, 0) else none
def besC (p : Plan) (k : Int) (d : Cell) : Cell := (k % p.w + d.1, k / p.w + d.2)
instance (p : Plan) (c : Cell) : Decidable (inB p c) := by unfold inB; infer_instance
def besF (p : Plan) (k : Int) (d : Cell) : Option Nat := if inB p (besC p k d) then some (spot p (besC p k d)).toNat else none
def optD : Option Nat → D
  | none => .non
  | some k => .int (k : Int)
def openF (c : List Int) : Option Nat → Bool
  | none => false
  | some k => match c[k]? with
    | some v => decide (v ≠ -1) && decide (v % 10 - 1 < 0)
    | none => false
def stepF (p : Plan) (c : List Int) (s : Nat) (d : Cell) : List Int :=
  let k := placeF c s
  match besF p k d with
  | none => c
  | some j => if openF c (some j) = true then (c.set k ((c.getD k 0) / 10 * 10)).set j (11 * (s : Int) + 11) else c
def markF (p : Plan) (s : Nat) (k : Nat) (c : List Int) (d : Cell) : List Int :=
  match besF p k d with
  | none => c
  | some j => if openF c (some j) = true then c.set j (10 * (s : Int) + 10) else c
def turnF (p : Plan) (hs : List Str) (c : List Int) (s : Nat) : List Int :=
  let x := hs.getD s ""
  if x = "mark" then [((0, -1) : Cell), (1, 0), (0, 1), (-1, 0)].foldl (markF p s (placeF c s)) c
  else match wayF x with
    | some d => stepF p c s d
    | none => c
def seatAt (p : Plan) (t : Int) (i : Nat) : Nat := ((t + i) % (p.many : Int)).toNat
def goneF (p : Plan) (c : List Int) (t : Int) (hs : List Str) : List Int := (List.range p.many).foldl (fun c i => turnF p hs c (seatAt p t i)) c
/-- the seat that begins at a cell -/
def firstV (p : Plan) (k : Nat) : Int := if isB p k then -1 else 11 * (((p.st.map (spot p)).findIdx fun x => x == (k : Int) : Nat) : Int) + 11
def firstF (p : Plan) : List Int := (List.range p.n).map fun k => if isB p k then -1 else if (k : Int) ∈ p.st.map (spot p) then 11 * (((p.st.map (spot p)).findIdx fun x => x == (k : Int) : Nat) : Int) + 11 else 0
def pointsF (p : Plan) (c : List Int) : List Int := (List.range p.many).map fun (s : Nat) => ((((c.filter fun v => decide (v ≠ -1)).map fun v => v / 10 - 1).count (s : Int) : Nat) : Int)

def sp_is_number : Sp := fun ds h Q _ => match ds with
  | [.int x, .int lo, .int hi] => Q (.bl (decide (lo ≤ x) && decide (x ≤ hi))) h
  | _ => False
def sp_need_count : Sp := fun ds h Q _ => match ds with
  | [.int x, .int lo, .int hi] => (lo ≤ x ∧ x ≤ hi) ∧ Q .non h
  | _ => False
def sp_need_hand : Sp := fun ds h Q _ => match ds with
  | [.str x] => x ∈ handsS ∧ Q .non h
  | _ => False
def sp_is_cell : Sp := fun ds h Q _ => ∃ (c : Cell) (w hh : Int), ds = [cellD c, .int w, .int hh] ∧ Q (.bl (decide (0 ≤ c.1 ∧ c.1 < w ∧ 0 ≤ c.2 ∧ c.2 < hh))) h
def sp_need_plan : Sp := fun ds h Q _ => ∃ p : Plan, ds = [planD p] ∧ p.Ok ∧ Q .non h
def sp_many_of : Sp := fun ds h Q _ => ∃ p : Plan, ds = [planD p] ∧ Q (.int p.many) h
def sp_spot_of : Sp := fun ds h Q _ => ∃ (p : Plan) (c : Cell), ds = [planD p, cellD c] ∧ p.Ok ∧ Q (.int (spot p c)) h
def sp_cell_of : Sp := fun ds h Q _ => ∃ (p : Plan) (n : Int), ds = [planD p, .int n] ∧ p.Ok ∧ Q (cellD (n % p.w, n / p.w)) h
def sp_code : Sp := fun ds h Q _ => match ds with
  | [.int o, .int m] => Q (.int ((o + 1) * 10 + m + 1)) h
  | _ => False
def sp_owner_of : Sp := fun ds h Q _ => match ds with
  | [.int n] => Q (.int (n / 10 - 1)) h
  | _ => False
def sp_mover_of : Sp := fun ds h Q _ => match ds with
  | [.int n] => Q (.int (n % 10 - 1)) h
  | _ => False
def sp_is_picture : Sp := fun ds h Q _ => ∃ (p : Plan) (c : List Int) (pl : Nat → Nat), ds = [planD p, picD c] ∧ p.Ok ∧ Good p c pl ∧ Q (.bl true) h
def sp_need_picture : Sp := fun ds h Q _ => ∃ (p : Plan) (c : List Int) (pl : Nat → Nat), ds = [planD p, picD c] ∧ p.Ok ∧ Good p c pl ∧ Q .non h
def sp_first : Sp := fun ds h Q _ => ∃ p : Plan, ds = [planD p] ∧ p.Ok ∧ Q (picD (firstF p)) h
def sp_begun : Sp := sp_first
def sp_law_first : Sp := sp_first
def sp_place_of : Sp := fun ds h Q _ => ∃ (a : Nat) (c : List Int) (s : Int), ds = [.ref a, .int s] ∧ h a = some (.lst (intsD c)) ∧ HasPl c s ∧ c.length ≤ 36 ∧ Q (.int (placeF c s : Nat)) h
def sp_beside : Sp := fun ds h Q _ => ∃ (p : Plan) (n : Nat) (x : Str) (d : Cell), ds = [planD p, .int (n : Int), .str x] ∧ p.Ok ∧ wayF x = some d ∧ Q (optD (besF p n d)) h
def sp_is_open : Sp := fun ds h Q _ => ∃ (a : Nat) (c : List Int) (k : Option Nat), ds = [.ref a, optD k] ∧ h a = some (.lst (intsD c)) ∧ (∀ j, k = some j → j < c.length) ∧ Q (.bl (openF c k)) h
def sp_step : Sp := fun ds h Q _ => ∃ (p : Plan) (a : Nat) (c : List Int) (s : Nat) (x : Str) (d : Cell), ds = [planD p, .ref a, .int (s : Int), .str x] ∧ p.Ok ∧ h a = some (.lst (intsD c)) ∧ c.length = p.n ∧ HasPl c s ∧ wayF x = some d ∧
  Q .non (upd h a (.lst (intsD (stepF p c s d))))
def sp_mark : Sp := fun ds h Q _ => ∃ (p : Plan) (a : Nat) (c : List Int) (s : Nat), ds = [planD p, .ref a, .int (s : Int)] ∧ p.Ok ∧ h a = some (.lst (intsD c)) ∧ c.length = p.n ∧ HasPl c s ∧
  Q .non (upd h a (.lst (intsD ([((0, -1) : Cell), (1, 0), (0, 1), (-1, 0)].foldl (markF p s (placeF c s)) c))))
structure HandsOk (p : Plan) (hs : List Str) : Prop where
  len : hs.length = p.many
  mem : ∀ x ∈ hs, x ∈ handsS
def sp_gone_on : Sp := fun ds h Q _ => ∃ (p : Plan) (c : List Int) (pl : Nat → Nat) (t : Int) (hs : List Str), ds = [planD p, picD c, .int t, handsD hs] ∧ p.Ok ∧ Good p c pl ∧ HandsOk p hs ∧ Q (picD (goneF p c t hs)) h
def sp_law_gone : Sp := sp_gone_on
def sp_need_hands : Sp := fun ds h Q _ => ∃ (p : Plan) (hs : List Str), ds = [planD p, handsD hs] ∧ HandsOk p hs ∧ Q .non h
def sp_after : Sp := fun ds h Q _ => ∃ (p : Plan) (c : List Int) (pl : Nat → Nat) (t : Int) (hs : List Str), ds = [planD p, picD c, .int t, handsD hs] ∧ p.Ok ∧ Good p c pl ∧ HandsOk p hs ∧ (1 ≤ t ∧ t ≤ 9999) ∧ Q (picD (goneF p c t hs)) h
def sp_points : Sp := fun ds h Q _ => ∃ (p : Plan) (c : List Int) (pl : Nat → Nat), ds = [planD p, picD c] ∧ p.Ok ∧ Good p c pl ∧ Q (picD (pointsF p c)) h
def sp_law_begun : Sp := fun ds h Q _ => ∃ ns : List Int, ds = [.ro (intsD ns)] ∧ ns.length ≤ 63 ∧ ∀ b l s, h b = none → h l = none → b ≠ l → Q (.ref b) (boxH h b l ns s)
def sp_law_take : Sp := fun ds h Q _ => ∃ (b l : Nat) (ns : List Int) (s m : Int), ds = [.ref b, .int m] ∧ Box h b l ns s ∧ (0 < m ∧ m < 1073741824) ∧ ∀ r ns' s', 0 ≤ r → r < m → ns'.length ≤ 63 → Q (.int r) (boxH h b l ns' s')
def sp_law_plan : Sp := fun ds h Q _ => ∃ (b l : Nat) (ns : List Int) (s : Int), ds = [.ref b] ∧ Box h b l ns s ∧ ∀ (p : Plan) ns' s', p.Ok → ns'.length ≤ 63 → Q (planD p) (boxH h b l ns' s')
def sp_law_hand : Sp := fun ds h Q _ => ∃ (b l : Nat) (ns : List Int) (s : Int), ds = [.ref b] ∧ Box h b l ns s ∧ ∀ (x : Str) ns' s', x ∈ handsS → ns'.length ≤ 63 → Q (.str x) (boxH h b l ns' s')
def fourW : List (Str × Cell) := [("n", (0, -1)), ("e", (1, 0)), ("s", (0, 1)), ("w", (-1, 0))]
def besideK (p : Plan) (c : Cell) : List (Key × D) := (fourW.filter fun q => decide (inB p (c.1 + q.2.1, c.2 + q.2.2) ∧ (c.1 + q.2.1, c.2 + q.2.2) ∉ p.bk)).map fun q => (.inr q.1, cellD (c.1 + q.2.1, c.2 + q.2.2))
def sp_law_beside : Sp := fun ds h Q _ => ∃ (p : Plan) (c : Cell), ds = [planD p, cellD c] ∧ ∀ a, h a = none → Q (.ref a) (upd h a (.dK (besideK p c)))
def sp_law_made_up : Sp := fun ds h Q _ => ∃ (b l : Nat) (ns : List Int) (s : Int) (p : Plan), ds = [.ref b, planD p] ∧ Box h b l ns s ∧ p.Ok ∧ ∀ c pl ns' s', Good p c pl → ns'.length ≤ 63 → Q (picD c) (boxH h b l ns' s')
/-- no line of data longer than the line -/
def smallP : Nat → PyData → Bool
  | n + 1, .tuple ps => decide (ps.length ≤ line) && ps.all (smallP n)
  | n + 1, .list ps => decide (ps.length ≤ line) && ps.all (smallP n)
  | _, _ => true
/-- values alike, so deep -/
def sp_alikeN (n : Nat) : Sp := fun ds h Q _ => ∃ (x y : D) (P : PyData), ds = [x, y] ∧ toP h n x = some P ∧ toP h n y = some P ∧ smallP n P = true ∧ Q (.bl true) h
def sp_law_alike : Sp := sp_alikeN 3
end F

namespace F
open PySem (Str)
@[simp] def g_BLOCK : D := (.int (-1))
@[simp] def g_FREE : D := (.int 0)
@[simp] def g_HANDS : D := (.ct [(.str "n"), (.str "e"), (.str "s"), (.str "w"), (.str "mark"), (.str "")])
@[simp] def g_LEAST_SIDE : D := (.int 2)
@[simp] def g_MARK : D := (.str "mark")
@[simp] def g_MOST_SEATS : D := (.int 4)
@[simp] def g_MOST_SIDE : D := (.int 6)
@[simp] def g_MOST_TICK : D := (.int 9999)
@[simp] def g_SHARE : D := (.int 10)
@[simp] def g_WAYS : D := (.wd [(("n" : Str), (.ct [(.int 0), (.int (-1))])), (("e" : Str), (.ct [(.int 1), (.int 0)])), (("s" : Str), (.ct [(.int 0), (.int 1)])), (("w" : Str), (.ct [(.int (-1)), (.int 0)]))])
def s_is_number_0 : TS := (sRet (eAnd (eCB (rIsA .int) (aCons (eVar 0) aNil)) (eAnd (eNot (eCB (rIsA .bool) (aCons (eVar 0) aNil))) (eChain rLe rLe (eVar 1) (eVar 0) (eVar 2)))))
def r_is_number : TS := s_is_number_0
def s_need_count_0 : TS := sNever
def s_need_count_1 : TS := (sIf (tNot (tVal (eCall sp_is_number (aCons (eVar 0) (aCons (eVar 1) (aCons (eVar 2) aNil)))))) s_need_count_0 sNext)
def r_need_count : TS := s_need_count_1
def s_need_hand_0 : TS := sNever
def s_need_hand_1 : TS := (sIf (tOr (tNot (tVal (eCB (rIsA .str) (aCons (eVar 0) aNil)))) (tVal (eBin rNotIn (eVar 0) (eC g_HANDS)))) s_need_hand_0 sNext)
def r_need_hand : TS := s_need_hand_1
def s_is_cell_0 : TS := (sRet (eC (.bl false)))
def s_is_cell_1 : TS := (sIf (tOr (tNot (tVal (eCB (rIsA .tuple) (aCons (eVar 0) aNil)))) (tVal (eBin rNe (eCB rLen (aCons (eVar 0) aNil)) (eC (.int 2))))) s_is_cell_0 sNext)
def s_is_cell_2 : TS := (sRet (eAnd (eCall sp_is_number (aCons (eBin rIx (eVar 0) (eC (.int 0))) (aCons (eC (.int 0)) (aCons (eBin rSub (eVar 1) (eC (.int 1))) aNil)))) (eCall sp_is_number (aCons (eBin rIx (eVar 0) (eC (.int 1))) (aCons (eC (.int 0)) (aCons (eBin rSub (eVar 2) (eC (.int 1))) aNil))))))
def r_is_cell : TS := (sSeq s_is_cell_1 s_is_cell_2)
def s_need_plan_0 : TS := sNever
def s_need_plan_1 : TS := (sIf (tOr (tNot (tVal (eCB (rIsA .tuple) (aCons (eVar 0) aNil)))) (tVal (eBin rNe (eCB rLen (aCons (eVar 0) aNil)) (eC (.int 4))))) s_need_plan_0 sNext)
def s_need_plan_2 : TS := (sAsg (eVar 0) (gTup 4 (gCons (gName 1) (gCons (gName 2) (gCons (gName 3) (gCons (gName 4) gNil))))))
def s_need_plan_3 : TS := sNever
def s_need_plan_4 : TS := (sIf (tNot (tVal (eCall sp_is_number (aCons (eVar 6) (aCons (eC g_LEAST_SIDE) (aCons (eC g_MOST_SIDE) aNil)))))) s_need_plan_3 sNext)
def s_need_plan_5 : TS := (sFor (iEnum (eTup (aCons (eVar 1) (aCons (eVar 2) aNil)))) (gTup 2 (gCons (gName 5) (gCons (gName 6) gNil))) s_need_plan_4)
def s_need_plan_6 : TS := sNever
def s_need_plan_7 : TS := (sIf (tOr (tNot (tVal (eCB (rIsA .tuple) (aCons (eVar 3) aNil)))) (tVal (eBin rEq (eVar 3) (eTup aNil)))) s_need_plan_6 sNext)
def s_need_plan_8 : TS := sNever
def s_need_plan_9 : TS := (sIf (tOr (tVal (eBin rGe (eVar 7) (eC g_MOST_SEATS))) (tOr (tNot (tVal (eCall sp_is_cell (aCons (eVar 8) (aCons (eVar 1) (aCons (eVar 2) aNil)))))) (tVal (eBin rIn (eVar 8) (eSl (eVar 3) oNo (oIs (eVar 7))))))) s_need_plan_8 sNext)
def s_need_plan_10 : TS := (sFor (iEnum (eVar 3)) (gTup 2 (gCons (gName 7) (gCons (gName 8) gNil))) s_need_plan_9)
def s_need_plan_11 : TS := sNever
def s_need_plan_12 : TS := (sIf (tNot (tVal (eCB (rIsA .tuple) (aCons (eVar 4) aNil)))) s_need_plan_11 sNext)
def s_need_plan_13 : TS := sNever
def s_need_plan_14 : TS := (sIf (tOr (tNot (tVal (eCall sp_is_cell (aCons (eVar 8) (aCons (eVar 1) (aCons (eVar 2) aNil)))))) (tOr (tVal (eBin rIn (eVar 8) (eVar 3))) (tVal (eBin rIn (eVar 8) (eSl (eVar 4) oNo (oIs (eVar 7))))))) s_need_plan_13 sNext)
def s_need_plan_15 : TS := (sFor (iEnum (eVar 4)) (gTup 2 (gCons (gName 7) (gCons (gName 8) gNil))) s_need_plan_14)
def r_need_plan : TS := (sSeq s_need_plan_1 (sSeq s_need_plan_2 (sSeq s_need_plan_5 (sSeq s_need_plan_7 (sSeq s_need_plan_10 (sSeq s_need_plan_12 s_need_plan_15))))))
def s_many_of_0 : TS := (sRet (eCB rLen (aCons (eBin rIx (eVar 0) (eC (.int 2))) aNil)))
def r_many_of : TS := s_many_of_0
def s_spot_of_0 : TS := (sRet (eBin rAdd (eBin rMul (eBin rIx (eVar 1) (eC (.int 1))) (eBin rIx (eVar 0) (eC (.int 0)))) (eBin rIx (eVar 1) (eC (.int 0)))))
def r_spot_of : TS := s_spot_of_0
def s_cell_of_0 : TS := (sRet (eTup (aCons (eBin rMod (eVar 1) (eBin rIx (eVar 0) (eC (.int 0)))) (aCons (eBin rDiv (eVar 1) (eBin rIx (eVar 0) (eC (.int 0)))) aNil))))
def r_cell_of : TS := s_cell_of_0
def s_code_0 : TS := (sRet (eBin rAdd (eBin rAdd (eBin rMul (eBin rAdd (eVar 0) (eC (.int 1))) (eC g_SHARE)) (eVar 1)) (eC (.int 1))))
def r_code : TS := s_code_0
def s_owner_of_0 : TS := (sRet (eBin rSub (eBin rDiv (eVar 0) (eC g_SHARE)) (eC (.int 1))))
def r_owner_of : TS := s_owner_of_0
def s_mover_of_0 : TS := (sRet (eBin rSub (eBin rMod (eVar 0) (eC g_SHARE)) (eC (.int 1))))
def r_mover_of : TS := s_mover_of_0
def s_is_picture_0 : TS := (sPar [2, 3] (aCons (eCall sp_many_of (aCons (eVar 0) aNil)) (aCons (eBin rMul (eBin rIx (eVar 0) (eC (.int 0))) (eBin rIx (eVar 0) (eC (.int 1)))) aNil)))
def s_is_picture_1 : TS := (sRet (eC (.bl false)))
def s_is_picture_2 : TS := (sIf (tOr (tNot (tVal (eCB (rIsA .tuple) (aCons (eVar 1) aNil)))) (tVal (eBin rNe (eCB rLen (aCons (eVar 1) aNil)) (eVar 3)))) s_is_picture_1 sNext)
def s_is_picture_3 : TS := (sAsg (eTup (aCons (eLc (iSeq (eBin rIx (eVar 0) (eC (.int 3)))) (gName 8) tYes (eCall sp_spot_of (aCons (eVar 0) (aCons (eVar 8) aNil))) [8]) (aCons (eLst aNil) aNil))) (gTup 2 (gCons (gName 4) (gCons (gName 5) gNil))))
def s_is_picture_4 : TS := (sRet (eC (.bl false)))
def s_is_picture_5 : TS := (sIf (tNot (tVal (eCall sp_is_number (aCons (eVar 7) (aCons (eC g_BLOCK) (aCons (eC g_BLOCK) aNil)))))) s_is_picture_4 sNext)
def s_is_picture_6 : TS := (sRet (eC (.bl false)))
def s_is_picture_7 : TS := (sDrop (eBM rAppend (eVar 5) (aCons (eCall sp_mover_of (aCons (eVar 7) aNil)) aNil)))
def s_is_picture_8 : TS := (sIf (tOr (tNot (tVal (eCall sp_is_number (aCons (eVar 7) (aCons (eC (.int 0)) (aCons (eCall sp_code (aCons (eBin rSub (eVar 2) (eC (.int 1))) (aCons (eBin rSub (eVar 2) (eC (.int 1))) aNil))) aNil)))))) (tVal (eBin rGe (eCall sp_mover_of (aCons (eVar 7) aNil)) (eVar 2)))) s_is_picture_6 s_is_picture_7)
def s_is_picture_9 : TS := (sIf (tVal (eBin rIn (eVar 6) (eVar 4))) s_is_picture_5 s_is_picture_8)
def s_is_picture_10 : TS := (sFor (iEnum (eVar 1)) (gTup 2 (gCons (gName 6) (gCons (gName 7) gNil))) s_is_picture_9)
def s_is_picture_11 : TS := (sRet (eCB rAll (aCons (eLc (iRng (aCons (eVar 2) aNil)) (gName 9) tYes (eBin rEq (eBM rCount (eVar 5) (aCons (eVar 9) aNil)) (eC (.int 1))) [9]) aNil)))
def r_is_picture : TS := (sSeq s_is_picture_0 (sSeq s_is_picture_2 (sSeq s_is_picture_3 (sSeq s_is_picture_10 s_is_picture_11))))
def s_need_picture_0 : TS := sNever
def s_need_picture_1 : TS := (sIf (tNot (tVal (eCall sp_is_picture (aCons (eVar 0) (aCons (eVar 1) aNil))))) s_need_picture_0 sNext)
def r_need_picture : TS := s_need_picture_1
def s_first_0 : TS := (sAsg (eBin rMul (eLst (aCons (eC g_FREE) aNil)) (eBin rMul (eBin rIx (eVar 0) (eC (.int 0))) (eBin rIx (eVar 0) (eC (.int 1))))) (gName 1))
def s_first_1 : TS := (sAsg (eC g_BLOCK) (gSub (eVar 1) (eCall sp_spot_of (aCons (eVar 0) (aCons (eVar 2) aNil)))))
def s_first_2 : TS := (sFor (iSeq (eBin rIx (eVar 0) (eC (.int 3)))) (gName 2) s_first_1)
def s_first_3 : TS := (sAsg (eCall sp_code (aCons (eVar 3) (aCons (eVar 3) aNil))) (gSub (eVar 1) (eCall sp_spot_of (aCons (eVar 0) (aCons (eVar 2) aNil)))))
def s_first_4 : TS := (sFor (iEnum (eBin rIx (eVar 0) (eC (.int 2)))) (gTup 2 (gCons (gName 3) (gCons (gName 2) gNil))) s_first_3)
def s_first_5 : TS := (sRet (eCB rTuple (aCons (eVar 1) aNil)))
def r_first : TS := (sSeq s_first_0 (sSeq s_first_2 (sSeq s_first_4 s_first_5)))
def s_begun_0 : TS := (sDrop (eCall sp_need_plan (aCons (eVar 0) aNil)))
def s_begun_1 : TS := (sRet (eCall sp_first (aCons (eVar 0) aNil)))
def r_begun : TS := (sSeq s_begun_0 s_begun_1)
def s_place_of_0 : TS := (sRet (eBin rIx (eLc (iEnum (eVar 0)) (gTup 2 (gCons (gName 2) (gCons (gName 3) gNil))) (tAnd (tVal (eBin rNe (eVar 3) (eC g_BLOCK))) (tVal (eBin rEq (eCall sp_mover_of (aCons (eVar 3) aNil)) (eVar 1)))) (eVar 2) [2, 3]) (eC (.int 0))))
def r_place_of : TS := s_place_of_0
def s_beside_0 : TS := (sAsg (eCall sp_cell_of (aCons (eVar 0) (aCons (eVar 1) aNil))) (gTup 2 (gCons (gName 4) (gCons (gName 5) gNil))))
def s_beside_1 : TS := (sAsg (eTup (aCons (eBin rAdd (eVar 4) (eBin rIx (eBin rIx (eC g_WAYS) (eVar 2)) (eC (.int 0)))) (aCons (eBin rAdd (eVar 5) (eBin rIx (eBin rIx (eC g_WAYS) (eVar 2)) (eC (.int 1)))) aNil))) (gName 3))
def s_beside_2 : TS := (sRet (eIf (tVal (eCall sp_is_cell (aCons (eVar 3) (aCons (eBin rIx (eVar 0) (eC (.int 0))) (aCons (eBin rIx (eVar 0) (eC (.int 1))) aNil))))) (eCall sp_spot_of (aCons (eVar 0) (aCons (eVar 3) aNil))) (eC .non)))
def r_beside : TS := (sSeq s_beside_0 (sSeq s_beside_1 s_beside_2))
def s_is_open_0 : TS := (sRet (eAnd (eUn rIsNotN (eVar 1)) (eAnd (eBin rNe (eBin rIx (eVar 0) (eVar 1)) (eC g_BLOCK)) (eBin rLt (eCall sp_mover_of (aCons (eBin rIx (eVar 0) (eVar 1)) aNil)) (eC (.int 0))))))
def r_is_open : TS := s_is_open_0
def s_step_0 : TS := (sAsg (eCall sp_place_of (aCons (eVar 1) (aCons (eVar 2) aNil))) (gName 4))
def s_step_1 : TS := (sAsg (eCall sp_beside (aCons (eVar 0) (aCons (eVar 4) (aCons (eVar 3) aNil)))) (gName 5))
def s_step_2 : TS := (sAsg (eCall sp_code (aCons (eCall sp_owner_of (aCons (eBin rIx (eVar 1) (eVar 4)) aNil)) (aCons (eUn rNeg (eC (.int 1))) aNil))) (gSub (eVar 1) (eVar 4)))
def s_step_3 : TS := (sAsg (eCall sp_code (aCons (eVar 2) (aCons (eVar 2) aNil))) (gSub (eVar 1) (eVar 5)))
def s_step_4 : TS := (sIf (tVal (eCall sp_is_open (aCons (eVar 1) (aCons (eVar 5) aNil)))) (sSeq s_step_2 s_step_3) sNext)
def r_step : TS := (sSeq s_step_0 (sSeq s_step_1 s_step_4))
def s_mark_0 : TS := (sAsg (eCall sp_place_of (aCons (eVar 1) (aCons (eVar 2) aNil))) (gName 3))
def s_mark_1 : TS := (sAsg (eCall sp_beside (aCons (eVar 0) (aCons (eVar 3) (aCons (eVar 4) aNil)))) (gName 5))
def s_mark_2 : TS := (sAsg (eCall sp_code (aCons (eVar 2) (aCons (eUn rNeg (eC (.int 1))) aNil))) (gSub (eVar 1) (eVar 5)))
def s_mark_3 : TS := (sIf (tVal (eCall sp_is_open (aCons (eVar 1) (aCons (eVar 5) aNil)))) s_mark_2 sNext)
def s_mark_4 : TS := (sFor (iSeq (eC g_WAYS)) (gName 4) (sSeq s_mark_1 s_mark_3))
def r_mark : TS := (sSeq s_mark_0 s_mark_4)
def s_gone_on_0 : TS := (sPar [5, 6] (aCons (eCB rList (aCons (eVar 1) aNil)) (aCons (eCall sp_many_of (aCons (eVar 0) aNil)) aNil)))
def s_gone_on_1 : TS := (sAsg (eBin rMod (eBin rAdd (eVar 2) (eVar 4)) (eVar 6)) (gName 7))
def s_gone_on_2 : TS := (sDrop (eCall sp_mark (aCons (eVar 0) (aCons (eVar 5) (aCons (eVar 7) aNil)))))
def s_gone_on_3 : TS := (sDrop (eCall sp_step (aCons (eVar 0) (aCons (eVar 5) (aCons (eVar 7) (aCons (eBin rIx (eVar 3) (eVar 7)) aNil))))))
def s_gone_on_4 : TS := (sIf (tVal (eBin rIn (eBin rIx (eVar 3) (eVar 7)) (eC g_WAYS))) s_gone_on_3 sNext)
def s_gone_on_5 : TS := (sIf (tVal (eBin rEq (eBin rIx (eVar 3) (eVar 7)) (eC g_MARK))) s_gone_on_2 s_gone_on_4)
def s_gone_on_6 : TS := (sFor (iRng (aCons (eVar 6) aNil)) (gName 4) (sSeq s_gone_on_1 s_gone_on_5))
def s_gone_on_7 : TS := (sRet (eCB rTuple (aCons (eVar 5) aNil)))
def r_gone_on : TS := (sSeq s_gone_on_0 (sSeq s_gone_on_6 s_gone_on_7))
def s_need_hands_0 : TS := sNever
def s_need_hands_1 : TS := (sIf (tOr (tNot (tVal (eCB (rIsA .tuple) (aCons (eVar 1) aNil)))) (tVal (eBin rNe (eCB rLen (aCons (eVar 1) aNil)) (eCall sp_many_of (aCons (eVar 0) aNil))))) s_need_hands_0 sNext)
def s_need_hands_2 : TS := (sDrop (eCall sp_need_hand (aCons (eVar 2) aNil)))
def s_need_hands_3 : TS := (sFor (iSeq (eVar 1)) (gName 2) s_need_hands_2)
def r_need_hands : TS := (sSeq s_need_hands_1 s_need_hands_3)
def s_after_0 : TS := (sDrop (eCall sp_need_plan (aCons (eVar 0) aNil)))
def s_after_1 : TS := (sDrop (eCall sp_need_picture (aCons (eVar 0) (aCons (eVar 1) aNil))))
def s_after_2 : TS := (sDrop (eCall sp_need_count (aCons (eVar 2) (aCons (eC (.int 1)) (aCons (eC g_MOST_TICK) aNil)))))
def s_after_3 : TS := (sDrop (eCall sp_need_hands (aCons (eVar 0) (aCons (eVar 3) aNil))))
def s_after_4 : TS := (sRet (eCall sp_gone_on (aCons (eVar 0) (aCons (eVar 1) (aCons (eVar 2) (aCons (eVar 3) aNil))))))
def r_after : TS := (sSeq s_after_0 (sSeq s_after_1 (sSeq s_after_2 (sSeq s_after_3 s_after_4))))
def s_points_0 : TS := (sDrop (eCall sp_need_plan (aCons (eVar 0) aNil)))
def s_points_1 : TS := (sDrop (eCall sp_need_picture (aCons (eVar 0) (aCons (eVar 1) aNil))))
def s_points_2 : TS := (sAsg (eLc (iSeq (eVar 1)) (gName 3) (tVal (eBin rNe (eVar 3) (eC g_BLOCK))) (eCall sp_owner_of (aCons (eVar 3) aNil)) [3]) (gName 2))
def s_points_3 : TS := (sRet (eCB rTuple (aCons (eLc (iRng (aCons (eCall sp_many_of (aCons (eVar 0) aNil)) aNil)) (gName 4) tYes (eBM rCount (eVar 2) (aCons (eVar 4) aNil)) [4]) aNil)))
def r_points : TS := (sSeq s_points_0 (sSeq s_points_1 (sSeq s_points_2 s_points_3)))
def s_law_begun_0 : TS := (sAsg (eC (.int 0)) (gName 1))
def s_law_begun_1 : TS := (sAsg (eBin rMod (eBin rAdd (eBin rAdd (eBin rMul (eVar 1) (eC (.int 48271))) (eBin rMul (eVar 2) (eC (.int 69621)))) (eC (.int 11))) (eC (.int 2147483647))) (gName 1))
def s_law_begun_2 : TS := (sFor (iSeq (eVar 0)) (gName 2) s_law_begun_1)
def s_law_begun_3 : TS := (sRet (eLst (aCons (eCB rList (aCons (eVar 0) aNil)) (aCons (eBin rMul (eVar 1) (eCB rInt (aCons (eBin rGt (eCB rLen (aCons (eVar 0) aNil)) (eC (.int 2))) aNil))) aNil))))
def r_law_begun : TS := (sSeq s_law_begun_0 (sSeq s_law_begun_2 s_law_begun_3))
def s_law_take_0 : TS := (sAsg (eBin rMod (eBin rMul (eBin rIx (eVar 0) (eC (.int 1))) (eC (.int 48271))) (eC (.int 2147483647))) (gSub (eVar 0) (eC (.int 1))))
def s_law_take_1 : TS := (sRet (eBin rMod (eBin rDiv (eBin rIx (eVar 0) (eC (.int 1))) (eC (.int 7))) (eVar 1)))
def s_law_take_2 : TS := (sIf (tVal (eBin rEq (eBin rIx (eVar 0) (eC (.int 0))) (eLst aNil))) (sSeq s_law_take_0 s_law_take_1) sNext)
def s_law_take_3 : TS := (sAsg (eBin rIx (eBin rIx (eVar 0) (eC (.int 0))) (eC (.int 0))) (gName 2))
def s_law_take_4 : TS := (sAsg (eBin rDiv (eVar 2) (eVar 1)) (gSub (eBin rIx (eVar 0) (eC (.int 0))) (eC (.int 0))))
def s_law_take_5 : TS := (sDrop (eBM rPopAt (eBin rIx (eVar 0) (eC (.int 0))) (aCons (eC (.int 0)) aNil)))
def s_law_take_6 : TS := (sIf (tOr (tVal (eBin rEq (eBin rIx (eBin rIx (eVar 0) (eC (.int 0))) (eC (.int 0))) (eC (.int 0)))) (tVal (eBin rEq (eBin rIx (eBin rIx (eVar 0) (eC (.int 0))) (eC (.int 0))) (eUn rNeg (eC (.int 1)))))) s_law_take_5 sNext)
def s_law_take_7 : TS := (sRet (eBin rMod (eVar 2) (eVar 1)))
def r_law_take : TS := (sSeq s_law_take_2 (sSeq s_law_take_3 (sSeq s_law_take_4 (sSeq s_law_take_6 s_law_take_7))))
def s_law_alike_0 (spR : Sp) : TS := (sRet (eUn rIsN (eVar 0)))
def s_law_alike_1 (spR : Sp) : TS := (sIf (tVal (eUn rIsN (eVar 1))) (s_law_alike_0 spR) sNext)
def s_law_alike_2 (spR : Sp) : TS := (sRet (eAnd (eCB (rIsA .bool) (aCons (eVar 0) aNil)) (eBin rEq (eVar 0) (eVar 1))))
def s_law_alike_3 (spR : Sp) : TS := (sIf (tVal (eCB (rIsA .bool) (aCons (eVar 1) aNil))) (s_law_alike_2 spR) sNext)
def s_law_alike_4 (spR : Sp) : TS := (sRet (eAnd (eCB (rIsA .int) (aCons (eVar 0) aNil)) (eAnd (eNot (eCB (rIsA .bool) (aCons (eVar 0) aNil))) (eBin rEq (eVar 0) (eVar 1)))))
def s_law_alike_5 (spR : Sp) : TS := (sIf (tVal (eCB (rIsA .int) (aCons (eVar 1) aNil))) (s_law_alike_4 spR) sNext)
def s_law_alike_6 (spR : Sp) : TS := (sRet (eAnd (eCB (rIsA .str) (aCons (eVar 0) aNil)) (eBin rEq (eVar 0) (eVar 1))))
def s_law_alike_7 (spR : Sp) : TS := (sIf (tVal (eCB (rIsA .str) (aCons (eVar 1) aNil))) (s_law_alike_6 spR) sNext)
def s_law_alike_8 (spR : Sp) : TS := (sRet (eC (.bl false)))
def s_law_alike_9 (spR : Sp) : TS := (sIf (tOr (tVal (eBin rNe (eCB (rIsA .tuple) (aCons (eVar 1) aNil)) (eCB (rIsA .tuple) (aCons (eVar 0) aNil)))) (tVal (eBin rNe (eCB (rIsA .list) (aCons (eVar 1) aNil)) (eCB (rIsA .list) (aCons (eVar 0) aNil))))) (s_law_alike_8 spR) sNext)
def s_law_alike_10 (spR : Sp) : TS := (sRet (eC (.bl false)))
def s_law_alike_11 (spR : Sp) : TS := (sIf (tVal (eBin rNe (eCB rLen (aCons (eVar 0) aNil)) (eCB rLen (aCons (eVar 1) aNil)))) (s_law_alike_10 spR) sNext)
def s_law_alike_12 (spR : Sp) : TS := (sRet (eC (.bl false)))
def s_law_alike_13 (spR : Sp) : TS := (sIf (tNot (tVal (eCall spR (aCons (eBin rIx (eVar 0) (eVar 2)) (aCons (eBin rIx (eVar 1) (eVar 2)) aNil))))) (s_law_alike_12 spR) sNext)
def s_law_alike_14 (spR : Sp) : TS := (sFor (iRng (aCons (eCB rLen (aCons (eVar 1) aNil)) aNil)) (gName 2) (s_law_alike_13 spR))
def s_law_alike_15 (spR : Sp) : TS := (sRet (eC (.bl true)))
def r_law_alike (spR : Sp) : TS := (sSeq (s_law_alike_1 spR) (sSeq (s_law_alike_3 spR) (sSeq (s_law_alike_5 spR) (sSeq (s_law_alike_7 spR) (sSeq (s_law_alike_9 spR) (sSeq (s_law_alike_11 spR) (sSeq (s_law_alike_14 spR) (s_law_alike_15 spR))))))))
def s_law_plan_0 : TS := (sAsg (eTup (aCons (eBin rAdd (eC (.int 2)) (eCall sp_law_take (aCons (eVar 0) (aCons (eC (.int 3)) aNil)))) (aCons (eBin rAdd (eC (.int 2)) (eCall sp_law_take (aCons (eVar 0) (aCons (eC (.int 3)) aNil)))) aNil))) (gTup 2 (gCons (gName 6) (gCons (gName 7) gNil))))
def s_law_plan_1 : TS := (sAsg (eLc (iRng (aCons (eBin rMul (eVar 6) (eVar 7)) aNil)) (gName 8) tYes (eTup (aCons (eBin rMod (eVar 8) (eVar 6)) (aCons (eBin rDiv (eVar 8) (eVar 6)) aNil))) [8]) (gName 1))
def s_law_plan_2 : TS := (sAsg (eLst aNil) (gName 2))
def s_law_plan_3 : TS := (sDrop (eBM rAppend (eVar 2) (aCons (eBM rPopAt (eVar 1) (aCons (eCall sp_law_take (aCons (eVar 0) (aCons (eCB rLen (aCons (eVar 1) aNil)) aNil))) aNil)) aNil)))
def s_law_plan_4 : TS := (sFor (iRng (aCons (eBin rAdd (eC (.int 1)) (eCall sp_law_take (aCons (eVar 0) (aCons (eBin rIx (eLst (aCons (eC (.int 3)) (aCons (eC (.int 4)) aNil))) (eCall sp_law_take (aCons (eVar 0) (aCons (eC (.int 2)) aNil)))) aNil)))) aNil)) (gName 3) s_law_plan_3)
def s_law_plan_5 : TS := (sAsg (eLst aNil) (gName 4))
def s_law_plan_6 : TS := (sDrop (eBM rAppend (eVar 4) (aCons (eBM rPopAt (eVar 1) (aCons (eCall sp_law_take (aCons (eVar 0) (aCons (eCB rLen (aCons (eVar 1) aNil)) aNil))) aNil)) aNil)))
def s_law_plan_7 : TS := (sIf (tVal (eBin rGt (eCB rLen (aCons (eVar 1) aNil)) (eC (.int 1)))) s_law_plan_6 sNext)
def s_law_plan_8 : TS := (sFor (iRng (aCons (eCall sp_law_take (aCons (eVar 0) (aCons (eC (.int 3)) aNil))) aNil)) (gName 5) s_law_plan_7)
def s_law_plan_9 : TS := (sRet (eTup (aCons (eVar 6) (aCons (eVar 7) (aCons (eCB rTuple (aCons (eVar 2) aNil)) (aCons (eCB rTuple (aCons (eVar 4) aNil)) aNil))))))
def r_law_plan : TS := (sSeq s_law_plan_0 (sSeq s_law_plan_1 (sSeq s_law_plan_2 (sSeq s_law_plan_4 (sSeq s_law_plan_5 (sSeq s_law_plan_8 s_law_plan_9))))))
def s_law_hand_0 : TS := (sRet (eBin rIx (eLst (aCons (eC (.str "n")) (aCons (eC (.str "e")) (aCons (eC (.str "s")) (aCons (eC (.str "w")) (aCons (eC (.str "mark")) (aCons (eC (.str "")) aNil))))))) (eCall sp_law_take (aCons (eVar 0) (aCons (eC (.int 6)) aNil)))))
def r_law_hand : TS := s_law_hand_0
def s_law_first_0 : TS := (sAsg (eBin rMul (eLst (aCons (eC (.int 0)) aNil)) (eBin rMul (eBin rIx (eVar 0) (eC (.int 0))) (eBin rIx (eVar 0) (eC (.int 1))))) (gName 1))
def s_law_first_1 : TS := (sAsg (eUn rNeg (eC (.int 1))) (gSub (eVar 1) (eBin rAdd (eBin rMul (eVar 4) (eBin rIx (eVar 0) (eC (.int 0)))) (eVar 3))))
def s_law_first_2 : TS := (sFor (iSeq (eBin rIx (eVar 0) (eC (.int 3)))) (gTup 2 (gCons (gName 3) (gCons (gName 4) gNil))) s_law_first_1)
def s_law_first_3 : TS := (sAsg (eBin rIx (eBin rIx (eVar 0) (eC (.int 2))) (eVar 2)) (gTup 2 (gCons (gName 3) (gCons (gName 4) gNil))))
def s_law_first_4 : TS := (sAsg (eBin rAdd (eBin rMul (eC (.int 11)) (eVar 2)) (eC (.int 11))) (gSub (eVar 1) (eBin rAdd (eBin rMul (eVar 4) (eBin rIx (eVar 0) (eC (.int 0)))) (eVar 3))))
def s_law_first_5 : TS := (sFor (iRng (aCons (eCB rLen (aCons (eBin rIx (eVar 0) (eC (.int 2))) aNil)) aNil)) (gName 2) (sSeq s_law_first_3 s_law_first_4))
def s_law_first_6 : TS := (sRet (eCB rTuple (aCons (eVar 1) aNil)))
def r_law_first : TS := (sSeq s_law_first_0 (sSeq s_law_first_2 (sSeq s_law_first_5 s_law_first_6)))
def s_law_beside_0 : TS := (sAsg (eVar 1) (gTup 2 (gCons (gName 3) (gCons (gName 4) gNil))))
def s_law_beside_1 : TS := (sAsg eDK (gName 2))
def s_law_beside_2 : TS := (sAsg (eVar 6) (gSub (eVar 2) (eVar 5)))
def s_law_beside_3 : TS := (sIf (tAnd (tVal (eChain rLe rLt (eC (.int 0)) (eBin rIx (eVar 6) (eC (.int 0))) (eBin rIx (eVar 0) (eC (.int 0))))) (tAnd (tVal (eChain rLe rLt (eC (.int 0)) (eBin rIx (eVar 6) (eC (.int 1))) (eBin rIx (eVar 0) (eC (.int 1))))) (tVal (eBin rNotIn (eVar 6) (eBin rIx (eVar 0) (eC (.int 3))))))) s_law_beside_2 sNext)
def s_law_beside_4 : TS := (sFor (iSeq (eTup (aCons (eTup (aCons (eC (.str "n")) (aCons (eTup (aCons (eVar 3) (aCons (eBin rSub (eVar 4) (eC (.int 1))) aNil))) aNil))) (aCons (eTup (aCons (eC (.str "e")) (aCons (eTup (aCons (eBin rAdd (eVar 3) (eC (.int 1))) (aCons (eVar 4) aNil))) aNil))) (aCons (eTup (aCons (eC (.str "s")) (aCons (eTup (aCons (eVar 3) (aCons (eBin rAdd (eVar 4) (eC (.int 1))) aNil))) aNil))) (aCons (eTup (aCons (eC (.str "w")) (aCons (eTup (aCons (eBin rSub (eVar 3) (eC (.int 1))) (aCons (eVar 4) aNil))) aNil))) aNil)))))) (gTup 2 (gCons (gName 5) (gCons (gName 6) gNil))) s_law_beside_3)
def s_law_beside_5 : TS := (sRet (eVar 2))
def r_law_beside : TS := (sSeq s_law_beside_0 (sSeq s_law_beside_1 (sSeq s_law_beside_4 s_law_beside_5)))
def s_law_gone_0 : TS := (sAsg (eTup (aCons eDT (aCons eDK aNil))) (gTup 2 (gCons (gName 8) (gCons (gName 9) gNil))))
def s_law_gone_1 : TS := (sAsg (eBin rDiv (eBin rIx (eVar 1) (eVar 4)) (eC (.int 10))) (gSub (eVar 8) (eTup (aCons (eBin rMod (eVar 4) (eBin rIx (eVar 0) (eC (.int 0)))) (aCons (eBin rDiv (eVar 4) (eBin rIx (eVar 0) (eC (.int 0)))) aNil)))))
def s_law_gone_2 : TS := (sAsg (eTup (aCons (eBin rMod (eVar 4) (eBin rIx (eVar 0) (eC (.int 0)))) (aCons (eBin rDiv (eVar 4) (eBin rIx (eVar 0) (eC (.int 0)))) aNil))) (gSub (eVar 9) (eBin rSub (eBin rMod (eBin rIx (eVar 1) (eVar 4)) (eC (.int 10))) (eC (.int 1)))))
def s_law_gone_3 : TS := (sIf (tVal (eBin rGt (eBin rMod (eBin rIx (eVar 1) (eVar 4)) (eC (.int 10))) (eC (.int 0)))) s_law_gone_2 sNext)
def s_law_gone_4 : TS := (sIf (tVal (eBin rGe (eBin rIx (eVar 1) (eVar 4)) (eC (.int 0)))) (sSeq s_law_gone_1 s_law_gone_3) sNext)
def s_law_gone_5 : TS := (sFor (iRng (aCons (eCB rLen (aCons (eVar 1) aNil)) aNil)) (gName 4) s_law_gone_4)
def s_law_gone_6 : TS := (sAsg (eCB rLen (aCons (eVar 9) aNil)) (gName 5))
def s_law_gone_7 : TS := (sAsg (eTup (aCons (eCall sp_law_beside (aCons (eVar 0) (aCons (eBin rIx (eVar 9) (eVar 6)) aNil))) (aCons (eUn rListVals (eVar 9)) aNil))) (gTup 2 (gCons (gName 13) (gCons (gName 14) gNil))))
def s_law_gone_8 : TS := (sAsg (eBin rAdd (eVar 6) (eC (.int 1))) (gSub (eVar 8) (eVar 15)))
def s_law_gone_9 : TS := (sFor (iSeq (eLock 13 (eLc (iVals (eVar 13)) (gName 15) (tVal (eBin rNotIn (eVar 15) (eVar 14))) (eVar 15) [15]))) (gName 15) s_law_gone_8)
def s_law_gone_10 : TS := (sAsg (eBin rIx (eVar 13) (eBin rIx (eVar 3) (eVar 6))) (gSub (eVar 9) (eVar 6)))
def s_law_gone_11 : TS := (sAsg (eBin rAdd (eVar 6) (eC (.int 1))) (gSub (eVar 8) (eBin rIx (eVar 9) (eVar 6))))
def s_law_gone_12 : TS := (sIf (tVal (eBin rNotIn (eDM rGet2 (eVar 13) (aCons (eBin rIx (eVar 3) (eVar 6)) (aCons (eBin rIx (eVar 9) (eVar 6)) aNil))) (eVar 14))) (sSeq s_law_gone_10 s_law_gone_11) sNext)
def s_law_gone_13 : TS := (sIf (tVal (eBin rEq (eBin rIx (eVar 3) (eVar 6)) (eC (.str "mark")))) s_law_gone_9 s_law_gone_12)
def s_law_gone_14 : TS := (sFor (iSeq (eLc (iRng (aCons (eBin rMod (eVar 2) (eVar 5)) (aCons (eBin rAdd (eBin rMod (eVar 2) (eVar 5)) (eVar 5)) aNil))) (gName 4) tYes (eBin rMod (eVar 4) (eVar 5)) [4])) (gName 6) (sSeq s_law_gone_7 s_law_gone_13))
def s_law_gone_15 : TS := (sAsg (eCB rList (aCons (eVar 1) aNil)) (gName 7))
def s_law_gone_16 : TS := (sLock 9 (sAsg (eLc (iSeq (eVar 9)) (gName 6) (tVal (eBin rEq (eBin rIx (eVar 9) (eVar 6)) (eTup (aCons (eVar 10) (aCons (eVar 11) aNil))))) (eBin rAdd (eVar 6) (eC (.int 1))) [6]) (gName 12)))
def s_law_gone_17 : TS := (sAsg (eBin rAdd (eBin rMul (eC (.int 10)) (eBin rIx (eVar 8) (eTup (aCons (eVar 10) (aCons (eVar 11) aNil))))) (eCB rSum (aCons (eVar 12) aNil))) (gSub (eVar 7) (eBin rAdd (eBin rMul (eVar 11) (eBin rIx (eVar 0) (eC (.int 0)))) (eVar 10))))
def s_law_gone_18 : TS := (sLock 8 (sFor (iSeq (eVar 8)) (gTup 2 (gCons (gName 10) (gCons (gName 11) gNil))) (sSeq s_law_gone_16 s_law_gone_17)))
def s_law_gone_19 : TS := (sRet (eCB rTuple (aCons (eVar 7) aNil)))
def r_law_gone : TS := (sSeq s_law_gone_0 (sSeq s_law_gone_5 (sSeq s_law_gone_6 (sSeq s_law_gone_14 (sSeq s_law_gone_15 (sSeq s_law_gone_18 s_law_gone_19))))))
def s_law_made_up_0 : TS := (sAsg (eLst aNil) (gName 2))
def s_law_made_up_1 : TS := (sAsg (eBin rIn (eTup (aCons (eBin rMod (eVar 3) (eBin rIx (eVar 1) (eC (.int 0)))) (aCons (eBin rDiv (eVar 3) (eBin rIx (eVar 1) (eC (.int 0)))) aNil))) (eBin rIx (eVar 1) (eC (.int 3)))) (gName 6))
def s_law_made_up_2 : TS := (sDrop (eBM rAppend (eVar 2) (aCons (eIf (tVal (eVar 6)) (eUn rNeg (eC (.int 1))) (eBin rMul (eC (.int 10)) (eCall sp_law_take (aCons (eVar 0) (aCons (eBin rAdd (eCB rLen (aCons (eBin rIx (eVar 1) (eC (.int 2))) aNil)) (eC (.int 1))) aNil))))) aNil)))
def s_law_made_up_3 : TS := (sFor (iRng (aCons (eBin rMul (eBin rIx (eVar 1) (eC (.int 0))) (eBin rIx (eVar 1) (eC (.int 1)))) aNil)) (gName 3) (sSeq s_law_made_up_1 s_law_made_up_2))
def s_law_made_up_4 : TS := (sAsg (eLc (iRng (aCons (eCB rLen (aCons (eVar 2) aNil)) aNil)) (gName 3) (tVal (eBin rGe (eBin rIx (eVar 2) (eVar 3)) (eC (.int 0)))) (eVar 3) [3]) (gName 4))
def s_law_made_up_5 : TS := (sAsg (eBM rPopAt (eVar 4) (aCons (eCall sp_law_take (aCons (eVar 0) (aCons (eCB rLen (aCons (eVar 4) aNil)) aNil))) aNil)) (gName 3))
def s_law_made_up_6 : TS := (sAsg (eBin rAdd (eBin rAdd (eBin rIx (eVar 2) (eVar 3)) (eVar 5)) (eC (.int 1))) (gSub (eVar 2) (eVar 3)))
def s_law_made_up_7 : TS := (sFor (iRng (aCons (eCB rLen (aCons (eBin rIx (eVar 1) (eC (.int 2))) aNil)) aNil)) (gName 5) (sSeq s_law_made_up_5 s_law_made_up_6))
def s_law_made_up_8 : TS := (sRet (eCB rTuple (aCons (eVar 2) aNil)))
def r_law_made_up : TS := (sSeq s_law_made_up_0 (sSeq s_law_made_up_3 (sSeq s_law_made_up_4 (sSeq s_law_made_up_7 s_law_made_up_8))))
def s_law_0 : TS := (sAsg (eCall sp_law_begun (aCons (eVar 0) aNil)) (gName 1))
def s_law_1 : TS := (sAsg (eCall sp_law_plan (aCons (eVar 1) aNil)) (gName 3))
def s_law_2 : TS := (sAsg (eCall sp_law_first (aCons (eVar 3) aNil)) (gName 4))
def s_law_3 : TS := (sRet (eC (.bl false)))
def s_law_4 : TS := (sIf (tNot (tVal (eCall sp_law_alike (aCons (eCall sp_begun (aCons (eVar 3) aNil)) (aCons (eVar 4) aNil))))) s_law_3 sNext)
def s_law_5 : TS := (sAsg (eCall sp_law_made_up (aCons (eVar 1) (aCons (eVar 3) aNil))) (gName 4))
def s_law_6 : TS := (sIf (tVal (eBin rEq (eCall sp_law_take (aCons (eVar 1) (aCons (eC (.int 2)) aNil))) (eC (.int 0)))) s_law_5 sNext)
def s_law_7 : TS := (sAsg (eBin rIx (eLst (aCons (eC (.int 1)) (aCons (eBin rAdd (eC (.int 1)) (eCall sp_law_take (aCons (eVar 1) (aCons (eC (.int 9980)) aNil)))) aNil))) (eCall sp_law_take (aCons (eVar 1) (aCons (eC (.int 2)) aNil)))) (gName 5))
def s_law_8 : TS := (sAsg (eCB rTuple (aCons (eLc (iSeq (eBin rIx (eVar 3) (eC (.int 2)))) (gName 12) tYes (eCall sp_law_hand (aCons (eVar 1) aNil)) [12]) aNil)) (gName 7))
def s_law_9 : TS := (sAsg (eCall sp_law_gone (aCons (eVar 3) (aCons (eVar 4) (aCons (eVar 6) (aCons (eVar 7) aNil))))) (gName 8))
def s_law_10 : TS := (sRet (eC (.bl false)))
def s_law_11 : TS := (sIf (tNot (tVal (eCall sp_law_alike (aCons (eCall sp_after (aCons (eVar 3) (aCons (eVar 4) (aCons (eVar 6) (aCons (eVar 7) aNil))))) (aCons (eVar 8) aNil))))) s_law_10 sNext)
def s_law_12 : TS := (sFor (iRng (aCons (eC (.int 2)) aNil)) (gName 9) s_law_11)
def s_law_13 : TS := (sAsg (eVar 8) (gName 4))
def s_law_14 : TS := (sAsg (eLc (iSeq (eVar 4)) (gName 11) (tVal (eBin rGe (eVar 11) (eC (.int 0)))) (eBin rSub (eBin rDiv (eVar 11) (eC (.int 10))) (eC (.int 1))) [11]) (gName 10))
def s_law_15 : TS := (sRet (eC (.bl false)))
def s_law_16 : TS := (sIf (tNot (tVal (eCall sp_law_alike (aCons (eCall sp_points (aCons (eVar 3) (aCons (eVar 4) aNil))) (aCons (eCB rTuple (aCons (eLc (iRng (aCons (eCB rLen (aCons (eBin rIx (eVar 3) (eC (.int 2))) aNil)) aNil)) (gName 12) tYes (eBM rCount (eVar 10) (aCons (eVar 12) aNil)) [12]) aNil)) aNil))))) s_law_15 sNext)
def s_law_17 : TS := (sFor (iRng (aCons (eVar 5) (aCons (eBin rAdd (eVar 5) (eCall sp_law_take (aCons (eVar 1) (aCons (eC (.int 13)) aNil)))) aNil))) (gName 6) (sSeq s_law_8 (sSeq s_law_9 (sSeq s_law_12 (sSeq s_law_13 (sSeq s_law_14 s_law_16))))))
def s_law_18 : TS := (sFor (iRng (aCons (eC (.int 3)) aNil)) (gName 2) (sSeq s_law_1 (sSeq s_law_2 (sSeq s_law_4 (sSeq s_law_6 (sSeq s_law_7 s_law_17))))))
def s_law_19 : TS := (sRet (eC (.bl true)))
def r_law : TS := (sSeq s_law_0 (sSeq s_law_18 s_law_19))
end F
set_option linter.all false
set_option maxRecDepth 100000
namespace F
open PySem (Str PyData)
theorem u_is_number {x lo hi : Int} {h : Hp} {Q : KV} {E : Xc → Hp → Prop} : sp_is_number [.int x, .int lo, .int hi] h Q E = Q (.bl (decide (lo ≤ x) && decide (x ≤ hi))) h := rfl
theorem ok_is_number : ∀ ds h Q E, sp_is_number ds h Q E → r_is_number (outE Q E) (start2 3 ds) h := by
  intro ds h Q E q
  unfold sp_is_number at q
  split at q
  · rename_i x lo hi
    show r_is_number (outE Q E) [some (.int x), some (.int lo), some (.int hi)] h
    simp only [r_is_number, s_is_number_0, eVar, eC, eBin, eUn, rAdd, rSub, rMul, rDiv, rMod, rNeg, rLt, rLe, rGt, rGe, eqii, eqss, eqnn, eqni, eqin, eqbb, rNe, rIsN, rIsNotN, rIsB, rIsNotB, D.isNon, tVal, tAnd, tOr, tNot, eAnd, eOr, eNot, eIf, eChain, aNil, aCons, eTup, eLst, eDK, eDT, eCall, eCB, eBM, eDM, rLen, rIsA, isA, rList, rTuple, rInt, rMax2, gName, gTup, gCons, gNil, gSub, sNext, sSeq, sBreak, sCont, sAsg, sPar, sAug, sDrop, sRet, sRetN, sIf, outE, sg, ss, sw, swipe, tYes, isLst, isDct]
    by_cases e1 : lo ≤ x <;> by_cases e2 : x ≤ hi <;> simp only [e1, e2, decide_true, decide_false, Bool.and_true, Bool.and_false, if_true, if_false, Bool.true_and, Bool.false_and, Bool.false_eq_true] at q ⊢ <;> simp <;> exact ⟨h, Sub.refl h, q⟩
  · exact q.elim
theorem ok_need_count : ∀ ds h Q E, sp_need_count ds h Q E → r_need_count (outE Q E) (start2 3 ds) h := by
  intro ds h Q E q
  unfold sp_need_count at q
  split at q
  · rename_i x lo hi
    show r_need_count (outE Q E) [some (.int x), some (.int lo), some (.int hi)] h
    simp only [r_need_count, s_need_count_1, eVar, eC, eBin, eUn, rAdd, rSub, rMul, rDiv, rMod, rNeg, rLt, rLe, rGt, rGe, eqii, eqss, eqnn, eqni, eqin, eqbb, rNe, rIsN, rIsNotN, rIsB, rIsNotB, D.isNon, tVal, tAnd, tOr, tNot, eAnd, eOr, eNot, eIf, eChain, aNil, aCons, eTup, eLst, eDK, eDT, eCall, eCB, eBM, eDM, rLen, rIsA, isA, rList, rTuple, rInt, rMax2, gName, gTup, gCons, gNil, gSub, sNext, sSeq, sBreak, sCont, sAsg, sPar, sAug, sDrop, sRet, sRetN, sIf, outE, sg, ss, sw, swipe, tYes, isLst, isDct, u_is_number, q.1, decide_true]
    simp
    exact ⟨h, Sub.refl h, q.2⟩
  · exact q.elim
theorem toP_str {h : Hp} {n : Nat} {x : Str} : toP h n (.str x) = if okS x = true then some (.str x) else none := by cases n <;> rfl
theorem omap_hands {h : Hp} : omap (toP h 9) [(.str "n"), (.str "e"), (.str "s"), (.str "w"), (.str "mark"), (.str "")] = some (handsS.map .str) := by
  simp only [omap, toP_str]
  rfl
theorem hands_okS {x : Str} (m : x ∈ handsS) : okS x = true := by
  simp only [handsS, List.mem_cons, List.not_mem_nil, or_false] at m
  rcases m with rfl | rfl | rfl | rfl | rfl | rfl <;> rfl
theorem in_hands {x : Str} {h : Hp} {Q : KV} (m : x ∈ handsS) : rIn (.str x) g_HANDS h Q = Q (.bl true) h := by
  unfold g_HANDS
  unfold rIn
  simp only [toP_str, omap_hands, hands_okS m, if_true]
  have : ((handsS.map PyData.str).any fun q => peq q (.str x)) = true := by
    rw [List.any_eq_true]
    exact ⟨.str x, List.mem_map_of_mem m, by simp [peq]⟩
  rw [this]
theorem ok_need_hand : ∀ ds h Q E, sp_need_hand ds h Q E → r_need_hand (outE Q E) (start2 1 ds) h := by
  intro ds h Q E q
  unfold sp_need_hand at q
  split at q
  · rename_i x
    show r_need_hand (outE Q E) [some (.str x)] h
    simp only [r_need_hand, s_need_hand_1, eVar, eC, eBin, eUn, rAdd, rSub, rMul, rDiv, rMod, rNeg, rLt, rLe, rGt, rGe, eqii, eqss, eqnn, eqni, eqin, eqbb, rNe, rIsN, rIsNotN, rIsB, rIsNotB, D.isNon, tVal, tAnd, tOr, tNot, eAnd, eOr, eNot, eIf, eChain, aNil, aCons, eTup, eLst, eDK, eDT, eCall, eCB, eBM, eDM, rLen, rIsA, isA, rList, rTuple, rInt, rMax2, gName, gTup, gCons, gNil, gSub, sNext, sSeq, sBreak, sCont, sAsg, sPar, sAug, sDrop, sRet, sRetN, sIf, outE, sg, ss, sw, swipe, tYes, isLst, isDct, rNotIn, in_hands q.1]
    simp
    exact ⟨h, Sub.refl h, q.2⟩
  · exact q.elim
theorem u_is_cell {c : Cell} {w hh : Int} {h : Hp} {Q : KV} {E : Xc → Hp → Prop} : sp_is_cell [cellD c, .int w, .int hh] h Q E = Q (.bl (decide (0 ≤ c.1 ∧ c.1 < w ∧ 0 ≤ c.2 ∧ c.2 < hh))) h := by
  unfold sp_is_cell
  apply propext
  constructor
  · rintro ⟨c', w', h', e, q⟩
    simp only [List.cons.injEq, cellD_inj, D.int.injEq, and_true] at e
    obtain ⟨rfl, rfl, rfl⟩ := e
    exact q
  · exact fun q => ⟨c, w, hh, rfl, q⟩
theorem ok_is_cell : ∀ ds h Q E, sp_is_cell ds h Q E → r_is_cell (outE Q E) (start2 3 ds) h := by
  rintro ds h Q E ⟨c, w, hh, rfl, q⟩
  show r_is_cell (outE Q E) [some (cellD c), some (.int w), some (.int hh)] h
  have e1 : isA h (cellD c) .tuple = some true := rfl
  have e2 : rLen [cellD c] h = fun Q => Q (.int 2) h := rfl
  simp only [r_is_cell, s_is_cell_0, s_is_cell_1, s_is_cell_2, eVar, eC, eBin, eUn, rAdd, rSub, rMul, rDiv, rMod, rNeg, rLt, rLe, rGt, rGe, eqii, eqss, eqnn, eqni, eqin, eqbb, rNe, rIsN, rIsNotN, rIsB, rIsNotB, D.isNon, tVal, tAnd, tOr, tNot, eAnd, eOr, eNot, eIf, eChain, aNil, aCons, eTup, eLst, eDK, eDT, eCall, eCB, eBM, eDM, rLen, rIsA, isA, rList, rTuple, rInt, rMax2, gName, gTup, gCons, gNil, gSub, sNext, sSeq, sBreak, sCont, sAsg, sPar, sAug, sDrop, sRet, sRetN, sIf, outE, sg, ss, sw, swipe, tYes, isLst, isDct, c0, c1, u_is_number, cellD]
  simp
  simp only [ix0, ix1, u_is_number]
  by_cases h1 : 0 ≤ c.1 ∧ c.1 < w
  · have a1 : c.1 ≤ w - 1 := by omega
    simp only [h1.1, a1, decide_true, Bool.and_true, if_true]
    refine ⟨h, Sub.refl h, ?_⟩
    have : (decide (0 ≤ c.2) && decide (c.2 ≤ hh - 1)) = decide (0 ≤ c.1 ∧ c.1 < w ∧ 0 ≤ c.2 ∧ c.2 < hh) := by
      rw [Bool.eq_iff_iff]; simp; omega
    rw [this]; exact q
  · have a1 : (decide (0 ≤ c.1) && decide (c.1 ≤ w - 1)) = false := by
      rw [Bool.eq_false_iff]; simp; omega
    simp only [a1, Bool.false_eq_true, if_false]
    refine ⟨h, Sub.refl h, ?_⟩
    have : decide (0 ≤ c.1 ∧ c.1 < w ∧ 0 ≤ c.2 ∧ c.2 < hh) = false := by simp; omega
    rw [this] at q; exact q
theorem u_many_of {p : Plan} {h : Hp} {Q : KV} {E : Xc → Hp → Prop} : sp_many_of [planD p] h Q E = Q (.int p.many) h := by
  unfold sp_many_of
  simp [planD_inj]
theorem ok_many_of : ∀ ds h Q E, sp_many_of ds h Q E → r_many_of (outE Q E) (start2 1 ds) h := by
  rintro ds h Q E ⟨p, rfl, q⟩
  show r_many_of (outE Q E) [some (planD p)] h
  simp only [r_many_of, s_many_of_0, eVar, eC, eBin, eUn, rAdd, rSub, rMul, rDiv, rMod, rNeg, rLt, rLe, rGt, rGe, eqii, eqss, eqnn, eqni, eqin, eqbb, rNe, rIsN, rIsNotN, rIsB, rIsNotB, D.isNon, tVal, tAnd, tOr, tNot, eAnd, eOr, eNot, eIf, eChain, aNil, aCons, eTup, eLst, eDK, eDT, eCall, eCB, eBM, eDM, rLen, rIsA, isA, rList, rTuple, rInt, rMax2, gName, gTup, gCons, gNil, gSub, sNext, sSeq, sBreak, sCont, sAsg, sPar, sAug, sDrop, sRet, sRetN, sIf, outE, sg, ss, sw, swipe, tYes, isLst, isDct, p2, List.length_map]
  exact ⟨h, Sub.refl h, q⟩
theorem u_spot_of {p : Plan} {c : Cell} {h : Hp} {Q : KV} {E : Xc → Hp → Prop} (ok : p.Ok) : sp_spot_of [planD p, cellD c] h Q E = Q (.int (spot p c)) h := by
  unfold sp_spot_of
  apply propext
  constructor
  · rintro ⟨p', c', e, _, q⟩
    simp only [List.cons.injEq, cellD_inj, planD_inj, and_true] at e
    obtain ⟨rfl, rfl⟩ := e
    exact q
  · exact fun q => ⟨p, c, rfl, ok, q⟩
theorem ok_spot_of : ∀ ds h Q E, sp_spot_of ds h Q E → r_spot_of (outE Q E) (start2 2 ds) h := by
  rintro ds h Q E ⟨p, c, rfl, ok, q⟩
  show r_spot_of (outE Q E) [some (planD p), some (cellD c)] h
  simp only [r_spot_of, s_spot_of_0, eVar, eC, eBin, eUn, rAdd, rSub, rMul, rDiv, rMod, rNeg, rLt, rLe, rGt, rGe, eqii, eqss, eqnn, eqni, eqin, eqbb, rNe, rIsN, rIsNotN, rIsB, rIsNotB, D.isNon, tVal, tAnd, tOr, tNot, eAnd, eOr, eNot, eIf, eChain, aNil, aCons, eTup, eLst, eDK, eDT, eCall, eCB, eBM, eDM, rLen, rIsA, isA, rList, rTuple, rInt, rMax2, gName, gTup, gCons, gNil, gSub, sNext, sSeq, sBreak, sCont, sAsg, sPar, sAug, sDrop, sRet, sRetN, sIf, outE, sg, ss, sw, swipe, tYes, isLst, isDct, p0, c0, c1]
  have := ok.w2; have := ok.w6
  exact ⟨.inr ⟨by omega, by omega⟩, h, Sub.refl h, q⟩
theorem u_cell_of {p : Plan} {n : Int} {h : Hp} {Q : KV} {E : Xc → Hp → Prop} (ok : p.Ok) : sp_cell_of [planD p, .int n] h Q E = Q (cellD (n % p.w, n / p.w)) h := by
  unfold sp_cell_of
  apply propext
  constructor
  · rintro ⟨p', c', e, _, q⟩
    simp only [List.cons.injEq, D.int.injEq, planD_inj, and_true] at e
    obtain ⟨rfl, rfl⟩ := e
    exact q
  · exact fun q => ⟨p, n, rfl, ok, q⟩
theorem ok_cell_of : ∀ ds h Q E, sp_cell_of ds h Q E → r_cell_of (outE Q E) (start2 2 ds) h := by
  rintro ds h Q E ⟨p, n, rfl, ok, q⟩
  show r_cell_of (outE Q E) [some (planD p), some (.int n)] h
  have := ok.w2; have := ok.w6
  simp only [r_cell_of, s_cell_of_0, eVar, eC, eBin, eUn, rAdd, rSub, rMul, rDiv, rMod, rNeg, rLt, rLe, rGt, rGe, eqii, eqss, eqnn, eqni, eqin, eqbb, rNe, rIsN, rIsNotN, rIsB, rIsNotB, D.isNon, tVal, tAnd, tOr, tNot, eAnd, eOr, eNot, eIf, eChain, aNil, aCons, eTup, eLst, eDK, eDT, eCall, eCB, eBM, eDM, rLen, rIsA, isA, rList, rTuple, rInt, rMax2, gName, gTup, gCons, gNil, gSub, sNext, sSeq, sBreak, sCont, sAsg, sPar, sAug, sDrop, sRet, sRetN, sIf, outE, sg, ss, sw, swipe, tYes, isLst, isDct, p0]
  exact ⟨by omega, ⟨by omega, by omega⟩, by simp [line], h, Sub.refl h, q⟩
theorem u_code {o m : Int} {h : Hp} {Q : KV} {E : Xc → Hp → Prop} : sp_code [.int o, .int m] h Q E = Q (.int ((o + 1) * 10 + m + 1)) h := rfl
theorem u_owner_of {o : Int} {h : Hp} {Q : KV} {E : Xc → Hp → Prop} : sp_owner_of [.int o] h Q E = Q (.int (o / 10 - 1)) h := rfl
theorem u_mover_of {o : Int} {h : Hp} {Q : KV} {E : Xc → Hp → Prop} : sp_mover_of [.int o] h Q E = Q (.int (o % 10 - 1)) h := rfl
theorem ok_code : ∀ ds h Q E, sp_code ds h Q E → r_code (outE Q E) (start2 2 ds) h := by
  intro ds h Q E q
  unfold sp_code at q
  split at q
  · rename_i o m
    show r_code (outE Q E) [some (.int o), some (.int m)] h
    simp only [r_code, s_code_0, eVar, eC, eBin, eUn, rAdd, rSub, rMul, rDiv, rMod, rNeg, rLt, rLe, rGt, rGe, eqii, eqss, eqnn, eqni, eqin, eqbb, rNe, rIsN, rIsNotN, rIsB, rIsNotB, D.isNon, tVal, tAnd, tOr, tNot, eAnd, eOr, eNot, eIf, eChain, aNil, aCons, eTup, eLst, eDK, eDT, eCall, eCB, eBM, eDM, rLen, rIsA, isA, rList, rTuple, rInt, rMax2, gName, gTup, gCons, gNil, gSub, sNext, sSeq, sBreak, sCont, sAsg, sPar, sAug, sDrop, sRet, sRetN, sIf, outE, sg, ss, sw, swipe, tYes, isLst, isDct, g_SHARE]
    exact ⟨.inr ⟨by omega, by omega⟩, h, Sub.refl h, q⟩
  · exact q.elim
theorem ok_owner_of : ∀ ds h Q E, sp_owner_of ds h Q E → r_owner_of (outE Q E) (start2 1 ds) h := by
  intro ds h Q E q
  unfold sp_owner_of at q
  split at q
  · rename_i o
    show r_owner_of (outE Q E) [some (.int o)] h
    simp only [r_owner_of, s_owner_of_0, eVar, eC, eBin, eUn, rAdd, rSub, rMul, rDiv, rMod, rNeg, rLt, rLe, rGt, rGe, eqii, eqss, eqnn, eqni, eqin, eqbb, rNe, rIsN, rIsNotN, rIsB, rIsNotB, D.isNon, tVal, tAnd, tOr, tNot, eAnd, eOr, eNot, eIf, eChain, aNil, aCons, eTup, eLst, eDK, eDT, eCall, eCB, eBM, eDM, rLen, rIsA, isA, rList, rTuple, rInt, rMax2, gName, gTup, gCons, gNil, gSub, sNext, sSeq, sBreak, sCont, sAsg, sPar, sAug, sDrop, sRet, sRetN, sIf, outE, sg, ss, sw, swipe, tYes, isLst, isDct, g_SHARE]
    exact ⟨⟨by omega, by omega⟩, h, Sub.refl h, q⟩
  · exact q.elim
theorem ok_mover_of : ∀ ds h Q E, sp_mover_of ds h Q E → r_mover_of (outE Q E) (start2 1 ds) h := by
  intro ds h Q E q
  unfold sp_mover_of at q
  split at q
  · rename_i o
    show r_mover_of (outE Q E) [some (.int o)] h
    simp only [r_mover_of, s_mover_of_0, eVar, eC, eBin, eUn, rAdd, rSub, rMul, rDiv, rMod, rNeg, rLt, rLe, rGt, rGe, eqii, eqss, eqnn, eqni, eqin, eqbb, rNe, rIsN, rIsNotN, rIsB, rIsNotB, D.isNon, tVal, tAnd, tOr, tNot, eAnd, eOr, eNot, eIf, eChain, aNil, aCons, eTup, eLst, eDK, eDT, eCall, eCB, eBM, eDM, rLen, rIsA, isA, rList, rTuple, rInt, rMax2, gName, gTup, gCons, gNil, gSub, sNext, sSeq, sBreak, sCont, sAsg, sPar, sAug, sDrop, sRet, sRetN, sIf, outE, sg, ss, sw, swipe, tYes, isLst, isDct, g_SHARE]
    exact ⟨by omega, h, Sub.refl h, q⟩
  · exact q.elim
theorem u_need_plan {p : Plan} {h : Hp} {Q : KV} {E : Xc → Hp → Prop} (ok : p.Ok) : sp_need_plan [planD p] h Q E = Q .non h := by
  unfold sp_need_plan
  simp only [List.cons.injEq, planD_inj, and_true]
  apply propext
  constructor
  · rintro ⟨_, rfl, _, q⟩; exact q
  · exact fun q => ⟨p, rfl, ok, q⟩
end F

set_option linter.all false
set_option maxRecDepth 100000
namespace F
open PySem (Str PyData)
theorem enum_getP {xs : List D} {i : Nat} {x : D} (e : (enum xs)[i]? = some x) : ∃ y, xs[i]? = some y ∧ x = .tup [.int (i : Int), y] := by
  unfold enum at e
  rw [List.getElem?_zipWith] at e
  cases e1 : xs[i]? with
  | none => rw [e1] at e; simp at e
  | some y =>
    have hl : i < xs.length := by
      rcases Nat.lt_or_ge i xs.length with z | z
      · exact z
      · rw [List.getElem?_eq_none z] at e1; cases e1
    rw [e1, List.getElem?_range hl] at e
    exact ⟨y, rfl, (Option.some.inj e).symm⟩
theorem enum_lengthP {xs : List D} : (enum xs).length = xs.length := by simp [enum]
theorem map_get {α : Type} {f : α → D} {xs : List α} {i : Nat} {x : D} (e : (xs.map f)[i]? = some x) : ∃ y, xs[i]? = some y ∧ x = f y := by
  rw [List.getElem?_map] at e
  cases e1 : xs[i]? with
  | none => rw [e1] at e; cases e
  | some y => rw [e1] at e; exact ⟨y, rfl, (Option.some.inj e).symm⟩
theorem cells_take {cs : List Cell} {i : Nat} : cutD (cs.map cellD) none (some (i : Int)) = (cs.take i).map cellD := by
  have : ¬ ((i : Int) < 0) := by omega
  unfold cutD sIx
  simp only [if_neg this, List.drop_zero, Nat.sub_zero, List.length_map, Int.toNat_natCast, List.map_take]
  rcases Nat.le_total i cs.length with z | z
  · rw [Nat.min_eq_left z]
  · rw [Nat.min_eq_right z, List.take_of_length_le (by simp), List.take_of_length_le (by simpa using z)]
theorem eq_nilT {cs : List Cell} {h : Hp} {Q : KV} : rEq (.tup (cs.map cellD)) (.tup []) h Q = Q (.bl (decide (cs = []))) h := by
  unfold rEq
  have e1 : toP h 9 (.tup (cs.map cellD)) = some (.tuple (cs.map cellP)) := by
    show (match omap (toP h 8) (cs.map cellD) with
      | some ps => some (PyData.tuple ps)
      | none => none) = _
    rw [omap_cells]
  have e2 : toP h 9 (.tup []) = some (.tuple []) := rfl
  simp only [e1, e2]
  have : peq (PyData.tuple (cs.map cellP)) (PyData.tuple []) = decide (cs = []) := by
    cases cs <;> simp [peq, peqs]
  rw [this]
theorem nd_take {α : Type} [DecidableEq α] {xs : List α} {i : Nat} {x : α} (nd : xs.Nodup) (e : xs[i]? = some x) : x ∉ xs.take i := by
  intro m
  obtain ⟨j, hj, e2⟩ := List.mem_iff_getElem.mp m
  have hl : i < xs.length := by
    rcases Nat.lt_or_ge i xs.length with z | z
    · exact z
    · rw [List.getElem?_eq_none z] at e; cases e
  rw [List.getElem?_eq_getElem hl] at e
  have e3 := Option.some.inj e
  simp only [List.length_take] at hj
  rw [List.getElem_take] at e2
  have := (List.nodup_iff_pairwise_ne.mp nd) |> List.pairwise_iff_getElem.mp
  exact this j i (by omega) hl (by omega) (e2.trans e3.symm)
theorem isA_tup {h : Hp} {xs : List D} : isA h (.tup xs) .tuple = some true := rfl
theorem ok_need_plan : ∀ ds h Q E, sp_need_plan ds h Q E → r_need_plan (outE Q E) (start2 9 ds) h := by
  rintro ds h Q E ⟨p, rfl, ok, q⟩
  show r_need_plan (outE Q E) [some (planD p), none, none, none, none, none, none, none, none] h
  have h1 := ok.w2; have h2 := ok.w6; have h3 := ok.h2; have h4 := ok.h6; have h5 := ok.s1; have h6 := ok.s4
  have n1 : p.st ≠ [] := by intro e; rw [e] at h5; exact absurd h5 (by decide)
  simp only [r_need_plan, s_need_plan_1, s_need_plan_2, planD, eVar, eC, eBin, eUn, rAdd, rSub, rMul, rDiv, rMod, rNeg, rLt, rLe, rGt, rGe, eqii, eqss, eqnn, eqni, eqin, eqbb, rNe, rIsN, rIsNotN, rIsB, rIsNotB, D.isNon, tVal, tAnd, tOr, tNot, eAnd, eOr, eNot, eIf, eChain, aNil, aCons, eTup, eLst, eDK, eDT, eCall, eCB, eBM, eDM, rLen, rIsA, isA, rList, rTuple, rInt, rMax2, gName, gTup, gCons, gNil, gSub, sNext, sSeq, sBreak, sCont, sAsg, sPar, sAug, sDrop, sRet, sRetN, sIf, outE, sg, ss, sw, swipe, tYes, isLst, isDct]
  simp
  unfold s_need_plan_5 sFor
  simp only [iEnum, eVar, eC, eBin, eUn, rAdd, rSub, rMul, rDiv, rMod, rNeg, rLt, rLe, rGt, rGe, eqii, eqss, eqnn, eqni, eqin, eqbb, rNe, rIsN, rIsNotN, rIsB, rIsNotB, D.isNon, tVal, tAnd, tOr, tNot, eAnd, eOr, eNot, eIf, eChain, aNil, aCons, eTup, eLst, eDK, eDT, eCall, eCB, eBM, eDM, rLen, rIsA, isA, rList, rTuple, rInt, rMax2, gName, gTup, gCons, gNil, gSub, sNext, sSeq, sBreak, sCont, sAsg, sPar, sAug, sDrop, sRet, sRetN, sIf, outE, sg, ss, sw, swipe, tYes, isLst, isDct]
  refine ⟨by simp [line], fun i σ' h' => h' = h ∧ ∃ a b, σ' = [some (planD p), some (.int p.w), some (.int p.h), some (.tup (p.st.map cellD)), some (.tup (p.bk.map cellD)), a, b, none, none], ⟨rfl, _, _, rfl⟩, ?_, ?_⟩
  · rintro i x σ' h' hx ⟨rfl, a, b, rfl⟩
    obtain ⟨y, hy, rfl⟩ := enum_getP hx
    refine ⟨trivial, ?_⟩
    have : ∃ z : Int, y = .int z ∧ 2 ≤ z ∧ z ≤ 6 := by
      rcases i with _ | _ | i
      · cases hy; exact ⟨_, rfl, h1, h2⟩
      · cases hy; exact ⟨_, rfl, h3, h4⟩
      · simp at hy
    obtain ⟨z, rfl, z1, z2⟩ := this
    refine ⟨rfl, ?_⟩
    simp only [s_need_plan_4, eVar, eC, eBin, eUn, rAdd, rSub, rMul, rDiv, rMod, rNeg, rLt, rLe, rGt, rGe, eqii, eqss, eqnn, eqni, eqin, eqbb, rNe, rIsN, rIsNotN, rIsB, rIsNotB, D.isNon, tVal, tAnd, tOr, tNot, eAnd, eOr, eNot, eIf, eChain, aNil, aCons, eTup, eLst, eDK, eDT, eCall, eCB, eBM, eDM, rLen, rIsA, isA, rList, rTuple, rInt, rMax2, gName, gTup, gCons, gNil, gSub, sNext, sSeq, sBreak, sCont, sAsg, sPar, sAug, sDrop, sRet, sRetN, sIf, outE, sg, ss, sw, swipe, tYes, isLst, isDct, u_is_number, g_LEAST_SIDE, g_MOST_SIDE, z1, z2, decide_true]
    simp
  · rintro σ' h' ⟨rfl, a, b, rfl⟩
    refine ⟨trivial, ?_⟩
    simp only [s_need_plan_7, eVar, eC, eBin, eUn, rAdd, rSub, rMul, rDiv, rMod, rNeg, rLt, rLe, rGt, rGe, eqii, eqss, eqnn, eqni, eqin, eqbb, rNe, rIsN, rIsNotN, rIsB, rIsNotB, D.isNon, tVal, tAnd, tOr, tNot, eAnd, eOr, eNot, eIf, eChain, aNil, aCons, eTup, eLst, eDK, eDT, eCall, eCB, eBM, eDM, rLen, rIsA, isA, rList, rTuple, rInt, rMax2, gName, gTup, gCons, gNil, gSub, sNext, sSeq, sBreak, sCont, sAsg, sPar, sAug, sDrop, sRet, sRetN, sIf, outE, sg, ss, sw, swipe, tYes, isLst, isDct, isA_tup]
    simp only [Bool.not_true, Bool.false_eq_true, if_false, List.length_nil, Nat.zero_le, true_and, eq_nilT, n1, decide_false, line]
    unfold s_need_plan_10 sFor
    simp only [iEnum, eVar, eC, eBin, eUn, rAdd, rSub, rMul, rDiv, rMod, rNeg, rLt, rLe, rGt, rGe, eqii, eqss, eqnn, eqni, eqin, eqbb, rNe, rIsN, rIsNotN, rIsB, rIsNotB, D.isNon, tVal, tAnd, tOr, tNot, eAnd, eOr, eNot, eIf, eChain, aNil, aCons, eTup, eLst, eDK, eDT, eCall, eCB, eBM, eDM, rLen, rIsA, isA, rList, rTuple, rInt, rMax2, gName, gTup, gCons, gNil, gSub, sNext, sSeq, sBreak, sCont, sAsg, sPar, sAug, sDrop, sRet, sRetN, sIf, outE, sg, ss, sw, swipe, tYes, isLst, isDct]
    refine ⟨fun i σ' h'' => h'' = h' ∧ ∃ c d, σ' = [some (planD p), some (.int p.w), some (.int p.h), some (.tup (p.st.map cellD)), some (.tup (p.bk.map cellD)), a, b, c, d], ⟨rfl, _, _, rfl⟩, ?_, ?_⟩
    · rintro i x σ' h'' hx ⟨rfl, c, d, rfl⟩
      obtain ⟨y, hy, rfl⟩ := enum_getP hx
      obtain ⟨ce, hc, rfl⟩ := map_get hy
      have hl : i < p.st.length := by
        rcases Nat.lt_or_ge i p.st.length with z | z
        · exact z
        · rw [List.getElem?_eq_none z] at hc; cases hc
      have hm : ce ∈ p.st := List.mem_of_getElem? hc
      have hb := ok.cs ce (List.mem_append_left _ hm)
      have nt := nd_take (List.nodup_append.mp ok.nd).1 hc
      have hb' : decide (0 ≤ ce.1 ∧ ce.1 < p.w ∧ 0 ≤ ce.2 ∧ ce.2 < p.h) = true := decide_eq_true hb
      have hi : decide ((4 : Int) ≤ (i : Int)) = false := decide_eq_false (by omega)
      refine ⟨trivial, rfl, ?_⟩
      simp only [s_need_plan_9, eVar, eC, eBin, eUn, rAdd, rSub, rMul, rDiv, rMod, rNeg, rLt, rLe, rGt, rGe, eqii, eqss, eqnn, eqni, eqin, eqbb, rNe, rIsN, rIsNotN, rIsB, rIsNotB, D.isNon, tVal, tAnd, tOr, tNot, eAnd, eOr, eNot, eIf, eChain, aNil, aCons, eTup, eLst, eDK, eDT, eCall, eCB, eBM, eDM, rLen, rIsA, isA, rList, rTuple, rInt, rMax2, gName, gTup, gCons, gNil, gSub, sNext, sSeq, sBreak, sCont, sAsg, sPar, sAug, sDrop, sRet, sRetN, sIf, outE, sg, ss, sw, swipe, tYes, isLst, isDct, u_is_cell, g_MOST_SEATS, hi, hb', eSl, oNo, oIs, rSl, cells_take, in_cells, nt]
      simp
    · rintro σ' h'' ⟨rfl, c, d, rfl⟩
      refine ⟨trivial, ?_⟩
      simp only [s_need_plan_12, eVar, eC, eBin, eUn, rAdd, rSub, rMul, rDiv, rMod, rNeg, rLt, rLe, rGt, rGe, eqii, eqss, eqnn, eqni, eqin, eqbb, rNe, rIsN, rIsNotN, rIsB, rIsNotB, D.isNon, tVal, tAnd, tOr, tNot, eAnd, eOr, eNot, eIf, eChain, aNil, aCons, eTup, eLst, eDK, eDT, eCall, eCB, eBM, eDM, rLen, rIsA, isA, rList, rTuple, rInt, rMax2, gName, gTup, gCons, gNil, gSub, sNext, sSeq, sBreak, sCont, sAsg, sPar, sAug, sDrop, sRet, sRetN, sIf, outE, sg, ss, sw, swipe, tYes, isLst, isDct, isA_tup]
      try simp only [Bool.not_true, Bool.false_eq_true, if_false]
      unfold s_need_plan_15 sFor
      simp only [iEnum, eVar, eC, eBin, eUn, rAdd, rSub, rMul, rDiv, rMod, rNeg, rLt, rLe, rGt, rGe, eqii, eqss, eqnn, eqni, eqin, eqbb, rNe, rIsN, rIsNotN, rIsB, rIsNotB, D.isNon, tVal, tAnd, tOr, tNot, eAnd, eOr, eNot, eIf, eChain, aNil, aCons, eTup, eLst, eDK, eDT, eCall, eCB, eBM, eDM, rLen, rIsA, isA, rList, rTuple, rInt, rMax2, gName, gTup, gCons, gNil, gSub, sNext, sSeq, sBreak, sCont, sAsg, sPar, sAug, sDrop, sRet, sRetN, sIf, outE, sg, ss, sw, swipe, tYes, isLst, isDct]
      refine ⟨fun i σ' h' => h' = h'' ∧ ∃ c d, σ' = [some (planD p), some (.int p.w), some (.int p.h), some (.tup (p.st.map cellD)), some (.tup (p.bk.map cellD)), a, b, c, d], ⟨rfl, _, _, rfl⟩, ?_, ?_⟩
      · rintro i x σ' h'' hx ⟨rfl, c, d, rfl⟩
        obtain ⟨y, hy, rfl⟩ := enum_getP hx
        obtain ⟨ce, hc, rfl⟩ := map_get hy
        have hm : ce ∈ p.bk := List.mem_of_getElem? hc
        have hb := ok.cs ce (List.mem_append_right _ hm)
        have nt := nd_take (List.nodup_append.mp ok.nd).2.1 hc
        have ns : ce ∉ p.st := fun m => (List.nodup_append.mp ok.nd).2.2 ce m ce hm rfl
        have hb' : decide (0 ≤ ce.1 ∧ ce.1 < p.w ∧ 0 ≤ ce.2 ∧ ce.2 < p.h) = true := decide_eq_true hb
        refine ⟨trivial, rfl, ?_⟩
        simp only [s_need_plan_14, eVar, eC, eBin, eUn, rAdd, rSub, rMul, rDiv, rMod, rNeg, rLt, rLe, rGt, rGe, eqii, eqss, eqnn, eqni, eqin, eqbb, rNe, rIsN, rIsNotN, rIsB, rIsNotB, D.isNon, tVal, tAnd, tOr, tNot, eAnd, eOr, eNot, eIf, eChain, aNil, aCons, eTup, eLst, eDK, eDT, eCall, eCB, eBM, eDM, rLen, rIsA, isA, rList, rTuple, rInt, rMax2, gName, gTup, gCons, gNil, gSub, sNext, sSeq, sBreak, sCont, sAsg, sPar, sAug, sDrop, sRet, sRetN, sIf, outE, sg, ss, sw, swipe, tYes, isLst, isDct, u_is_cell, hb', eSl, oNo, oIs, rSl, cells_take, in_cells, nt, ns]
        simp
      · rintro σ' h'' ⟨rfl, c, d, rfl⟩
        exact ⟨trivial, h'', Sub.refl _, q⟩
end F

set_option linter.all false
set_option maxRecDepth 100000
namespace F
open PySem (Str PyData)
/-! lists by their places -/
structure Is {α : Type} (c : List α) (n : Nat) (f : Nat → α) : Prop where
  len : c.length = n
  at_ : ∀ k, k < n → c[k]? = some (f k)
theorem Is.set {α : Type} {c : List α} {n j : Nat} {f : Nat → α} {v : α} (s : Is c n f) (hj : j < n) : Is (c.set j v) n (fun k => if k = j then v else f k) := by
  refine ⟨by rw [List.length_set]; exact s.len, fun k hk => ?_⟩
  rw [List.getElem?_set]
  by_cases e : j = k
  · rw [if_pos e, if_pos (by rw [s.len]; omega), if_pos e.symm]
  · rw [if_neg e, if_neg (Ne.symm e), s.at_ k hk]
theorem Is.congr {α : Type} {c : List α} {n : Nat} {f g : Nat → α} (s : Is c n f) (e : ∀ k, k < n → f k = g k) : Is c n g := ⟨s.len, fun k hk => by rw [s.at_ k hk, e k hk]⟩
theorem Is.eq {α : Type} {c : List α} {n : Nat} {f : Nat → α} (s : Is c n f) : c = (List.range n).map f := by
  apply List.ext_getElem?
  intro k
  rcases Nat.lt_or_ge k n with z | z
  · rw [s.at_ k z, List.getElem?_map, List.getElem?_range z]; rfl
  · rw [List.getElem?_eq_none (by rw [s.len]; exact z), List.getElem?_eq_none (by simpa using z)]
theorem is_map {α : Type} {n : Nat} {f : Nat → α} : Is ((List.range n).map f) n f := ⟨by simp, fun k hk => by rw [List.getElem?_map, List.getElem?_range hk]; rfl⟩
theorem lt_of_get {α : Type} {xs : List α} {i : Nat} {x : α} (e : xs[i]? = some x) : i < xs.length := by
  rcases Nat.lt_or_ge i xs.length with z | z
  · exact z
  · rw [List.getElem?_eq_none z] at e; cases e
theorem take_succ {α : Type} {xs : List α} {i : Nat} {x : α} (e : xs[i]? = some x) : xs.take (i + 1) = xs.take i ++ [x] := by
  rw [List.take_succ, e]; rfl
/-! spots -/
theorem spot_lo {p : Plan} {c : Cell} (b : inB p c) : 0 ≤ spot p c := by
  obtain ⟨h1, h2, h3, h4⟩ := b
  unfold spot
  have : 0 ≤ c.2 * p.w := Int.mul_nonneg h3 (by omega)
  omega
theorem spot_hi {p : Plan} {c : Cell} (b : inB p c) : spot p c < p.w * p.h := by
  obtain ⟨h1, h2, h3, h4⟩ := b
  unfold spot
  have : (c.2 + 1) * p.w ≤ p.h * p.w := Int.mul_le_mul_of_nonneg_right (by omega) (by omega)
  rw [Int.add_mul, Int.mul_comm p.h] at this
  omega
theorem spot_cell {p : Plan} {c : Cell} (b : inB p c) : (spot p c % p.w, spot p c / p.w) = c := by
  obtain ⟨h1, h2, h3, h4⟩ := b
  unfold spot
  have e1 : (c.2 * p.w + c.1) % p.w = c.1 := by
    rw [Int.add_comm, Int.add_mul_emod_self_right, Int.emod_eq_of_lt h1 h2]
  have e2 : (c.2 * p.w + c.1) / p.w = c.2 := by
    rw [Int.add_comm, Int.add_mul_ediv_right _ _ (by omega), Int.ediv_eq_zero_of_lt h1 h2]; omega
  rw [e1, e2]
theorem spot_inj {p : Plan} {c d : Cell} (b : inB p c) (b' : inB p d) (e : spot p c = spot p d) : c = d := by
  rw [← spot_cell b, ← spot_cell b', e]
theorem cell_spot {p : Plan} (n : Int) : spot p (n % p.w, n / p.w) = n := by
  unfold spot
  have := Int.emod_add_mul_ediv n p.w
  show n / p.w * p.w + n % p.w = n
  rw [Int.mul_comm]; omega
theorem cell_inB {p : Plan} (ok : p.Ok) {n : Int} (h0 : 0 ≤ n) (h1 : n < p.w * p.h) : inB p (n % p.w, n / p.w) := by
  have := ok.w2
  refine ⟨Int.emod_nonneg _ (by omega), Int.emod_lt_of_pos _ (by omega), Int.ediv_nonneg h0 (by omega), ?_⟩
  show n / p.w < p.h
  exact Int.ediv_lt_of_lt_mul (by omega) (by rw [Int.mul_comm]; exact h1)
theorem Plan.Ok.nn {p : Plan} (ok : p.Ok) : (p.n : Int) = p.w * p.h := by
  have h1 := ok.w2; have h2 := ok.h2
  unfold Plan.n
  rw [Int.toNat_of_nonneg (Int.mul_nonneg (by omega) (by omega))]
theorem Plan.Ok.n36 {p : Plan} (ok : p.Ok) : p.n ≤ 36 := by
  have h1 := ok.w2; have h2 := ok.h2; have h3 := ok.w6; have h4 := ok.h6
  have := ok.nn
  have : p.w * p.h ≤ 6 * 6 := Int.mul_le_mul h3 h4 (by omega) (by omega)
  omega
theorem Plan.Ok.n4 {p : Plan} (ok : p.Ok) : 4 ≤ p.n := by
  have h1 := ok.w2; have h2 := ok.h2; have h3 := ok.w6; have h4 := ok.h6
  have := ok.nn
  have : 2 * 2 ≤ p.w * p.h := Int.mul_le_mul h1 h2 (by omega) (by omega)
  omega
theorem Plan.Ok.stB {p : Plan} (ok : p.Ok) {c : Cell} (m : c ∈ p.st) : inB p c := ok.cs c (List.mem_append_left _ m)
theorem Plan.Ok.bkB {p : Plan} (ok : p.Ok) {c : Cell} (m : c ∈ p.bk) : inB p c := ok.cs c (List.mem_append_right _ m)
theorem Plan.Ok.dis {p : Plan} (ok : p.Ok) {c : Cell} (m : c ∈ p.st) (b : c ∈ p.bk) : False := (List.nodup_append.mp ok.nd).2.2 c m c b rfl
theorem spot_toNat {p : Plan} {c : Cell} (b : inB p c) : ((spot p c).toNat : Int) = spot p c := Int.toNat_of_nonneg (spot_lo b)
theorem spot_lt {p : Plan} (ok : p.Ok) {c : Cell} (b : inB p c) : (spot p c).toNat < p.n := by
  have h1 := spot_lo b; have h2 := spot_hi b; have h3 := ok.nn; omega
/-- a spot among the spots of cells -/
theorem spot_mem {p : Plan} {cs : List Cell} (hb : ∀ c ∈ cs, inB p c) {c : Cell} (b : inB p c) : spot p c ∈ cs.map (spot p) ↔ c ∈ cs := by
  constructor
  · intro m
    obtain ⟨d, hd, e⟩ := List.mem_map.mp m
    rw [← spot_inj (hb d hd) b e]; exact hd
  · exact fun m => List.mem_map_of_mem m
theorem isB_spot {p : Plan} (ok : p.Ok) {c : Cell} (b : inB p c) : isB p (spot p c).toNat ↔ c ∈ p.bk := by
  unfold isB
  rw [spot_toNat b]
  exact spot_mem (fun c => ok.bkB) b
theorem isB_cell {p : Plan} (ok : p.Ok) {k : Nat} (hk : k < p.n) : isB p k ↔ ((k : Int) % p.w, (k : Int) / p.w) ∈ p.bk := by
  have h3 := ok.nn
  have b := cell_inB ok (n := k) (by omega) (by omega)
  have := isB_spot ok b
  rw [cell_spot] at this
  exact this
theorem nd_spots {p : Plan} {cs : List Cell} (hb : ∀ c ∈ cs, inB p c) (nd : cs.Nodup) : (cs.map (spot p)).Nodup := by
  rw [List.nodup_iff_pairwise_ne] at nd ⊢
  rw [List.pairwise_map]
  refine nd.imp_of_mem fun {a b} ma mb n e => n (spot_inj (hb a ma) (hb b mb) e)
theorem findIdx_nd {xs : List Int} {i : Nat} {x : Int} (nd : xs.Nodup) (e : xs[i]? = some x) : xs.findIdx (fun y => y == x) = i := by
  have hl := lt_of_get e
  rw [List.getElem?_eq_getElem hl] at e
  have e := Option.some.inj e
  rw [List.findIdx_eq hl]
  refine ⟨by simp [e], fun j hj => ?_⟩
  have := (List.nodup_iff_pairwise_ne.mp nd) |> List.pairwise_iff_getElem.mp
  have := this j i (by omega) hl hj
  simp only [beq_eq_false_iff_ne]
  rw [← e]; exact this
/-! the first picture -/
def f1 (p : Plan) (i : Nat) (k : Nat) : Int := if (k : Int) ∈ (p.bk.take i).map (spot p) then -1 else 0
def f2 (p : Plan) (i : Nat) (k : Nat) : Int := if isB p k then -1 else if (k : Int) ∈ (p.st.take i).map (spot p) then 11 * (((p.st.map (spot p)).findIdx fun x => x == (k : Int) : Nat) : Int) + 11 else 0
theorem f1_step {p : Plan} (ok : p.Ok) {i : Nat} {ce : Cell} {c : List Int} (hc : p.bk[i]? = some ce) (s : Is c p.n (f1 p i)) : Is (c.set (spot p ce).toNat (-1)) p.n (f1 p (i + 1)) := by
  have b := ok.bkB (List.mem_of_getElem? hc)
  refine (s.set (spot_lt ok b)).congr fun k hk => ?_
  unfold f1
  rw [take_succ hc, List.map_append]
  by_cases e : k = (spot p ce).toNat
  · rw [if_pos e, if_pos]
    have := spot_toNat b
    simp; right; omega
  · rw [if_neg e]
    have : ¬ (k : Int) = spot p ce := by have := spot_toNat b; omega
    simp [this]
theorem f2_zero {p : Plan} {c : List Int} (s : Is c p.n (f1 p p.bk.length)) : Is c p.n (f2 p 0) := s.congr fun k hk => by
  unfold f1 f2 isB
  rw [List.take_length]
  simp
theorem f2_step {p : Plan} (ok : p.Ok) {i : Nat} {ce : Cell} {c : List Int} (hc : p.st[i]? = some ce) (s : Is c p.n (f2 p i)) : Is (c.set (spot p ce).toNat (11 * i + 11)) p.n (f2 p (i + 1)) := by
  have m := List.mem_of_getElem? hc
  have b := ok.stB m
  refine (s.set (spot_lt ok b)).congr fun k hk => ?_
  unfold f2
  rw [take_succ hc, List.map_append]
  by_cases e : k = (spot p ce).toNat
  · subst e
    have nb : ¬ isB p (spot p ce).toNat := fun z => ok.dis m ((isB_spot ok b).mp z)
    have hx : (p.st.map (spot p))[i]? = some (((spot p ce).toNat : Nat) : Int) := by rw [List.getElem?_map, hc, spot_toNat b]; rfl
    rw [if_pos rfl, if_neg nb, if_pos (by rw [spot_toNat b]; simp), findIdx_nd (nd_spots (fun c => ok.stB) (List.nodup_append.mp ok.nd).1) hx]
  · rw [if_neg e]
    have : ¬ (k : Int) = spot p ce := by have := spot_toNat b; omega
    simp [this]
theorem f2_end {p : Plan} {c : List Int} (s : Is c p.n (f2 p p.st.length)) : c = firstF p := by
  rw [s.eq]
  unfold firstF f2
  simp only [List.take_length]
theorem rep0 {n : Nat} : (List.replicate n [D.int 0]).flatten = intsD ((List.range n).map fun _ => 0) := by
  induction n with
  | zero => rfl
  | succ n ih => rw [List.replicate_succ', List.flatten_append, ih, List.range_succ, List.map_append, ← ints_app]; rfl
theorem is0 {p : Plan} : Is ((List.range p.n).map fun _ => (0 : Int)) p.n (f1 p 0) := is_map.congr fun k hk => by simp [f1]
end F

set_option linter.all false
set_option maxRecDepth 100000
namespace F
open PySem (Str PyData)
theorem mul_lst {a : Nat} {k : Int} {xs : List D} {h : Hp} {Q : KV} (e : h a = some (.lst xs)) (h0 : 0 ≤ k) (h1 : k ≤ 1000) (h2 : xs.length * k.toNat ≤ line) (q : ∀ p, h p = none → Q (.ref p) (upd h p (.lst (List.replicate k.toNat xs).flatten))) : rMul (.ref a) (.int k) h Q := ⟨xs, e, h0, h1, h2, q⟩
theorem set_at {p : Plan} (ok : p.Ok) {a : Nat} {c : List Int} {ce : Cell} {v : Int} {h : Hp} {Q : Hp → Prop} (e : h a = some (.lst (intsD c))) (hl : c.length = p.n) (b : inB p ce) :
    rSet (.ref a) (.int (spot p ce)) (.int v) h Q = Q (upd h a (.lst (intsD (c.set (spot p ce).toNat v)))) := by
  rw [set_lst e (ixN_of (spot_lo b) (by rw [ints_length, hl, ok.nn]; exact spot_hi b)), ints_set]
theorem ok_first : ∀ ds h Q E, sp_first ds h Q E → r_first (outE Q E) (start2 4 ds) h := by
  rintro ds h Q E ⟨p, rfl, ok, q⟩
  show r_first (outE Q E) [some (planD p), none, none, none] h
  have hn := ok.nn
  have h36 := ok.n36
  have hw := ok.w2; have hw6 := ok.w6; have hh2 := ok.h2; have hh6 := ok.h6
  simp only [r_first, s_first_0, sSeq, sAsg, eBin, eLst, aCons, aNil, eC, g_FREE, eVar, sg, p0, p1]
  refine ⟨by simp [line], fun x nx => ?_⟩
  simp only [rMul]
  refine ⟨.inr ⟨by omega, by omega⟩, ⟨_, upd_same, by omega, by omega, by simp [line]; omega, fun a na => ?_⟩⟩
  have na0 : h a = none := by
    by_cases e : a = x
    · subst e; exact nx
    · rwa [upd_ne e] at na
  have hrep : (p.w * p.h).toNat = p.n := rfl
  rw [hrep, rep0]
  simp only [gName, ss, sSeq, s_first_2, outE]
  unfold sFor
  simp only [iSeq, eBin, eVar, eC, sg, p3]
  refine ⟨fun i σ h' => ∃ y, σ = [some (planD p), some (.ref a), y, none] ∧ Keep h [] h' ∧ ∃ c, h' a = some (.lst (intsD c)) ∧ Is c p.n (f1 p i), ⟨_, rfl, ?_, _, upd_same, is0⟩, ?_, ?_⟩
  · exact ((Keep.refl h []).new nx).new na
  · rintro i y σ h' hy ⟨_, rfl, hk, c, hc, s⟩
    obtain ⟨ce, he, rfl⟩ := map_get hy
    refine ⟨trivial, ?_⟩
    have b := ok.bkB (List.mem_of_getElem? he)
    simp only [gName, ss, s_first_1, sAsg, eC, gSub, eVar, sg, eCall, aCons, aNil, u_spot_of ok, g_BLOCK, set_at ok hc s.len b]
    exact ⟨_, rfl, hk.own na0, _, upd_same, f1_step ok he s⟩
  · rintro σ h' ⟨y, rfl, hk, c, hc, s⟩
    refine ⟨trivial, ?_⟩
    rw [List.length_map] at s
    simp only [s_first_4, sSeq]
    unfold sFor
    simp only [iEnum, eBin, eVar, eC, sg, p2]
    refine ⟨fun i σ h' => ∃ y z, σ = [some (planD p), some (.ref a), y, z] ∧ Keep h [] h' ∧ ∃ c, h' a = some (.lst (intsD c)) ∧ Is c p.n (f2 p i), ⟨_, _, rfl, hk, c, hc, f2_zero s⟩, ?_, ?_⟩
    · rintro i y σ h' hy ⟨_, _, rfl, hk, c, hc, s⟩
      obtain ⟨d, hd, rfl⟩ := enum_getP hy
      obtain ⟨ce, he, rfl⟩ := map_get hd
      refine ⟨trivial, ?_⟩
      have b := ok.stB (List.mem_of_getElem? he)
      have e11 : ((i : Int) + 1) * 10 + (i : Int) + 1 = 11 * i + 11 := by omega
      simp only [gTup, gCons, gNil, gName, ss, s_first_3, sAsg, eC, gSub, eVar, sg, eCall, aCons, aNil, u_spot_of ok, u_code, e11, set_at ok hc s.len b]
      exact ⟨rfl, _, _, rfl, hk.own na0, _, upd_same, f2_step ok he s⟩
    · rintro σ h' ⟨y, z, rfl, hk, c, hc, s⟩
      refine ⟨trivial, ?_⟩
      rw [enum_lengthP, List.length_map] at s
      simp only [s_first_5, sRet, eCB, aCons, aNil, eVar, sg, rTuple, outE]
      refine ⟨_, hc, h, hk.nil, ?_⟩
      rw [f2_end s] 
      exact q
theorem u_first {p : Plan} {h : Hp} {Q : KV} {E : Xc → Hp → Prop} (ok : p.Ok) : sp_first [planD p] h Q E = Q (picD (firstF p)) h := by
  unfold sp_first
  simp only [List.cons.injEq, planD_inj, and_true]
  apply propext
  constructor
  · rintro ⟨_, rfl, _, q⟩; exact q
  · exact fun q => ⟨p, rfl, ok, q⟩
theorem u_begun {p : Plan} {h : Hp} {Q : KV} {E : Xc → Hp → Prop} (ok : p.Ok) : sp_begun [planD p] h Q E = Q (picD (firstF p)) h := u_first ok
theorem u_law_first {p : Plan} {h : Hp} {Q : KV} {E : Xc → Hp → Prop} (ok : p.Ok) : sp_law_first [planD p] h Q E = Q (picD (firstF p)) h := u_first ok
theorem ok_begun : ∀ ds h Q E, sp_begun ds h Q E → r_begun (outE Q E) (start2 1 ds) h := by
  rintro ds h Q E ⟨p, rfl, ok, q⟩
  show r_begun (outE Q E) [some (planD p)] h
  simp only [r_begun, s_begun_0, s_begun_1, eVar, eC, eBin, eUn, rAdd, rSub, rMul, rDiv, rMod, rNeg, rLt, rLe, rGt, rGe, eqii, eqss, eqnn, eqni, eqin, eqbb, rNe, rIsN, rIsNotN, rIsB, rIsNotB, D.isNon, tVal, tAnd, tOr, tNot, eAnd, eOr, eNot, eIf, eChain, aNil, aCons, eTup, eLst, eDK, eDT, eCall, eCB, eBM, eDM, rLen, rIsA, isA, rList, rTuple, rInt, rMax2, gName, gTup, gCons, gNil, gSub, sNext, sSeq, sBreak, sCont, sAsg, sPar, sAug, sDrop, sRet, sRetN, sIf, outE, sg, ss, sw, swipe, tYes, isLst, isDct, u_need_plan ok, u_first ok]
  exact ⟨h, Sub.refl h, q⟩
theorem ok_law_first : ∀ ds h Q E, sp_law_first ds h Q E → r_law_first (outE Q E) (start2 5 ds) h := by
  rintro ds h Q E ⟨p, rfl, ok, q⟩
  show r_law_first (outE Q E) [some (planD p), none, none, none, none] h
  have hn := ok.nn
  have h36 := ok.n36
  have hw := ok.w2; have hw6 := ok.w6; have hh2 := ok.h2; have hh6 := ok.h6
  simp only [r_law_first, s_law_first_0, sSeq, sAsg, eBin, eLst, aCons, aNil, eC, eVar, sg, p0, p1]
  refine ⟨by simp [line], fun x nx => ?_⟩
  simp only [rMul]
  refine ⟨.inr ⟨by omega, by omega⟩, ⟨_, upd_same, by omega, by omega, by simp [line]; omega, fun a na => ?_⟩⟩
  have na0 : h a = none := by
    by_cases e : a = x
    · subst e; exact nx
    · rwa [upd_ne e] at na
  have hrep : (p.w * p.h).toNat = p.n := rfl
  rw [hrep, rep0]
  simp only [gName, ss, sSeq, s_law_first_2, outE]
  unfold sFor
  simp only [iSeq, eBin, eVar, eC, sg, p3]
  refine ⟨fun i σ h' => ∃ y z, σ = [some (planD p), some (.ref a), none, y, z] ∧ Keep h [] h' ∧ ∃ c, h' a = some (.lst (intsD c)) ∧ Is c p.n (f1 p i), ⟨_, _, rfl, ?_, _, upd_same, is0⟩, ?_, ?_⟩
  · exact ((Keep.refl h []).new nx).new na
  · rintro i y σ h' hy ⟨_, _, rfl, hk, c, hc, s⟩
    obtain ⟨ce, he, rfl⟩ := map_get hy
    refine ⟨trivial, ?_⟩
    have b := ok.bkB (List.mem_of_getElem? he)
    have es : ce.2 * p.w + ce.1 = spot p ce := rfl
    simp only [cellD, gTup, gCons, gNil, gName, ss, s_law_first_1, sAsg, eC, eUn, rNeg, gSub, eVar, sg, eBin, p0, rMul, rAdd, es, set_at ok hc s.len b]
    exact ⟨rfl, .inr ⟨by omega, by omega⟩, _, _, rfl, hk.own na0, _, upd_same, f1_step ok he s⟩
  · rintro σ h' ⟨y, z, rfl, hk, c, hc, s⟩
    refine ⟨trivial, ?_⟩
    rw [List.length_map] at s
    simp only [s_law_first_5, sSeq]
    unfold sFor
    simp only [iRng, eBin, eVar, eC, eCB, rLen, aCons, aNil, sg, p2, List.length_map]
    have h4 := ok.s4
    refine ⟨by omega, fun i σ h' => ∃ y z u, σ = [some (planD p), some (.ref a), u, y, z] ∧ Keep h [] h' ∧ ∃ c, h' a = some (.lst (intsD c)) ∧ Is c p.n (f2 p i), ⟨_, _, _, rfl, hk, c, hc, f2_zero s⟩, ?_, ?_⟩
    · rintro i y σ h' hy ⟨_, _, _, rfl, hk, c, hc, s⟩
      have hi : i < p.st.length := by have := lt_of_get hy; simpa [irange] using this
      have ey : y = .int (i : Int) := by
        unfold irange at hy
        obtain ⟨j, hj, rfl⟩ := map_get hy
        rw [List.getElem?_range (by simpa using hi)] at hj
        cases hj; simp
      subst ey
      refine ⟨trivial, ?_⟩
      have he : p.st[i]? = some p.st[i] := List.getElem?_eq_getElem hi
      have b := ok.stB (List.mem_of_getElem? he)
      have hx : atI (p.st.map cellD) (i : Int) = some (cellD p.st[i]) := atI_nat (by rw [List.getElem?_map, he]; rfl)
      have es : p.st[i].2 * p.w + p.st[i].1 = spot p p.st[i] := rfl
      simp only [gName, ss, sSeq, s_law_first_3, s_law_first_4, sAsg, eC, gSub, eVar, sg, eBin, p0, p2, ix_tup hx]
      simp only [cellD, gTup, gCons, gNil, gName, ss, sAsg, eC, eUn, rNeg, gSub, eVar, sg, eBin, p0, rMul, rAdd, es, set_at ok hc s.len b]
      refine ⟨rfl, .inl ⟨by omega, by omega⟩, .inr ⟨by omega, by omega⟩, _, _, _, rfl, hk.own na0, _, upd_same, f2_step ok he s⟩
    · rintro σ h' ⟨y, z, u, rfl, hk, c, hc, s⟩
      refine ⟨trivial, ?_⟩
      have : (irange 0 (p.st.length : Int)).length = p.st.length := by simp [irange]
      rw [this] at s
      simp only [s_law_first_6, sRet, eCB, aCons, aNil, eVar, sg, rTuple, outE]
      refine ⟨_, hc, h, hk.nil, ?_⟩
      rw [f2_end s] 
      exact q
end F

set_option linter.all false
set_option maxRecDepth 100000
namespace F
open PySem (Str PyData)
theorem ok_law_begun : ∀ ds h Q E, sp_law_begun ds h Q E → r_law_begun (outE Q E) (start2 3 ds) h := by
  rintro ds h Q E ⟨ns, rfl, hl, q⟩
  show r_law_begun (outE Q E) [some (.ro (intsD ns)), none, none] h
  simp only [r_law_begun, s_law_begun_0, sSeq, sAsg, eC, gName, ss, s_law_begun_2]
  unfold sFor
  simp only [iSeq, eVar, sg]
  refine ⟨fun i σ h' => h' = h ∧ ∃ (s : Int) (x : Option D), σ = [some (.ro (intsD ns)), some (.int s), x], ⟨rfl, _, _, rfl⟩, ?_, ?_⟩
  · rintro i x σ h' hx ⟨rfl, s, y, rfl⟩
    obtain ⟨n, hn, rfl⟩ := map_get hx
    refine ⟨trivial, ?_⟩
    simp only [s_law_begun_1, eVar, eC, eBin, eUn, rAdd, rSub, rMul, rDiv, rMod, rNeg, rLt, rLe, rGt, rGe, eqii, eqss, eqnn, eqni, eqin, eqbb, rNe, rIsN, rIsNotN, rIsB, rIsNotB, D.isNon, tVal, tAnd, tOr, tNot, eAnd, eOr, eNot, eIf, eChain, aNil, aCons, eTup, eLst, eDK, eDT, eCall, eCB, eBM, eDM, rLen, rIsA, isA, rList, rTuple, rInt, rMax2, gName, gTup, gCons, gNil, gSub, sNext, sSeq, sBreak, sCont, sAsg, sPar, sAug, sDrop, sRet, sRetN, sIf, outE, sg, ss, sw, swipe, tYes, isLst, isDct]
    exact ⟨.inr ⟨by omega, by omega⟩, .inr ⟨by omega, by omega⟩, by omega, trivial, _, _, rfl⟩
  · rintro σ h' ⟨rfl, s, y, rfl⟩
    refine ⟨trivial, ?_⟩
    simp only [s_law_begun_3, eVar, eC, eBin, eUn, rAdd, rSub, rMul, rDiv, rMod, rNeg, rLt, rLe, rGt, rGe, eqii, eqss, eqnn, eqni, eqin, eqbb, rNe, rIsN, rIsNotN, rIsB, rIsNotB, D.isNon, tVal, tAnd, tOr, tNot, eAnd, eOr, eNot, eIf, eChain, aNil, aCons, eTup, eLst, eDK, eDT, eCall, eCB, eBM, eDM, rLen, rIsA, isA, rList, rTuple, rInt, rMax2, gName, gTup, gCons, gNil, gSub, sNext, sSeq, sBreak, sCont, sAsg, sPar, sAug, sDrop, sRet, sRetN, sIf, outE, sg, ss, sw, swipe, tYes, isLst, isDct, ints_length]
    intro l nl
    have bb : ∀ b : Bool, (-(2 ^ 64) < b2i b ∧ b2i b < 2 ^ 64) := fun b => by cases b <;> decide
    refine ⟨.inr (bb _), by simp [line], fun b nb => ?_⟩
    have ne : b ≠ l := by
      intro e; subst e
      rw [upd_same] at nb; cases nb
    rw [upd_ne ne] at nb
    exact ⟨_, Sub.refl _, q b l _ nb nl ne⟩
theorem toP_ints {h : Hp} {n l : Nat} {ns : List Int} (e : h l = some (.lst (intsD ns))) : toP h (n + 1) (.ref l) = some (.list (ns.map .int)) := by
  simp only [toP, e, omap_ints]
/-- a list of numbers, against a new empty list -/
theorem eq_nilL {h : Hp} {l q : Nat} {ns : List Int} {Q : KV} (e : h l = some (.lst (intsD ns))) (e2 : h q = some (.lst [])) : rEq (.ref l) (.ref q) h Q = Q (.bl (decide (ns = []))) h := by
  unfold rEq
  have e1 : toP h 9 (.ref l) = some (.list (ns.map .int)) := toP_ints e
  have e3 : toP h 9 (.ref q) = some (.list []) := toP_ints (ns := []) e2
  simp only [e1, e3]
  have : peq (PyData.list (ns.map .int)) (PyData.list []) = decide (ns = []) := by cases ns <;> simp [peq, peqs]
  rw [this]
theorem box_ix0 {h : Hp} {b l : Nat} {ns : List Int} {s : Int} {Q : KV} (x : Box h b l ns s) : rIx (.ref b) (.int 0) h Q = Q (.ref l) h := ix_lst x.hb (by rfl)
theorem box_ix1 {h : Hp} {b l : Nat} {ns : List Int} {s : Int} {Q : KV} (x : Box h b l ns s) : rIx (.ref b) (.int 1) h Q = Q (.int s) h := ix_lst x.hb (by rfl)
theorem Box.new {h : Hp} {b l p : Nat} {ns : List Int} {s : Int} {o : O} (x : Box h b l ns s) (n : h p = none) : Box (upd h p o) b l ns s :=
  ⟨by rw [upd_ne (ne_of_none x.hb n)]; exact x.hb, by rw [upd_ne (ne_of_none x.hl n)]; exact x.hl, x.ne, x.le⟩
theorem ok_law_take : ∀ ds h Q E, sp_law_take ds h Q E → r_law_take (outE Q E) (start2 3 ds) h := by
  rintro ds h Q E ⟨b, l, ns, s, m, rfl, X, ⟨m0, m1⟩, q⟩
  show r_law_take (outE Q E) [some (.ref b), some (.int m), none] h
  simp only [r_law_take, s_law_take_2, sSeq, sIf, tVal, eBin, eVar, sg, eC, box_ix0 X, eLst, aNil]
  refine ⟨by simp [line], fun p np => ?_⟩
  have X1 := X.new (o := .lst []) np
  have k1 : Keep h [b, l] (upd h p (.lst [])) := (Keep.refl h _).new np
  simp only [eq_nilL X1.hl upd_same]
  generalize upd h p (.lst []) = h1 at X1 k1
  by_cases e : ns = []
  · subst e
    simp only [decide_true, if_true, s_law_take_0, s_law_take_1, eVar, eC, eBin, eUn, rAdd, rSub, rMul, rDiv, rMod, rNeg, rLt, rLe, rGt, rGe, eqii, eqss, eqnn, eqni, eqin, eqbb, rNe, rIsN, rIsNotN, rIsB, rIsNotB, D.isNon, tVal, tAnd, tOr, tNot, eAnd, eOr, eNot, eIf, eChain, aNil, aCons, eTup, eLst, eDK, eDT, eCall, eCB, eBM, eDM, rLen, rIsA, isA, rList, rTuple, rInt, rMax2, gName, gTup, gCons, gNil, gSub, sNext, sSeq, sBreak, sCont, sAsg, sPar, sAug, sDrop, sRet, sRetN, sIf, outE, sg, ss, sw, swipe, tYes, isLst, isDct, box_ix1 X1]
    refine ⟨.inr ⟨by omega, by omega⟩, by omega, ?_⟩
    rw [set_lst X1.hb (j := 1) (by rfl)]
    have X2 : Box (upd h1 b (.lst ([D.ref l, D.int s].set 1 (D.int (s * 48271 % 2147483647))))) b l [] (s * 48271 % 2147483647) :=
      ⟨upd_same, by rw [upd_ne (Ne.symm X1.ne)]; exact X1.hl, X1.ne, X1.le⟩
    simp only [box_ix1 X2]
    refine ⟨⟨by omega, by omega⟩, by omega, _, ?_, q _ [] (s * 48271 % 2147483647) (Int.emod_nonneg _ (by omega)) (Int.emod_lt_of_pos _ m0) (by decide)⟩
    exact (k1.mem (by simp)).sub X2
  · simp only [e, decide_false, Bool.false_eq_true, if_false, sNext]
    obtain ⟨n, r, rfl⟩ : ∃ n r, ns = n :: r := by
      cases ns with
      | nil => exact absurd rfl e
      | cons n r => exact ⟨n, r, rfl⟩
    have hx0 : ∀ x : Int, ∀ r : List Int, atI (intsD (x :: r)) 0 = some (.int x) := fun x r => atI_of (by decide) rfl
    simp only [s_law_take_3, s_law_take_4, eVar, eC, eBin, eUn, rAdd, rSub, rMul, rDiv, rMod, rNeg, rLt, rLe, rGt, rGe, eqii, eqss, eqnn, eqni, eqin, eqbb, rNe, rIsN, rIsNotN, rIsB, rIsNotB, D.isNon, tVal, tAnd, tOr, tNot, eAnd, eOr, eNot, eIf, eChain, aNil, aCons, eTup, eLst, eDK, eDT, eCall, eCB, eBM, eDM, rLen, rIsA, isA, rList, rTuple, rInt, rMax2, gName, gTup, gCons, gNil, gSub, sNext, sSeq, sBreak, sCont, sAsg, sPar, sAug, sDrop, sRet, sRetN, sIf, outE, sg, ss, sw, swipe, tYes, isLst, isDct, box_ix0 X1, ix_lst X1.hl (hx0 n r)]
    refine ⟨⟨by omega, by omega⟩, ?_⟩
    rw [set_lst X1.hl (j := 0) (ixN_of (by decide) (by rw [ints_length, List.length_cons]; omega))]
    have X2 : Box (upd h1 l (.lst ((intsD (n :: r)).set 0 (D.int (n / m))))) b l ((n / m) :: r) s :=
      ⟨by rw [upd_ne X1.ne]; exact X1.hb, upd_same, X1.ne, by simpa using X1.le⟩
    have k2 : Keep h [b, l] (upd h1 l (.lst ((intsD (n :: r)).set 0 (D.int (n / m))))) := k1.mem (by simp)
    generalize upd h1 l (.lst ((intsD (n :: r)).set 0 (D.int (n / m)))) = h2 at X2 k2
    simp only [s_law_take_6, eVar, eC, eBin, eUn, rAdd, rSub, rMul, rDiv, rMod, rNeg, rLt, rLe, rGt, rGe, eqii, eqss, eqnn, eqni, eqin, eqbb, rNe, rIsN, rIsNotN, rIsB, rIsNotB, D.isNon, tVal, tAnd, tOr, tNot, eAnd, eOr, eNot, eIf, eChain, aNil, aCons, eTup, eLst, eDK, eDT, eCall, eCB, eBM, eDM, rLen, rIsA, isA, rList, rTuple, rInt, rMax2, gName, gTup, gCons, gNil, gSub, sNext, sSeq, sBreak, sCont, sAsg, sPar, sAug, sDrop, sRet, sRetN, sIf, outE, sg, ss, sw, swipe, tYes, isLst, isDct, box_ix0 X2, ix_lst X2.hl (hx0 _ _)]
    have fin : ∀ (h3 : Hp) (ns' : List Int), Box h3 b l ns' s → Keep h [b, l] h3 → s_law_take_7 (outE Q E) [some (D.ref b), some (D.int m), some (D.int n)] h3 := by
      intro h3 ns' X3 k3
      simp only [s_law_take_7, eVar, eC, eBin, eUn, rAdd, rSub, rMul, rDiv, rMod, rNeg, rLt, rLe, rGt, rGe, eqii, eqss, eqnn, eqni, eqin, eqbb, rNe, rIsN, rIsNotN, rIsB, rIsNotB, D.isNon, tVal, tAnd, tOr, tNot, eAnd, eOr, eNot, eIf, eChain, aNil, aCons, eTup, eLst, eDK, eDT, eCall, eCB, eBM, eDM, rLen, rIsA, isA, rList, rTuple, rInt, rMax2, gName, gTup, gCons, gNil, gSub, sNext, sSeq, sBreak, sCont, sAsg, sPar, sAug, sDrop, sRet, sRetN, sIf, outE, sg, ss, sw, swipe, tYes, isLst, isDct]
      exact ⟨m0, _, k3.sub X3, q _ ns' s (Int.emod_nonneg _ (by omega)) (Int.emod_lt_of_pos _ m0) X3.le⟩
    have popped : s_law_take_5 { nx := s_law_take_7 (outE Q E), rt := fun v h => ∃ h0, Sub h0 h ∧ Q v h0, bk := fun x x_1 => False, ct := fun x x_1 => False, xe := fun x x_1 h => ∃ h0, Sub h0 h ∧ E x h0 } [some (D.ref b), some (D.int m), some (D.int n)] h2 := by
      simp only [s_law_take_5, eVar, eC, eBin, eUn, rAdd, rSub, rMul, rDiv, rMod, rNeg, rLt, rLe, rGt, rGe, eqii, eqss, eqnn, eqni, eqin, eqbb, rNe, rIsN, rIsNotN, rIsB, rIsNotB, D.isNon, tVal, tAnd, tOr, tNot, eAnd, eOr, eNot, eIf, eChain, aNil, aCons, eTup, eLst, eDK, eDT, eCall, eCB, eBM, eDM, rLen, rIsA, isA, rList, rTuple, rInt, rMax2, gName, gTup, gCons, gNil, gSub, sNext, sSeq, sBreak, sCont, sAsg, sPar, sAug, sDrop, sRet, sRetN, sIf, outE, sg, ss, sw, swipe, tYes, isLst, isDct, box_ix0 X2, X2.hl, rPopAt]
      refine ⟨trivial, _, .int (n / m), rfl, by omega, by rw [ints_length]; have := X2.le; simp only [line]; omega, rfl, ?_⟩
      refine fin _ r ⟨?_, ?_, X2.ne, ?_⟩ (k2.mem (by simp))
      · rw [upd_ne X2.ne]; exact X2.hb
      · rw [upd_same]; rfl
      · have := X2.le; simp at this; omega
    by_cases e0 : n / m = 0
    · simp only [e0, decide_true, if_true] at popped ⊢
      exact popped
    · by_cases e1 : n / m = -1
      · simp only [e1, decide_true, if_true] at popped ⊢
        simp
        exact popped
      · simp only [e0, e1, decide_false, Bool.false_eq_true, if_false]
        exact fin h2 _ X2 k2
theorem u_law_take {h : Hp} {b l : Nat} {ns : List Int} {s m : Int} {Q : KV} {E : Xc → Hp → Prop} (X : Box h b l ns s) (m0 : 0 < m) (m1 : m < 1073741824) (q : ∀ r ns' s', 0 ≤ r → r < m → Box (boxH h b l ns' s') b l ns' s' → Q (.int r) (boxH h b l ns' s')) :
    sp_law_take [.ref b, .int m] h Q E := ⟨b, l, ns, s, m, rfl, X, ⟨m0, m1⟩, fun r ns' s' h0 h1 hl => q r ns' s' h0 h1 (box_boxH X.ne hl)⟩
theorem ok_law_hand : ∀ ds h Q E, sp_law_hand ds h Q E → r_law_hand (outE Q E) (start2 1 ds) h := by
  rintro ds h Q E ⟨b, l, ns, s, rfl, X, q⟩
  show r_law_hand (outE Q E) [some (.ref b)] h
  simp only [r_law_hand, s_law_hand_0, eVar, eC, eBin, eUn, rAdd, rSub, rMul, rDiv, rMod, rNeg, rLt, rLe, rGt, rGe, eqii, eqss, eqnn, eqni, eqin, eqbb, rNe, rIsN, rIsNotN, rIsB, rIsNotB, D.isNon, tVal, tAnd, tOr, tNot, eAnd, eOr, eNot, eIf, eChain, aNil, aCons, eTup, eLst, eDK, eDT, eCall, eCB, eBM, eDM, rLen, rIsA, isA, rList, rTuple, rInt, rMax2, gName, gTup, gCons, gNil, gSub, sNext, sSeq, sBreak, sCont, sAsg, sPar, sAug, sDrop, sRet, sRetN, sIf, outE, sg, ss, sw, swipe, tYes, isLst, isDct]
  refine ⟨by simp [line], fun p np => ?_⟩
  have X1 := X.new (o := .lst [D.str "n", D.str "e", D.str "s", D.str "w", D.str "mark", D.str ""]) np
  have k1 : Keep h [b, l] (upd h p (.lst [D.str "n", D.str "e", D.str "s", D.str "w", D.str "mark", D.str ""])) := (Keep.refl h _).new np
  have e1 : upd h p (.lst [D.str "n", D.str "e", D.str "s", D.str "w", D.str "mark", D.str ""]) p = some (.lst (handsS.map .str)) := upd_same
  have nb : p ≠ b := by intro z; subst z; rw [X.hb] at np; cases np
  have nl : p ≠ l := by intro z; subst z; rw [X.hl] at np; cases np
  generalize upd h p (.lst [D.str "n", D.str "e", D.str "s", D.str "w", D.str "mark", D.str ""]) = h1 at X1 k1 e1
  refine u_law_take X1 (by decide) (by decide) fun r ns' s' r0 r6 X2 => ?_
  have e2 : boxH h1 b l ns' s' p = some (.lst (handsS.map .str)) := by rw [boxH_ne nb nl]; exact e1
  have hl : r.toNat < handsS.length := by show r.toNat < 6; omega
  have hx : handsS[r.toNat]? = some handsS[r.toNat] := List.getElem?_eq_getElem hl
  rw [ix_lst e2 (atI_of r0 (by rw [List.getElem?_map, hx]; rfl))]
  exact ⟨_, k1.box.sub X2, q _ ns' s' (List.mem_of_getElem? hx) X2.le⟩
theorem u_law_hand {h : Hp} {b l : Nat} {ns : List Int} {s : Int} {Q : KV} {E : Xc → Hp → Prop} (X : Box h b l ns s) (q : ∀ x ns' s', x ∈ handsS → Box (boxH h b l ns' s') b l ns' s' → Q (.str x) (boxH h b l ns' s')) :
    sp_law_hand [.ref b] h Q E := ⟨b, l, ns, s, rfl, X, fun x ns' s' m hl => q x ns' s' m (box_boxH X.ne hl)⟩
end F

set_option linter.all false
set_option maxRecDepth 100000
namespace F
open PySem (Str PyData)
theorem erase_perm {α : Type} : ∀ {xs : List α} {i : Nat} {x : α}, xs[i]? = some x → xs.Perm (x :: xs.eraseIdx i)
  | [], _, _, e => by simp at e
  | y :: r, 0, x, e => by simp at e; subst e; exact .refl _
  | y :: r, i + 1, x, e => by
    have := erase_perm (xs := r) (i := i) (x := x) (by simpa using e)
    exact (List.Perm.cons y this).trans (List.Perm.swap x y _)
theorem pop_perm {α : Type} {u xs : List α} {i : Nat} {x : α} (e : xs[i]? = some x) : (u ++ xs).Perm ((u ++ [x]) ++ xs.eraseIdx i) := by
  have := (erase_perm e).append_left u
  simpa using this
theorem erase_len {α : Type} {xs : List α} {i : Nat} {x : α} (e : xs[i]? = some x) : (xs.eraseIdx i).length = xs.length - 1 := by
  rw [List.length_eraseIdx, if_pos (lt_of_get e)]
theorem irange_getP {n : Int} {i : Nat} {x : D} (e : (irange 0 n)[i]? = some x) : x = .int (i : Int) ∧ (i : Int) < n := by
  unfold irange at e
  obtain ⟨j, hj, rfl⟩ := map_get e
  have hi := lt_of_get hj
  simp at hi
  rw [List.getElem?_range (by simpa using hi)] at hj
  cases hj
  exact ⟨by simp, by omega⟩
theorem irange_lengthP {n : Int} : (irange 0 n).length = n.toNat := by simp [irange]
theorem take_k {h0 h : Hp} {b l : Nat} {ns : List Int} {s m : Int} {Q : KV} {E : Xc → Hp → Prop} (k : Keep h0 [b, l] h) (X : Box h b l ns s) (m0 : 0 < m) (m1 : m < 1073741824)
    (q : ∀ r h' ns' s', 0 ≤ r → r < m → Box h' b l ns' s' → Keep h0 [b, l] h' → (∀ a, a ≠ b → a ≠ l → h' a = h a) → Q (.int r) h') : sp_law_take [.ref b, .int m] h Q E :=
  u_law_take X m0 m1 fun r ns' s' r0 r1 X' => q r _ ns' s' r0 r1 X' k.box fun a n1 n2 => boxH_ne n1 n2
theorem Box.ne_new {h : Hp} {b l p : Nat} {ns : List Int} {s : Int} (x : Box h b l ns s) (n : h p = none) : p ≠ b ∧ p ≠ l :=
  ⟨Ne.symm (ne_of_none x.hb n), Ne.symm (ne_of_none x.hl n)⟩
theorem Keep.none_box {h h' : Hp} {b l p : Nat} {ns : List Int} {s : Int} (k : Keep h [b, l] h') (x : Box h' b l ns s) (n : h' p = Option.none) : h p = Option.none :=
  k.none (by have := x.ne_new n; simp [this.1, this.2]) n
theorem Box.upd {h : Hp} {b l p : Nat} {ns : List Int} {s : Int} {o : O} (x : Box h b l ns s) (n : p ≠ b ∧ p ≠ l) : Box (F.upd h p o) b l ns s :=
  ⟨by rw [upd_ne (Ne.symm n.1)]; exact x.hb, by rw [upd_ne (Ne.symm n.2)]; exact x.hl, x.ne, x.le⟩
/-- cells taken at random: what stands taken, what is left -/
structure Drawn (P : Cell → Prop) (n : Nat) (u cs : List Cell) : Prop where
  nd : (u ++ cs).Nodup
  all : ∀ c ∈ u ++ cs, P c
  len : u.length + cs.length = n
theorem Drawn.pop {P : Cell → Prop} {n i : Nat} {u cs : List Cell} {c : Cell} (d : Drawn P n u cs) (e : cs[i]? = some c) : Drawn P n (u ++ [c]) (cs.eraseIdx i) := by
  have p := pop_perm (u := u) e
  refine ⟨p.nodup_iff.mp d.nd, fun x hx => d.all x (p.mem_iff.mpr hx), ?_⟩
  have := d.len
  have := erase_len e
  have := lt_of_get e
  simp only [List.length_append, List.length_singleton]
  omega
theorem grid_drawn {w hh : Int} (hw : 2 ≤ w) (hh2 : 2 ≤ hh) : Drawn (fun c => 0 ≤ c.1 ∧ c.1 < w ∧ 0 ≤ c.2 ∧ c.2 < hh) (w * hh).toNat [] ((List.range (w * hh).toNat).map fun (k : Nat) => (((k : Int) % w, (k : Int) / w) : Cell)) := by
  refine ⟨?_, ?_, by simp⟩
  · rw [List.nil_append, List.nodup_iff_pairwise_ne, List.pairwise_map]
    refine (List.nodup_iff_pairwise_ne.mp List.nodup_range).imp fun {a b} n e => n ?_
    injection e with e1 e2
    have h1 := Int.emod_add_mul_ediv (a : Int) w
    have h2 := Int.emod_add_mul_ediv (b : Int) w
    rw [e1, e2] at h1
    omega
  · intro c hc
    rw [List.nil_append] at hc
    obtain ⟨k, hk, rfl⟩ := List.mem_map.mp hc
    rw [List.mem_range] at hk
    refine ⟨Int.emod_nonneg _ (by omega), Int.emod_lt_of_pos _ (by omega), Int.ediv_nonneg (by omega) (by omega), ?_⟩
    show (k : Int) / w < hh
    exact Int.ediv_lt_of_lt_mul (by omega) (by rw [Int.mul_comm]; omega)
theorem cells_erase {cs : List Cell} {i : Nat} : (cs.map cellD).eraseIdx i = (cs.eraseIdx i).map cellD := by
  induction cs generalizing i with
  | nil => rfl
  | cons x r ih => cases i with
    | zero => rfl
    | succ i => simp only [List.map_cons, List.eraseIdx_cons_succ]; rw [ih]
theorem cells_snoc {cs : List Cell} {c : Cell} : cs.map cellD ++ [cellD c] = (cs ++ [c]).map cellD := by simp
/-- starts.append(cells.pop(take(box, len(cells)))) -/
theorem draw_one {h0 h : Hp} {b l a d : Nat} {ns : List Int} {s : Int} {cs us : List Cell} {σ : St} {ib ia id : Nat} {D2 : Ends} (k : Keep h0 [b, l] h) (X : Box h b l ns s) (ha : h a = some (.lst (cs.map cellD))) (hd : h d = some (.lst (us.map cellD)))
    (na : h0 a = none) (nd : h0 d = none) (za : a ≠ b ∧ a ≠ l) (zd : d ≠ b ∧ d ≠ l) (ad : a ≠ d) (c0 : 0 < cs.length) (c1 : cs.length ≤ 1000) (u1 : us.length ≤ 1000)
    (sb : sg σ ib = some (.ref b)) (sa : sg σ ia = some (.ref a)) (sd : sg σ id = some (.ref d))
    (q : ∀ i c h' ns' s', cs[i]? = some c → Keep h0 [b, l] h' → Box h' b l ns' s' → h' a = some (.lst ((cs.eraseIdx i).map cellD)) → h' d = some (.lst ((us ++ [c]).map cellD)) → (∀ x, x ≠ b → x ≠ l → x ≠ a → x ≠ d → h' x = h x) → D2.nx σ h') :
    sDrop (eBM rAppend (eVar id) (aCons (eBM rPopAt (eVar ia) (aCons (eCall sp_law_take (aCons (eVar ib) (aCons (eCB rLen (aCons (eVar ia) aNil)) aNil))) aNil)) aNil)) D2 σ h := by
  simp only [sDrop, eBM, eVar, aCons, aNil, eCall, eCB, sb, sa, sd, isLst, ha, hd, rLen, List.length_map]
  refine ⟨trivial, trivial, take_k k X (by omega) (by omega) fun r h' ns' s' r0 r1 X' k' eq => ?_⟩
  have ha' : h' a = some (.lst (cs.map cellD)) := by rw [eq a za.1 za.2]; exact ha
  have hd' : h' d = some (.lst (us.map cellD)) := by rw [eq d zd.1 zd.2]; exact hd
  have hr : r.toNat < cs.length := by omega
  have hc : cs[r.toNat]? = some cs[r.toNat] := List.getElem?_eq_getElem hr
  refine ⟨_, cellD cs[r.toNat], ha', r0, by simp [line]; omega, by rw [List.getElem?_map, hc]; rfl, ?_⟩
  rw [cells_erase]
  refine ⟨_, by rw [upd_ne (Ne.symm ad)]; exact hd', by simp [line]; omega, ?_⟩
  rw [cells_snoc]
  exact q r.toNat _ _ ns' s' hc ((k'.own na).own nd) ((X'.upd za).upd zd) (by rw [upd_ne ad]; exact upd_same) upd_same fun x x1 x2 x3 x4 => by rw [upd_ne x4, upd_ne x3, eq x x1 x2]
theorem ok_law_plan : ∀ ds h Q E, sp_law_plan ds h Q E → r_law_plan (outE Q E) (start2 9 ds) h := by
  rintro ds h Q E ⟨b, l, ns, s, rfl, X, q⟩
  show r_law_plan (outE Q E) [some (.ref b), none, none, none, none, none, none, none, none] h
  simp only [r_law_plan, s_law_plan_0, eVar, eC, eBin, eUn, rAdd, rSub, rMul, rDiv, rMod, rNeg, rLt, rLe, rGt, rGe, eqii, eqss, eqnn, eqni, eqin, eqbb, rNe, rIsN, rIsNotN, rIsB, rIsNotB, D.isNon, tVal, tAnd, tOr, tNot, eAnd, eOr, eNot, eIf, eChain, aNil, aCons, eTup, eLst, eDK, eDT, eCall, eCB, eBM, eDM, rLen, rIsA, isA, rList, rTuple, rInt, rMax2, gName, gTup, gCons, gNil, gSub, sNext, sSeq, sBreak, sCont, sAsg, sPar, sAug, sDrop, sRet, sRetN, sIf, outE, sg, ss, sw, swipe, tYes, isLst, isDct]
  refine take_k (Keep.refl h _) X (by decide) (by decide) fun w0 h1 ns1 s1 w00 w03 X1 k1 _ => ?_
  refine take_k k1 X1 (by decide) (by decide) fun g0 h2 ns2 s2 g00 g03 X2 k2 _ => ?_
  refine ⟨by simp [line], rfl, ?_⟩
  obtain ⟨w, hw⟩ : ∃ w, w = 2 + w0 := ⟨_, rfl⟩
  obtain ⟨g, hg⟩ : ∃ g, g = 2 + g0 := ⟨_, rfl⟩
  rw [← hw, ← hg]
  have w2 : 2 ≤ w := by omega
  have w4 : w ≤ 4 := by omega
  have g2 : 2 ≤ g := by omega
  have g4 : g ≤ 4 := by omega
  have wg : w * g ≤ 4 * 4 := Int.mul_le_mul w4 g4 (by omega) (by omega)
  have wg4 : 2 * 2 ≤ w * g := Int.mul_le_mul w2 g2 (by omega) (by omega)
  -- the cells
  simp only [s_law_plan_1, eVar, eC, eBin, eUn, rAdd, rSub, rMul, rDiv, rMod, rNeg, rLt, rLe, rGt, rGe, eqii, eqss, eqnn, eqni, eqin, eqbb, rNe, rIsN, rIsNotN, rIsB, rIsNotB, D.isNon, tVal, tAnd, tOr, tNot, eAnd, eOr, eNot, eIf, eChain, aNil, aCons, eTup, eLst, eDK, eDT, eCall, eCB, eBM, eDM, rLen, rIsA, isA, rList, rTuple, rInt, rMax2, gName, gTup, gCons, gNil, gSub, sNext, sSeq, sBreak, sCont, sAsg, sPar, sAug, sDrop, sRet, sRetN, sIf, outE, sg, ss, sw, swipe, tYes, isLst, isDct]
  unfold eLc
  simp only [iRng, eVar, eC, eBin, eUn, rAdd, rSub, rMul, rDiv, rMod, rNeg, rLt, rLe, rGt, rGe, eqii, eqss, eqnn, eqni, eqin, eqbb, rNe, rIsN, rIsNotN, rIsB, rIsNotB, D.isNon, tVal, tAnd, tOr, tNot, eAnd, eOr, eNot, eIf, eChain, aNil, aCons, eTup, eLst, eDK, eDT, eCall, eCB, eBM, eDM, rLen, rIsA, isA, rList, rTuple, rInt, rMax2, gName, gTup, gCons, gNil, gSub, sNext, sSeq, sBreak, sCont, sAsg, sPar, sAug, sDrop, sRet, sRetN, sIf, outE, sg, ss, sw, swipe, tYes, isLst, isDct]
  refine ⟨.inl ⟨by omega, by omega⟩, ⟨by omega, by omega⟩, fun i acc h' => h' = h2 ∧ acc = ((List.range i).map fun (k : Nat) => (((k : Int) % w, (k : Int) / w) : Cell)).map cellD, ⟨rfl, rfl⟩, by rw [irange_lengthP]; simp only [line]; omega, ?_, ?_⟩
  · rintro i x acc h' hx ⟨rfl, rfl⟩
    obtain ⟨rfl, hi⟩ := irange_getP hx
    refine ⟨trivial, ?_⟩
    simp only [if_true]
    refine ⟨by omega, ⟨by omega, by omega⟩, by simp [line], trivial, ?_⟩
    rw [List.range_succ, List.map_append, List.map_append]
    rfl
  rintro acc h' ⟨rfl, rfl⟩
  refine ⟨trivial, fun a na => ?_⟩
  rw [irange_lengthP]
  have D0 := grid_drawn w2 g2
  obtain ⟨cs, hcs⟩ : ∃ cs, cs = ((List.range (w * g).toNat).map fun (k : Nat) => (((k : Int) % w, (k : Int) / w) : Cell)) := ⟨_, rfl⟩
  rw [← hcs] at D0 ⊢
  obtain ⟨n, hn⟩ : ∃ n, n = (w * g).toNat := ⟨_, rfl⟩
  rw [← hn] at D0
  have n4 : 4 ≤ n := by omega
  have n16 : n ≤ 16 := by omega
  have a0 : h a = none := k2.none_box X2 na
  have za := X2.ne_new na
  have k3 := k2.new (o := .lst (cs.map cellD)) na
  have X3 := X2.new (o := .lst (cs.map cellD)) na
  have ha3 : upd h' a (.lst (cs.map cellD)) a = some (.lst (cs.map cellD)) := upd_same
  generalize upd h' a (.lst (cs.map cellD)) = h3 at k3 X3 ha3
  -- the starts
  simp only [s_law_plan_2, eVar, eC, eBin, eUn, rAdd, rSub, rMul, rDiv, rMod, rNeg, rLt, rLe, rGt, rGe, eqii, eqss, eqnn, eqni, eqin, eqbb, rNe, rIsN, rIsNotN, rIsB, rIsNotB, D.isNon, tVal, tAnd, tOr, tNot, eAnd, eOr, eNot, eIf, eChain, aNil, aCons, eTup, eLst, eDK, eDT, eCall, eCB, eBM, eDM, rLen, rIsA, isA, rList, rTuple, rInt, rMax2, gName, gTup, gCons, gNil, gSub, sNext, sSeq, sBreak, sCont, sAsg, sPar, sAug, sDrop, sRet, sRetN, sIf, outE, sg, ss, sw, swipe, tYes, isLst, isDct]
  refine ⟨by simp [line], fun d nd => ?_⟩
  have d0 : h d = none := k3.none_box X3 nd
  have zd := X3.ne_new nd
  have ad : a ≠ d := ne_of_none ha3 nd
  have k4 := k3.new (o := .lst []) nd
  have X4 := X3.new (o := .lst []) nd
  have ha4 : upd h3 d (.lst []) a = some (.lst (cs.map cellD)) := by rw [upd_ne ad]; exact ha3
  have hd4 : upd h3 d (.lst []) d = some (.lst (([] : List Cell).map cellD)) := upd_same
  generalize upd h3 d (.lst []) = h4 at k4 X4 ha4 hd4
  simp only [s_law_plan_4]
  unfold sFor
  simp only [iRng, eVar, eC, eBin, eUn, rAdd, rSub, rMul, rDiv, rMod, rNeg, rLt, rLe, rGt, rGe, eqii, eqss, eqnn, eqni, eqin, eqbb, rNe, rIsN, rIsNotN, rIsB, rIsNotB, D.isNon, tVal, tAnd, tOr, tNot, eAnd, eOr, eNot, eIf, eChain, aNil, aCons, eTup, eLst, eDK, eDT, eCall, eCB, eBM, eDM, rLen, rIsA, isA, rList, rTuple, rInt, rMax2, gName, gTup, gCons, gNil, gSub, sNext, sSeq, sBreak, sCont, sAsg, sPar, sAug, sDrop, sRet, sRetN, sIf, outE, sg, ss, sw, swipe, tYes, isLst, isDct]
  refine ⟨by simp [line], fun x nx => ?_⟩
  have zx := X4.ne_new nx
  have xa : a ≠ x := ne_of_none ha4 nx
  have xd : d ≠ x := ne_of_none hd4 nx
  have k5 := k4.new (o := .lst [.int 3, .int 4]) nx
  have X5 := X4.new (o := .lst [.int 3, .int 4]) nx
  refine take_k k5 X5 (by decide) (by decide) fun r h6 ns6 s6 r0 r2 X6 k6 e6 => ?_
  have hx6 : h6 x = some (.lst [.int 3, .int 4]) := by rw [e6 x zx.1 zx.2]; exact upd_same
  have ha6 : h6 a = some (.lst (cs.map cellD)) := by rw [e6 a za.1 za.2, upd_ne xa]; exact ha4
  have hd6 : h6 d = some (.lst (([] : List Cell).map cellD)) := by rw [e6 d zd.1 zd.2, upd_ne xd]; exact hd4
  obtain ⟨m, hm, hm3⟩ : ∃ m : Int, atI [.int 3, .int 4] r = some (.int m) ∧ (3 ≤ m ∧ m ≤ 4) := by
    rcases (by omega : r = 0 ∨ r = 1) with rfl | rfl
    · exact ⟨3, rfl, by decide⟩
    · exact ⟨4, rfl, by decide⟩
  rw [ix_lst hx6 hm]
  refine take_k k6 X6 (by omega) (by omega) fun cn h7 ns7 s7 cn0 cn1 X7 k7 e7 => ?_
  have ha7 : h7 a = some (.lst (cs.map cellD)) := by rw [e7 a za.1 za.2]; exact ha6
  have hd7 : h7 d = some (.lst (([] : List Cell).map cellD)) := by rw [e7 d zd.1 zd.2]; exact hd6
  refine ⟨⟨by omega, by omega⟩, fun i σ h' => ∃ y us cs' ns' s', σ = [some (.ref b), some (.ref a), some (.ref d), y, none, none, some (.int w), some (.int g), none] ∧ Keep h [b, l] h' ∧ Box h' b l ns' s' ∧ h' a = some (.lst (cs'.map cellD)) ∧ h' d = some (.lst (us.map cellD)) ∧
    us.length = i ∧ Drawn (fun c => 0 ≤ c.1 ∧ c.1 < w ∧ 0 ≤ c.2 ∧ c.2 < g) n us cs', ⟨_, [], cs, ns7, s7, rfl, k7, X7, ha7, hd7, rfl, D0⟩, ?_, ?_⟩
  · rintro i y σ h' hy ⟨_, us, cs', ns', s', rfl, k', X', ha', hd', ul, D'⟩
    obtain ⟨rfl, hi⟩ := irange_getP hy
    refine ⟨trivial, ?_⟩
    have := D'.len
    unfold s_law_plan_3
    refine draw_one k' X' ha' hd' a0 d0 za zd ad (by omega) (by omega) (by omega) rfl rfl rfl fun j c h'' ns'' s'' hc k'' X'' ha'' hd'' _ => ?_
    exact ⟨_, _, _, _, _, rfl, k'', X'', ha'', hd'', by simp [ul], D'.pop hc⟩
  rintro σ h8 ⟨y, st, cs8, ns8, s8, rfl, k8, X8, ha8, hd8, stl, D8⟩
  rw [irange_lengthP] at stl
  refine ⟨trivial, ?_⟩
  -- the blocks
  simp only [s_law_plan_5, eVar, eC, eBin, eUn, rAdd, rSub, rMul, rDiv, rMod, rNeg, rLt, rLe, rGt, rGe, eqii, eqss, eqnn, eqni, eqin, eqbb, rNe, rIsN, rIsNotN, rIsB, rIsNotB, D.isNon, tVal, tAnd, tOr, tNot, eAnd, eOr, eNot, eIf, eChain, aNil, aCons, eTup, eLst, eDK, eDT, eCall, eCB, eBM, eDM, rLen, rIsA, isA, rList, rTuple, rInt, rMax2, gName, gTup, gCons, gNil, gSub, sNext, sSeq, sBreak, sCont, sAsg, sPar, sAug, sDrop, sRet, sRetN, sIf, outE, sg, ss, sw, swipe, tYes, isLst, isDct]
  refine ⟨by simp [line], fun e ne => ?_⟩
  have e0 : h e = none := k8.none_box X8 ne
  have ze := X8.ne_new ne
  have ae : a ≠ e := ne_of_none ha8 ne
  have de : d ≠ e := ne_of_none hd8 ne
  have k9 := k8.new (o := .lst []) ne
  have X9 := X8.new (o := .lst []) ne
  have ha9 : upd h8 e (.lst []) a = some (.lst (cs8.map cellD)) := by rw [upd_ne ae]; exact ha8
  have hd9 : upd h8 e (.lst []) d = some (.lst (st.map cellD)) := by rw [upd_ne de]; exact hd8
  have he9 : upd h8 e (.lst []) e = some (.lst (([] : List Cell).map cellD)) := upd_same
  generalize upd h8 e (.lst []) = h9 at k9 X9 ha9 hd9 he9
  simp only [s_law_plan_8]
  unfold sFor
  simp only [iRng, eVar, eC, eBin, eUn, rAdd, rSub, rMul, rDiv, rMod, rNeg, rLt, rLe, rGt, rGe, eqii, eqss, eqnn, eqni, eqin, eqbb, rNe, rIsN, rIsNotN, rIsB, rIsNotB, D.isNon, tVal, tAnd, tOr, tNot, eAnd, eOr, eNot, eIf, eChain, aNil, aCons, eTup, eLst, eDK, eDT, eCall, eCB, eBM, eDM, rLen, rIsA, isA, rList, rTuple, rInt, rMax2, gName, gTup, gCons, gNil, gSub, sNext, sSeq, sBreak, sCont, sAsg, sPar, sAug, sDrop, sRet, sRetN, sIf, outE, sg, ss, sw, swipe, tYes, isLst, isDct]
  refine take_k k9 X9 (by decide) (by decide) fun cb hA nsA sA cb0 cb1 XA kA eA => ?_
  have haA : hA a = some (.lst (cs8.map cellD)) := by rw [eA a za.1 za.2]; exact ha9
  have hdA : hA d = some (.lst (st.map cellD)) := by rw [eA d zd.1 zd.2]; exact hd9
  have heA : hA e = some (.lst (([] : List Cell).map cellD)) := by rw [eA e ze.1 ze.2]; exact he9
  refine ⟨⟨by omega, by omega⟩, fun i σ h' => ∃ z us cs' ns' s', σ = [some (.ref b), some (.ref a), some (.ref d), y, some (.ref e), z, some (.int w), some (.int g), none] ∧ Keep h [b, l] h' ∧ Box h' b l ns' s' ∧ h' a = some (.lst (cs'.map cellD)) ∧ h' d = some (.lst (st.map cellD)) ∧ h' e = some (.lst (us.map cellD)) ∧
    us.length ≤ i ∧ Drawn (fun c => 0 ≤ c.1 ∧ c.1 < w ∧ 0 ≤ c.2 ∧ c.2 < g) n (st ++ us) cs', ⟨_, [], cs8, nsA, sA, rfl, kA, XA, haA, hdA, heA, by simp, by simpa using D8⟩, ?_, ?_⟩
  · rintro i z σ h' hz ⟨_, us, cs', ns', s', rfl, k', X', ha', hd', he', ul, D'⟩
    obtain ⟨rfl, hi⟩ := irange_getP hz
    refine ⟨trivial, ?_⟩
    have := D'.len
    simp only [List.length_append] at this
    simp only [s_law_plan_7, eVar, eC, eBin, eUn, rAdd, rSub, rMul, rDiv, rMod, rNeg, rLt, rLe, rGt, rGe, eqii, eqss, eqnn, eqni, eqin, eqbb, rNe, rIsN, rIsNotN, rIsB, rIsNotB, D.isNon, tVal, tAnd, tOr, tNot, eAnd, eOr, eNot, eIf, eChain, aNil, aCons, eTup, eLst, eDK, eDT, eCall, eCB, eBM, eDM, rLen, rIsA, isA, rList, rTuple, rInt, rMax2, gName, gTup, gCons, gNil, gSub, sNext, sSeq, sBreak, sCont, sAsg, sPar, sAug, sDrop, sRet, sRetN, sIf, outE, sg, ss, sw, swipe, tYes, isLst, isDct, ha', List.length_map]
    by_cases c1 : (1 : Int) < (cs'.length : Int)
    · simp only [c1, decide_true, if_true]
      unfold s_law_plan_6
      refine draw_one k' X' ha' he' a0 e0 za ze ae (by omega) (by omega) (by omega) rfl rfl rfl fun j c h'' ns'' s'' hc k'' X'' ha'' he'' ee => ?_
      exact ⟨_, _, _, _, _, rfl, k'', X'', ha'', by rw [ee d zd.1 zd.2 (Ne.symm ad) de]; exact hd', he'', by simp; omega, by have := D'.pop hc; simpa using this⟩
    · simp only [c1, decide_false, Bool.false_eq_true, if_false]
      exact ⟨_, us, cs', ns', s', rfl, k', X', by first | rfl | exact ha', hd', he', by omega, D'⟩
  rintro σ hB ⟨z, bk, csB, nsB, sB, rfl, kB, XB, haB, hdB, heB, bl, DB⟩
  refine ⟨trivial, ?_⟩
  simp only [s_law_plan_9, eVar, eC, eBin, eUn, rAdd, rSub, rMul, rDiv, rMod, rNeg, rLt, rLe, rGt, rGe, eqii, eqss, eqnn, eqni, eqin, eqbb, rNe, rIsN, rIsNotN, rIsB, rIsNotB, D.isNon, tVal, tAnd, tOr, tNot, eAnd, eOr, eNot, eIf, eChain, aNil, aCons, eTup, eLst, eDK, eDT, eCall, eCB, eBM, eDM, rLen, rIsA, isA, rList, rTuple, rInt, rMax2, gName, gTup, gCons, gNil, gSub, sNext, sSeq, sBreak, sCont, sAsg, sPar, sAug, sDrop, sRet, sRetN, sIf, outE, sg, ss, sw, swipe, tYes, isLst, isDct]
  refine ⟨_, hdB, _, heB, by simp [line], _, kB.sub XB, ?_⟩
  refine q ⟨w, g, st, bk⟩ nsB sB ⟨w2, by show w ≤ 6; omega, g2, by show g ≤ 6; omega, by show 1 ≤ st.length; omega, by show st.length ≤ 4; omega, fun c hc => DB.all c (List.mem_append_left _ hc), (List.nodup_append.mp DB.nd).1⟩ XB.le
end F

set_option linter.all false
set_option maxRecDepth 100000
namespace F
open PySem (Str PyData)
/-! places -/
theorem filter_first {c : List Int} {f : Int → Bool} {i : Nat} {v : Int} (hv : c[i]? = some v) (hf : f v = true) (k : Nat) (hk : k = c.findIdx f) : (i < k → False) := by
  intro h
  subst hk
  have hl := lt_of_get hv
  have := List.not_of_lt_findIdx h
  rw [List.getElem?_eq_getElem hl] at hv
  have e := Option.some.inj hv
  rw [e] at this
  simp [hf] at this
theorem ok_place_of : ∀ ds h Q E, sp_place_of ds h Q E → r_place_of (outE Q E) (start2 4 ds) h := by
  rintro ds h Q E ⟨a, c, s, rfl, ha, hp, hl, q⟩
  show r_place_of (outE Q E) [some (.ref a), some (.int s), none, none] h
  simp only [r_place_of, s_place_of_0, eVar, eC, eBin, eUn, rAdd, rSub, rMul, rDiv, rMod, rNeg, rLt, rLe, rGt, rGe, eqii, eqss, eqnn, eqni, eqin, eqbb, rNe, rIsN, rIsNotN, rIsB, rIsNotB, D.isNon, tVal, tAnd, tOr, tNot, eAnd, eOr, eNot, eIf, eChain, aNil, aCons, eTup, eLst, eDK, eDT, eCall, eCB, eBM, eDM, rLen, rIsA, isA, rList, rTuple, rInt, rMax2, gName, gTup, gCons, gNil, gSub, sNext, sSeq, sBreak, sCont, sAsg, sPar, sAug, sDrop, sRet, sRetN, sIf, outE, sg, ss, sw, swipe, tYes, isLst, isDct]
  unfold eLc
  simp only [iEnum, eVar, sg, ha]
  refine ⟨fun i acc h' => h' = h ∧ (i ≤ placeF c s → acc = []) ∧ (placeF c s < i → ∃ r, acc = .int (placeF c s : Nat) :: r), ⟨rfl, fun _ => rfl, fun z => absurd z (by omega)⟩, by rw [enum_lengthP, ints_length]; simp only [line]; omega, ?_, ?_⟩
  · rintro i x acc h' hx ⟨rfl, w1, w2⟩
    obtain ⟨y, hy, rfl⟩ := enum_getP hx
    obtain ⟨v, hv, rfl⟩ := map_get hy
    refine ⟨ha, ?_⟩
    simp only [eVar, eC, eBin, eUn, rAdd, rSub, rMul, rDiv, rMod, rNeg, rLt, rLe, rGt, rGe, eqii, eqss, eqnn, eqni, eqin, eqbb, rNe, rIsN, rIsNotN, rIsB, rIsNotB, D.isNon, tVal, tAnd, tOr, tNot, eAnd, eOr, eNot, eIf, eChain, aNil, aCons, eTup, eLst, eDK, eDT, eCall, eCB, eBM, eDM, rLen, rIsA, isA, rList, rTuple, rInt, rMax2, gName, gTup, gCons, gNil, gSub, sNext, sSeq, sBreak, sCont, sAsg, sPar, sAug, sDrop, sRet, sRetN, sIf, outE, sg, ss, sw, swipe, tYes, isLst, isDct, g_BLOCK, u_mover_of]
    refine ⟨rfl, ?_⟩
    have key : isPl s v = (if (!decide (v = -1)) = true then decide (v % 10 - 1 = s) else false) := by
      unfold isPl
      by_cases e : v = -1 <;> simp [e]
    have go : if isPl s v = true then h' = h' ∧ (i + 1 ≤ placeF c s → acc ++ [D.int (i : Int)] = []) ∧ (placeF c s < i + 1 → ∃ r, acc ++ [D.int (i : Int)] = .int (placeF c s : Nat) :: r) else h' = h' ∧ (i + 1 ≤ placeF c s → acc = []) ∧ (placeF c s < i + 1 → ∃ r, acc = .int (placeF c s : Nat) :: r) := by
      by_cases e : isPl s v = true
      · rw [if_pos e]
        have n1 := filter_first hv e _ rfl
        refine ⟨rfl, fun z => (n1 (Nat.lt_of_succ_le z)).elim, fun z => ?_⟩
        rcases Nat.lt_or_ge (placeF c s) i with z2 | z2
        · obtain ⟨r, rfl⟩ := w2 z2
          exact ⟨r ++ [.int (i : Int)], rfl⟩
        · have : placeF c s = i := by omega
          rw [w1 z2, this]
          exact ⟨[], rfl⟩
      · rw [if_neg e]
        have n1 : placeF c s ≠ i := by
          intro z
          have : isPl s (c[placeF c s]'hp) = true := List.findIdx_getElem (w := hp)
          subst z
          rw [List.getElem?_eq_getElem hp] at hv
          rw [Option.some.inj hv] at this
          exact e this
        exact ⟨rfl, fun z => w1 (by omega), fun z => w2 (by omega)⟩
    by_cases e : v = -1
    · have : isPl s v = false := by unfold isPl; simp [e]
      rw [this] at go
      simp [e] at go ⊢
      exact go
    · have : isPl s v = decide (v % 10 - 1 = s) := by unfold isPl; simp [e]
      rw [this] at go
      simp only [e, decide_false, Bool.not_false, if_true]
      by_cases e2 : v % 10 - 1 = s
      · simp only [e2, decide_true, if_true] at go ⊢
        exact ⟨trivial, go.2⟩
      · simp only [e2, decide_false, Bool.false_eq_true, if_false] at go ⊢
        exact ⟨trivial, go.2⟩
  · rintro acc h' ⟨rfl, w1, w2⟩
    refine ⟨ha, fun p np => ?_⟩
    have : placeF c s < (enum (intsD c)).length := by rw [enum_lengthP, ints_length]; exact hp
    obtain ⟨r, rfl⟩ := w2 this
    rw [ix_lst upd_same (v := .int (placeF c s : Nat)) (atI_of (by decide) rfl)]
    exact ⟨_, (Keep.refl h' []).new np |>.nil, q⟩
theorem u_place_of {a : Nat} {c : List Int} {s : Int} {h : Hp} {Q : KV} {E : Xc → Hp → Prop} (ha : h a = some (.lst (intsD c))) (hp : HasPl c s) (hl : c.length ≤ 36) (q : Q (.int (placeF c s : Nat)) h) : sp_place_of [.ref a, .int s] h Q E :=
  ⟨a, c, s, rfl, ha, hp, hl, q⟩
/-! beside -/
theorem wd_ix {kvs : List (Str × D)} {k : Str} {v : D} {h : Hp} {Q : KV} (e : look kvs k = some v) : rIx (.wd kvs) (.str k) h Q = Q v h := by simp [rIx, e]
theorem ways_at {x : Str} {d : Cell} {h : Hp} {Q : KV} (e : wayF x = some d) : rIx g_WAYS (.str x) h Q = Q (.ct [.int d.1, .int d.2]) h := by
  unfold wayF at e
  split at e
  · rename_i z; subst z; cases e; exact wd_ix rfl
  split at e
  · rename_i z; subst z; cases e; exact wd_ix rfl
  split at e
  · rename_i z; subst z; cases e; exact wd_ix rfl
  split at e
  · rename_i z; subst z; cases e; exact wd_ix rfl
  · cases e
theorem ct0 {x y : D} {h : Hp} {Q : KV} : rIx (.ct [x, y]) (.int 0) h Q = Q x h := by simp [rIx, atI, ixN]
theorem ct1 {x y : D} {h : Hp} {Q : KV} : rIx (.ct [x, y]) (.int 1) h Q = Q y h := by simp [rIx, atI, ixN]
theorem ok_beside : ∀ ds h Q E, sp_beside ds h Q E → r_beside (outE Q E) (start2 6 ds) h := by
  rintro ds h Q E ⟨p, n, x, d, rfl, ok, hw, q⟩
  show r_beside (outE Q E) [some (planD p), some (.int (n : Int)), some (.str x), none, none, none] h
  simp only [r_beside, s_beside_0, eVar, eC, eBin, eUn, rAdd, rSub, rMul, rDiv, rMod, rNeg, rLt, rLe, rGt, rGe, eqii, eqss, eqnn, eqni, eqin, eqbb, rNe, rIsN, rIsNotN, rIsB, rIsNotB, D.isNon, tVal, tAnd, tOr, tNot, eAnd, eOr, eNot, eIf, eChain, aNil, aCons, eTup, eLst, eDK, eDT, eCall, eCB, eBM, eDM, rLen, rIsA, isA, rList, rTuple, rInt, rMax2, gName, gTup, gCons, gNil, gSub, sNext, sSeq, sBreak, sCont, sAsg, sPar, sAug, sDrop, sRet, sRetN, sIf, outE, sg, ss, sw, swipe, tYes, isLst, isDct, u_cell_of ok]
  simp only [cellD, s_beside_1, eVar, eC, eBin, eUn, rAdd, rSub, rMul, rDiv, rMod, rNeg, rLt, rLe, rGt, rGe, eqii, eqss, eqnn, eqni, eqin, eqbb, rNe, rIsN, rIsNotN, rIsB, rIsNotB, D.isNon, tVal, tAnd, tOr, tNot, eAnd, eOr, eNot, eIf, eChain, aNil, aCons, eTup, eLst, eDK, eDT, eCall, eCB, eBM, eDM, rLen, rIsA, isA, rList, rTuple, rInt, rMax2, gName, gTup, gCons, gNil, gSub, sNext, sSeq, sBreak, sCont, sAsg, sPar, sAug, sDrop, sRet, sRetN, sIf, outE, sg, ss, sw, swipe, tYes, isLst, isDct, ways_at hw, ct0, ct1]
  refine ⟨rfl, by simp [line], ?_⟩
  have ec : D.tup [D.int ((n : Int) % p.w + d.1), D.int ((n : Int) / p.w + d.2)] = cellD (besC p n d) := rfl
  rw [ec]
  simp only [s_beside_2, eVar, eC, eBin, eUn, rAdd, rSub, rMul, rDiv, rMod, rNeg, rLt, rLe, rGt, rGe, eqii, eqss, eqnn, eqni, eqin, eqbb, rNe, rIsN, rIsNotN, rIsB, rIsNotB, D.isNon, tVal, tAnd, tOr, tNot, eAnd, eOr, eNot, eIf, eChain, aNil, aCons, eTup, eLst, eDK, eDT, eCall, eCB, eBM, eDM, rLen, rIsA, isA, rList, rTuple, rInt, rMax2, gName, gTup, gCons, gNil, gSub, sNext, sSeq, sBreak, sCont, sAsg, sPar, sAug, sDrop, sRet, sRetN, sIf, outE, sg, ss, sw, swipe, tYes, isLst, isDct, p0, p1, u_is_cell, u_spot_of ok]
  refine ?_
  unfold besF at q
  by_cases e : inB p (besC p n d)
  · have e' : decide (0 ≤ (besC p n d).1 ∧ (besC p n d).1 < p.w ∧ 0 ≤ (besC p n d).2 ∧ (besC p n d).2 < p.h) = true := decide_eq_true e
    rw [if_pos e] at q
    rw [e', if_pos rfl]
    refine ⟨h, Sub.refl h, ?_⟩
    have := spot_toNat e
    simp only [optD] at q
    rw [this] at q
    exact q
  · have e' : decide (0 ≤ (besC p n d).1 ∧ (besC p n d).1 < p.w ∧ 0 ≤ (besC p n d).2 ∧ (besC p n d).2 < p.h) = false := decide_eq_false e
    rw [if_neg e] at q
    rw [e', if_neg (by decide)]
    exact ⟨h, Sub.refl h, q⟩
theorem besF_lt {p : Plan} (ok : p.Ok) {k : Int} {d : Cell} {j : Nat} (e : besF p k d = some j) : j < p.n := by
  unfold besF at e
  split at e
  · rename_i b
    cases e
    exact spot_lt ok b
  · cases e
theorem ok_is_open : ∀ ds h Q E, sp_is_open ds h Q E → r_is_open (outE Q E) (start2 2 ds) h := by
  rintro ds h Q E ⟨a, c, k, rfl, ha, hk, q⟩
  show r_is_open (outE Q E) [some (.ref a), some (optD k)] h
  simp only [r_is_open, s_is_open_0, eVar, eC, eBin, eUn, rAdd, rSub, rMul, rDiv, rMod, rNeg, rLt, rLe, rGt, rGe, eqii, eqss, eqnn, eqni, eqin, eqbb, rNe, rIsN, rIsNotN, rIsB, rIsNotB, D.isNon, tVal, tAnd, tOr, tNot, eAnd, eOr, eNot, eIf, eChain, aNil, aCons, eTup, eLst, eDK, eDT, eCall, eCB, eBM, eDM, rLen, rIsA, isA, rList, rTuple, rInt, rMax2, gName, gTup, gCons, gNil, gSub, sNext, sSeq, sBreak, sCont, sAsg, sPar, sAug, sDrop, sRet, sRetN, sIf, outE, sg, ss, sw, swipe, tYes, isLst, isDct]
  cases k with
  | none =>
    simp only [optD]
    exact ⟨h, Sub.refl h, q⟩
  | some j =>
    have hj := hk j rfl
    have e1 : c[j]? = some c[j] := List.getElem?_eq_getElem hj
    have e2 : atI (intsD c) (j : Int) = some (.int c[j]) := atI_nat (by rw [ints_get, e1]; rfl)
    simp only [openF, e1] at q
    simp only [optD, Bool.not_false, if_true, ix_lst ha e2, eqii, g_BLOCK, u_mover_of]
    by_cases e : c[j] = -1
    · simp only [e] at q ⊢
      exact ⟨h, Sub.refl h, q⟩
    · simp only [e, decide_false, Bool.not_false, if_true]
      simp only [ne_eq, e, not_false_eq_true, decide_true, Bool.true_and] at q
      exact ⟨h, Sub.refl h, q⟩
theorem u_is_open {a : Nat} {c : List Int} {k : Option Nat} {h : Hp} {Q : KV} {E : Xc → Hp → Prop} (ha : h a = some (.lst (intsD c))) (hk : ∀ j, k = some j → j < c.length) (q : Q (.bl (openF c k)) h) : sp_is_open [.ref a, optD k] h Q E := ⟨a, c, k, rfl, ha, hk, q⟩
theorem set_int {a : Nat} {c : List Int} {j : Nat} {v : Int} {h : Hp} {Q : Hp → Prop} (e : h a = some (.lst (intsD c))) (hl : j < c.length) : rSet (.ref a) (.int (j : Int)) (.int v) h Q = Q (upd h a (.lst (intsD (c.set j v)))) := by
  rw [set_lst e (ixN_nat (by rw [ints_length]; exact hl)), ints_set]
theorem openF_lt {c : List Int} {j : Nat} (e : openF c (some j) = true) : j < c.length := by
  unfold openF at e
  simp only at e
  split at e
  · rename_i h; exact lt_of_get h
  · cases e
theorem ok_step : ∀ ds h Q E, sp_step ds h Q E → r_step (outE Q E) (start2 6 ds) h := by
  rintro ds h Q E ⟨p, a, c, s, x, d, rfl, ok, ha, hl, hp, hw, q⟩
  show r_step (outE Q E) [some (planD p), some (.ref a), some (.int (s : Int)), some (.str x), none, none] h
  have h36 := ok.n36
  simp only [r_step, s_step_0, s_step_1, s_step_4, s_step_2, s_step_3, eVar, eC, eBin, eUn, rAdd, rSub, rMul, rDiv, rMod, rNeg, rLt, rLe, rGt, rGe, eqii, eqss, eqnn, eqni, eqin, eqbb, rNe, rIsN, rIsNotN, rIsB, rIsNotB, D.isNon, tVal, tAnd, tOr, tNot, eAnd, eOr, eNot, eIf, eChain, aNil, aCons, eTup, eLst, eDK, eDT, eCall, eCB, eBM, eDM, rLen, rIsA, isA, rList, rTuple, rInt, rMax2, gName, gTup, gCons, gNil, gSub, sNext, sSeq, sBreak, sCont, sAsg, sPar, sAug, sDrop, sRet, sRetN, sIf, outE, sg, ss, sw, swipe, tYes, isLst, isDct]
  refine u_place_of ha hp (by omega) ?_
  refine ⟨p, placeF c s, x, d, rfl, ok, hw, ?_⟩
  refine u_is_open ha (fun j e => by rw [hl]; exact besF_lt ok e) ?_
  have e1 : atI (intsD c) ((placeF c s : Nat) : Int) = some (.int (c[placeF c s]'hp)) := atI_nat (by rw [ints_get, List.getElem?_eq_getElem hp]; rfl)
  have gd : c.getD (placeF c s) 0 = c[placeF c s]'hp := by simp [List.getD, List.getElem?_eq_getElem hp]
  unfold stepF at q
  simp only [gd] at q
  cases eb : besF p (placeF c s) d with
  | none =>
    rw [eb] at q
    simp only at q
    simp only [openF, Bool.false_eq_true, if_false]
    exact ⟨_, Sub.refl _, by rw [upd_self ha] at q; exact q⟩
  | some j =>
    rw [eb] at q
    simp only at q
    by_cases eo : openF c (some j) = true
    · rw [if_pos eo] at q
      have hj : j < (c.set (placeF c s) (c[placeF c s]'hp / 10 * 10)).length := by rw [List.length_set]; exact openF_lt eo
      have ev : ((c[placeF c s]'hp) / 10 - 1 + 1) * 10 + -1 + 1 = (c[placeF c s]'hp) / 10 * 10 := by omega
      have ew : ((s : Int) + 1) * 10 + (s : Int) + 1 = 11 * s + 11 := by omega
      have e3 : optD (some j) = .int (j : Int) := rfl
      simp only [eo, if_true, ix_lst ha e1, u_owner_of, u_code, ev, set_int ha hp, ew, e3, set_int upd_same hj, upd_upd]
      exact ⟨_, Sub.refl _, q⟩
    · rw [if_neg eo] at q
      simp only [eo, Bool.false_eq_true, if_false]
      exact ⟨_, Sub.refl _, by rw [upd_self ha] at q; exact q⟩
theorem markF_len {p : Plan} {s k : Nat} {c : List Int} {d : Cell} : (markF p s k c d).length = c.length := by
  unfold markF
  split
  · rfl
  · split <;> simp
theorem ok_mark : ∀ ds h Q E, sp_mark ds h Q E → r_mark (outE Q E) (start2 6 ds) h := by
  rintro ds h Q E ⟨p, a, c, s, rfl, ok, ha, hl, hp, q⟩
  show r_mark (outE Q E) [some (planD p), some (.ref a), some (.int (s : Int)), none, none, none] h
  have h36 := ok.n36
  simp only [r_mark, s_mark_0, eVar, eC, eBin, eUn, rAdd, rSub, rMul, rDiv, rMod, rNeg, rLt, rLe, rGt, rGe, eqii, eqss, eqnn, eqni, eqin, eqbb, rNe, rIsN, rIsNotN, rIsB, rIsNotB, D.isNon, tVal, tAnd, tOr, tNot, eAnd, eOr, eNot, eIf, eChain, aNil, aCons, eTup, eLst, eDK, eDT, eCall, eCB, eBM, eDM, rLen, rIsA, isA, rList, rTuple, rInt, rMax2, gName, gTup, gCons, gNil, gSub, sNext, sSeq, sBreak, sCont, sAsg, sPar, sAug, sDrop, sRet, sRetN, sIf, outE, sg, ss, sw, swipe, tYes, isLst, isDct]
  refine u_place_of ha hp (by omega) ?_
  obtain ⟨k, hk⟩ : ∃ k, k = placeF c s := ⟨_, rfl⟩
  rw [← hk] at q ⊢
  unfold s_mark_4 sFor
  simp only [iSeq, eC, g_WAYS]
  refine ⟨fun i σ h' => ∃ y z, σ = [some (planD p), some (.ref a), some (.int (s : Int)), some (.int (k : Int)), y, z] ∧ h' = upd h a (.lst (intsD ((([((0, -1) : Cell), (1, 0), (0, 1), (-1, 0)]).take i).foldl (markF p s k) c))), ⟨_, _, rfl, (upd_self ha).symm⟩, ?_, ?_⟩
  · rintro i x σ h' hx ⟨_, _, rfl, rfl⟩
    refine ⟨trivial, ?_⟩
    obtain ⟨y, d, e1, e2, e3⟩ : ∃ y d, x = .str y ∧ wayF y = some d ∧ ([((0, -1) : Cell), (1, 0), (0, 1), (-1, 0)])[i]? = some d := by
      rcases i with _ | _ | _ | _ | i
      · cases hx; exact ⟨_, _, rfl, rfl, rfl⟩
      · cases hx; exact ⟨_, _, rfl, rfl, rfl⟩
      · cases hx; exact ⟨_, _, rfl, rfl, rfl⟩
      · cases hx; exact ⟨_, _, rfl, rfl, rfl⟩
      · simp at hx
    subst e1
    simp only [gName, ss, sSeq, take_succ e3, List.foldl_append]
    have hlen : ∀ ds : List Cell, (ds.foldl (markF p s k) c).length = p.n := by
      intro ds
      rw [← hl]
      clear q hk hx hl hp
      have : ∀ (ds : List Cell) (c : List Int), (ds.foldl (markF p s k) c).length = c.length := by
        intro ds
        induction ds with
        | nil => intro c; rfl
        | cons d r ih => intro c; rw [List.foldl_cons, ih, markF_len]
      exact this ds c
    obtain ⟨c', hc'⟩ : ∃ c', c' = (([((0, -1) : Cell), (1, 0), (0, 1), (-1, 0)]).take i).foldl (markF p s k) c := ⟨_, rfl⟩
    have hl' := hlen (([((0, -1) : Cell), (1, 0), (0, 1), (-1, 0)]).take i)
    rw [← hc'] at hl' ⊢
    simp only [s_mark_1, s_mark_3, s_mark_2, eVar, eC, eBin, eUn, rAdd, rSub, rMul, rDiv, rMod, rNeg, rLt, rLe, rGt, rGe, eqii, eqss, eqnn, eqni, eqin, eqbb, rNe, rIsN, rIsNotN, rIsB, rIsNotB, D.isNon, tVal, tAnd, tOr, tNot, eAnd, eOr, eNot, eIf, eChain, aNil, aCons, eTup, eLst, eDK, eDT, eCall, eCB, eBM, eDM, rLen, rIsA, isA, rList, rTuple, rInt, rMax2, gName, gTup, gCons, gNil, gSub, sNext, sSeq, sBreak, sCont, sAsg, sPar, sAug, sDrop, sRet, sRetN, sIf, outE, sg, ss, sw, swipe, tYes, isLst, isDct]
    refine ⟨p, k, y, d, rfl, ok, e2, ?_⟩
    refine u_is_open upd_same (fun j e => by rw [hl']; exact besF_lt ok e) ?_
    show if openF c' (besF p (k : Int) d) = true then _ else _
    have hm : markF p s k c' d = (match besF p k d with
      | none => c'
      | some j => if openF c' (some j) = true then c'.set j (10 * (s : Int) + 10) else c') := rfl
    simp only [List.foldl_cons, List.foldl_nil]
    rw [hm]
    cases eb : besF p k d with
    | none =>
      simp only [openF, Bool.false_eq_true, if_false]
      exact ⟨_, _, rfl, trivial⟩
    | some j =>
      by_cases eo : openF c' (some j) = true
      · have ew : ((s : Int) + 1) * 10 + -1 + 1 = 10 * s + 10 := by omega
        have e3 : optD (some j) = .int (j : Int) := rfl
        simp only [eo, if_true, u_code, ew, e3, set_int upd_same (openF_lt eo), upd_upd]
        exact ⟨_, _, rfl, trivial⟩
      · simp only [eo, Bool.false_eq_true, if_false]
        exact ⟨_, _, rfl, trivial⟩
  · rintro σ h' ⟨_, _, rfl, rfl⟩
    exact ⟨trivial, _, Sub.refl _, q⟩
end F

set_option linter.all false
set_option maxRecDepth 100000
namespace F
open PySem (Str PyData)
section
variable {p : Plan} {c : List Int} {pl : Nat → Nat}
theorem Good.ne (g : Good p c pl) {k : Nat} {v : Int} (e : c[k]? = some v) : v ≠ -1 ↔ ¬ isB p k := by
  constructor
  · exact fun h b => h (g.blk k v e b)
  · intro b h
    have := (g.fre k v e b).1
    omega
theorem Good.isPl (g : Good p c pl) {s k : Nat} {v : Int} (hs : s < p.many) (e : c[k]? = some v) : isPl s v = decide (k = pl s) := by
  unfold F.isPl
  by_cases h : isB p k
  · have h1 := g.blk k v e h
    have : k ≠ pl s := by
      intro z
      obtain ⟨_, _, h2, _⟩ := g.pls s hs
      exact h2 (z ▸ h)
    simp [h1, this]
  · have h1 := (g.ne e).mpr h
    by_cases h2 : v % 10 - 1 = s
    · have := g.unq s k v hs e h h2
      simp [h1, h2, this]
    · have : k ≠ pl s := by
        intro z
        obtain ⟨u, e2, _, h3⟩ := g.pls s hs
        rw [z, e2] at e
        cases e
        exact h2 h3
      simp [h1, h2, this]
theorem Good.lt (g : Good p c pl) {s : Nat} (hs : s < p.many) : pl s < c.length := by
  obtain ⟨u, e2, _⟩ := g.pls s hs
  exact lt_of_get e2
theorem Good.place (g : Good p c pl) {s : Nat} (hs : s < p.many) : placeF c s = pl s := by
  have hl := g.lt hs
  unfold placeF
  rw [List.findIdx_eq hl]
  refine ⟨by rw [g.isPl hs (List.getElem?_eq_getElem hl)]; simp, fun j hj => ?_⟩
  rw [g.isPl hs (List.getElem?_eq_getElem (Nat.lt_trans hj hl))]
  simp; omega
theorem Good.has (g : Good p c pl) {s : Nat} (hs : s < p.many) : HasPl c s := by
  unfold HasPl
  rw [g.place hs]
  exact g.lt hs
theorem openF_iff (g : Good p c pl) {j : Nat} : openF c (some j) = true ↔ ∃ v, c[j]? = some v ∧ ¬ isB p j ∧ v % 10 = 0 := by
  unfold openF
  cases e : c[j]? with
  | none => simp [e]
  | some v =>
    simp only [e]
    rw [Bool.and_eq_true, decide_eq_true_iff, decide_eq_true_iff, g.ne e]
    constructor
    · rintro ⟨h1, h2⟩
      have := (g.fre j v e h1).1
      exact ⟨v, rfl, h1, by omega⟩
    · rintro ⟨u, h0, h1, h2⟩
      cases h0
      exact ⟨h1, by omega⟩
theorem set_get {α : Type} {c : List α} {j k : Nat} {v u : α} (e : (c.set j v)[k]? = some u) : (k = j ∧ u = v) ∨ (k ≠ j ∧ c[k]? = some u) := by
  rw [List.getElem?_set] at e
  by_cases h : j = k
  · rw [if_pos h] at e
    split at e
    · exact .inl ⟨h.symm, (Option.some.inj e).symm⟩
    · cases e
  · rw [if_neg h] at e; exact .inr ⟨Ne.symm h, e⟩
theorem Good.mark (g : Good p c pl) (ok : p.Ok) {s j : Nat} (hs : s < p.many) (ho : openF c (some j) = true) : Good p (c.set j (10 * (s : Int) + 10)) pl := by
  obtain ⟨v0, e0, b0, m0⟩ := (openF_iff g).mp ho
  have hj := lt_of_get e0
  have h4 := ok.s4
  have nj : ∀ t, t < p.many → pl t ≠ j := by
    intro t ht z
    obtain ⟨u, e2, _, h3⟩ := g.pls t ht
    rw [z, e0] at e2; cases e2; omega
  refine ⟨by rw [List.length_set]; exact g.len, fun k v e b => ?_, fun k v e b => ?_, fun t ht => ?_, fun t k v ht e b h => ?_⟩
  · rcases set_get e with ⟨rfl, rfl⟩ | ⟨n, e⟩
    · exact absurd b b0
    · exact g.blk k v e b
  · rcases set_get e with ⟨rfl, rfl⟩ | ⟨n, e⟩
    · exact ⟨by omega, by omega, by omega⟩
    · exact g.fre k v e b
  · obtain ⟨u, e2, b2, h3⟩ := g.pls t ht
    exact ⟨u, by rw [List.getElem?_set, if_neg (Ne.symm (nj t ht))]; exact e2, b2, h3⟩
  · rcases set_get e with ⟨rfl, rfl⟩ | ⟨n, e⟩
    · omega
    · exact g.unq t k v ht e b h
theorem Good.step (g : Good p c pl) (ok : p.Ok) {s j : Nat} (hs : s < p.many) (ho : openF c (some j) = true) : Good p ((c.set (pl s) (c.getD (pl s) 0 / 10 * 10)).set j (11 * (s : Int) + 11)) (fun t => if t = s then j else pl t) := by
  obtain ⟨v0, e0, b0, m0⟩ := (openF_iff g).mp ho
  have hj := lt_of_get e0
  have h4 := ok.s4
  have nj : ∀ t, t < p.many → pl t ≠ j := by
    intro t ht z
    obtain ⟨u, e2, _, h3⟩ := g.pls t ht
    rw [z, e0] at e2; cases e2; omega
  obtain ⟨u, eu, bu, hu⟩ := g.pls s hs
  have gd : c.getD (pl s) 0 = u := by simp [List.getD, eu]
  have fu := g.fre _ _ eu bu
  rw [gd]
  have np : ∀ t, t < p.many → t ≠ s → pl t ≠ pl s := by
    intro t ht n z
    obtain ⟨u', e2, _, h3⟩ := g.pls t ht
    rw [z, eu] at e2; cases e2; omega
  refine ⟨by rw [List.length_set, List.length_set]; exact g.len, fun k v e b => ?_, fun k v e b => ?_, fun t ht => ?_, fun t k v ht e b h => ?_⟩
  · rcases set_get e with ⟨rfl, rfl⟩ | ⟨n, e⟩
    · exact absurd b b0
    · rcases set_get e with ⟨rfl, rfl⟩ | ⟨n, e⟩
      · exact absurd b bu
      · exact g.blk k v e b
  · rcases set_get e with ⟨rfl, rfl⟩ | ⟨n, e⟩
    · exact ⟨by omega, by omega, by omega⟩
    · rcases set_get e with ⟨rfl, rfl⟩ | ⟨n, e⟩
      · exact ⟨by omega, by omega, by omega⟩
      · exact g.fre k v e b
  · by_cases q : t = s
    · subst q
      refine ⟨11 * t + 11, ?_, by simpa using b0, by omega⟩
      simp only [if_true]
      rw [List.getElem?_set, if_pos rfl, if_pos (by rw [List.length_set]; exact hj)]
    · simp only [if_neg q]
      obtain ⟨u, e2, b2, h3⟩ := g.pls t ht
      exact ⟨u, by rw [List.getElem?_set, if_neg (Ne.symm (nj t ht)), List.getElem?_set, if_neg (Ne.symm (np t ht q))]; exact e2, b2, h3⟩
  · rcases set_get e with ⟨rfl, rfl⟩ | ⟨n, e⟩
    · have : t = s := by omega
      rw [if_pos this]
    · rcases set_get e with ⟨rfl, rfl⟩ | ⟨n2, e⟩
      · omega
      · have e2 := g.unq t k v ht e b h
        rw [if_neg, e2]
        intro z
        rw [z] at e2
        exact n2 e2
theorem Good.markF (g : Good p c pl) (ok : p.Ok) {s k : Nat} (hs : s < p.many) {d : Cell} : Good p (markF p s k c d) pl := by
  unfold F.markF
  split
  · exact g
  · split
    · rename_i h; exact g.mark ok hs h
    · exact g
theorem Good.marks (ok : p.Ok) {s k : Nat} (hs : s < p.many) : ∀ (ds : List Cell) {c : List Int}, Good p c pl → Good p (ds.foldl (F.markF p s k) c) pl
  | [], _, g => g
  | d :: ds, _, g => Good.marks ok hs ds (g.markF ok hs)
theorem Good.turn (g : Good p c pl) (ok : p.Ok) {s : Nat} (hs : s < p.many) {hs' : List Str} : ∃ pl', Good p (turnF p hs' c s) pl' := by
  unfold turnF
  simp only
  split
  · exact ⟨pl, Good.marks ok hs _ g⟩
  · split
    · rename_i d e
      unfold stepF
      simp only
      rw [g.place hs]
      split
      · exact ⟨pl, g⟩
      · split
        · rename_i h; exact ⟨_, g.step ok hs h⟩
        · exact ⟨pl, g⟩
    · exact ⟨pl, g⟩
theorem seatAt_lt (ok : p.Ok) {t : Int} {i : Nat} : seatAt p t i < p.many := by
  have h1 : 1 ≤ p.many := ok.s1
  unfold seatAt
  have a := Int.emod_nonneg (t + i) (b := (p.many : Int)) (by omega)
  have b := Int.emod_lt_of_pos (t + i) (b := (p.many : Int)) (by omega)
  omega
theorem Good.gone (ok : p.Ok) {t : Int} {hs : List Str} : ∀ (n : Nat) {c : List Int} {pl : Nat → Nat}, Good p c pl → ∃ pl', Good p ((List.range n).foldl (fun c i => turnF p hs c (seatAt p t i)) c) pl'
  | 0, _, pl, g => ⟨pl, g⟩
  | n + 1, c, pl, g => by
    obtain ⟨pl', g'⟩ := Good.gone ok (t := t) (hs := hs) n g
    rw [List.range_succ, List.foldl_append]
    exact g'.turn ok (seatAt_lt ok)
end
theorem in_ways {x : Str} {h : Hp} {Q : KV} : rIn (.str x) g_WAYS h Q = Q (.bl (wayF x).isSome) h := by
  have : (look [(("n" : Str), D.ct [.int 0, .int (-1)]), (("e" : Str), (.ct [.int 1, .int 0])), (("s" : Str), (.ct [.int 0, .int 1])), (("w" : Str), (.ct [.int (-1), .int 0]))] x).isSome = (wayF x).isSome := by
    unfold look wayF
    simp only [List.find?_cons, List.find?_nil]
    by_cases h1 : x = "n"
    · subst h1; rfl
    have h1' : decide (("n" : Str) = x) = false := decide_eq_false fun z => h1 z.symm
    rw [if_neg h1, h1']
    by_cases h2 : x = "e"
    · subst h2; rfl
    have h2' : decide (("e" : Str) = x) = false := decide_eq_false fun z => h2 z.symm
    rw [if_neg h2, h2']
    by_cases h3 : x = "s"
    · subst h3; rfl
    have h3' : decide (("s" : Str) = x) = false := decide_eq_false fun z => h3 z.symm
    rw [if_neg h3, h3']
    by_cases h4 : x = "w"
    · subst h4; rfl
    have h4' : decide (("w" : Str) = x) = false := decide_eq_false fun z => h4 z.symm
    rw [if_neg h4, h4']
    rfl
  unfold rIn g_WAYS
  simp only
  rw [this]
theorem hands_at {p : Plan} {hs : List Str} (hk : HandsOk p hs) {s : Nat} (h : s < p.many) : ∃ x, hs[s]? = some x ∧ x ∈ handsS ∧ hs.getD s "" = x ∧ atI (hs.map .str) (s : Int) = some (.str x) := by
  have hl : s < hs.length := by rw [hk.len]; exact h
  have e : hs[s]? = some hs[s] := List.getElem?_eq_getElem hl
  exact ⟨_, e, hk.mem _ (List.mem_of_getElem? e), by simp [List.getD, e], atI_nat (by rw [List.getElem?_map, e]; rfl)⟩
theorem ok_gone_on : ∀ ds h Q E, sp_gone_on ds h Q E → r_gone_on (outE Q E) (start2 8 ds) h := by
  rintro ds h Q E ⟨p, c, pl, t, hs, rfl, ok, g, hk, q⟩
  show r_gone_on (outE Q E) [some (planD p), some (picD c), some (.int t), some (handsD hs), none, none, none, none] h
  have h4 : p.many ≤ 4 := ok.s4
  have h1 : 1 ≤ p.many := ok.s1
  have h36 := ok.n36
  simp only [r_gone_on, s_gone_on_0, picD, eVar, eC, eBin, eUn, rAdd, rSub, rMul, rDiv, rMod, rNeg, rLt, rLe, rGt, rGe, eqii, eqss, eqnn, eqni, eqin, eqbb, rNe, rIsN, rIsNotN, rIsB, rIsNotB, D.isNon, tVal, tAnd, tOr, tNot, eAnd, eOr, eNot, eIf, eChain, aNil, aCons, eTup, eLst, eDK, eDT, eCall, eCB, eBM, eDM, rLen, rIsA, isA, rList, rTuple, rInt, rMax2, gName, gTup, gCons, gNil, gSub, sNext, sSeq, sBreak, sCont, sAsg, sPar, sAug, sDrop, sRet, sRetN, sIf, outE, sg, ss, sw, swipe, tYes, isLst, isDct]
  intro a na
  simp only [u_many_of, List.length_cons, List.length_nil, List.zip_cons_cons, List.zip_nil_left, List.zip_nil_right, List.foldl_cons, List.foldl_nil, ss]
  refine ⟨trivial, ?_⟩
  simp only [s_gone_on_6]
  unfold sFor
  simp only [iRng, eVar, eC, eBin, eUn, rAdd, rSub, rMul, rDiv, rMod, rNeg, rLt, rLe, rGt, rGe, eqii, eqss, eqnn, eqni, eqin, eqbb, rNe, rIsN, rIsNotN, rIsB, rIsNotB, D.isNon, tVal, tAnd, tOr, tNot, eAnd, eOr, eNot, eIf, eChain, aNil, aCons, eTup, eLst, eDK, eDT, eCall, eCB, eBM, eDM, rLen, rIsA, isA, rList, rTuple, rInt, rMax2, gName, gTup, gCons, gNil, gSub, sNext, sSeq, sBreak, sCont, sAsg, sPar, sAug, sDrop, sRet, sRetN, sIf, outE, sg, ss, sw, swipe, tYes, isLst, isDct]
  refine ⟨by omega, fun i σ h' => ∃ y z pl', σ = [some (planD p), some (picD c), some (.int t), some (handsD hs), y, some (.ref a), some (.int p.many), z] ∧ Keep h [] h' ∧ Good p ((List.range i).foldl (fun c i => turnF p hs c (seatAt p t i)) c) pl' ∧ h' a = some (.lst (intsD ((List.range i).foldl (fun c i => turnF p hs c (seatAt p t i)) c))), ⟨_, _, pl, rfl, (Keep.refl h []).new na, g, upd_same⟩, ?_, ?_⟩
  · rintro i y σ h' hy ⟨_, _, pl', rfl, k', g', ha'⟩
    obtain ⟨rfl, hi⟩ := irange_getP hy
    refine ⟨trivial, ?_⟩
    have hss := seatAt_lt ok (t := t) (i := i)
    obtain ⟨c', hc'⟩ : ∃ c', c' = ((List.range i).foldl (fun c i => turnF p hs c (seatAt p t i)) c) := ⟨_, rfl⟩
    rw [← hc'] at g' ha'
    simp only [List.range_succ, List.foldl_append, List.foldl_cons, List.foldl_nil, ← hc']
    have es : (t + (i : Int)) % (p.many : Int) = (seatAt p t i : Int) := by
      unfold seatAt
      rw [Int.toNat_of_nonneg (Int.emod_nonneg _ (by omega))]
    obtain ⟨s, hs0⟩ : ∃ s, s = seatAt p t i := ⟨_, rfl⟩
    obtain ⟨x, hx, hm, hg, hat⟩ := hands_at hk hss
    simp only [s_gone_on_1, s_gone_on_5, s_gone_on_4, s_gone_on_3, s_gone_on_2, eVar, eC, eBin, eUn, rAdd, rSub, rMul, rDiv, rMod, rNeg, rLt, rLe, rGt, rGe, eqii, eqss, eqnn, eqni, eqin, eqbb, rNe, rIsN, rIsNotN, rIsB, rIsNotB, D.isNon, tVal, tAnd, tOr, tNot, eAnd, eOr, eNot, eIf, eChain, aNil, aCons, eTup, eLst, eDK, eDT, eCall, eCB, eBM, eDM, rLen, rIsA, isA, rList, rTuple, rInt, rMax2, gName, gTup, gCons, gNil, gSub, sNext, sSeq, sBreak, sCont, sAsg, sPar, sAug, sDrop, sRet, sRetN, sIf, outE, sg, ss, sw, swipe, tYes, isLst, isDct, es]
    rw [← hs0] at hss hx hg hat ⊢
    simp only [handsD, ix_tup hat, g_MARK, eqss, in_ways]
    obtain ⟨pl2, g2⟩ := g'.turn ok hss (hs' := hs)
    have tf : turnF p hs c' s = if x = "mark" then [((0, -1) : Cell), (1, 0), (0, 1), (-1, 0)].foldl (markF p s (placeF c' s)) c' else match wayF x with
      | some d => stepF p c' s d
      | none => c' := by unfold turnF; simp only [hg] <;> rfl
    refine ⟨by omega, ?_⟩
    by_cases e1 : x = "mark"
    · rw [if_pos e1] at tf
      simp only [e1, decide_true, if_true]
      refine ⟨p, a, c', s, rfl, ok, ha', g'.len, g'.has hss, ?_⟩
      rw [← tf]
      exact ⟨_, _, pl2, rfl, k'.own na, g2, upd_same⟩
    · rw [if_neg e1] at tf
      simp only [e1, decide_false, Bool.false_eq_true, if_false]
      cases ew : wayF x with
      | none =>
        rw [ew] at tf
        simp only at tf
        rw [tf] at g2 ⊢
        simp only [Option.isSome_none, Bool.false_eq_true, if_false]
        exact ⟨_, _, pl2, rfl, k', g2, ha'⟩
      | some d =>
        rw [ew] at tf
        simp only at tf
        simp only [Option.isSome_some, if_true, ix_tup hat]
        refine ⟨p, a, c', s, x, d, rfl, ok, ha', g'.len, g'.has hss, ew, ?_⟩
        rw [← tf]
        exact ⟨_, _, pl2, rfl, k'.own na, g2, upd_same⟩
  · rintro σ h' ⟨_, _, pl', rfl, k', g', ha'⟩
    refine ⟨trivial, ?_⟩
    have : (irange 0 (p.many : Int)).length = p.many := by rw [irange_lengthP]; simp
    rw [this] at ha'
    simp only [s_gone_on_7, eVar, eC, eBin, eUn, rAdd, rSub, rMul, rDiv, rMod, rNeg, rLt, rLe, rGt, rGe, eqii, eqss, eqnn, eqni, eqin, eqbb, rNe, rIsN, rIsNotN, rIsB, rIsNotB, D.isNon, tVal, tAnd, tOr, tNot, eAnd, eOr, eNot, eIf, eChain, aNil, aCons, eTup, eLst, eDK, eDT, eCall, eCB, eBM, eDM, rLen, rIsA, isA, rList, rTuple, rInt, rMax2, gName, gTup, gCons, gNil, gSub, sNext, sSeq, sBreak, sCont, sAsg, sPar, sAug, sDrop, sRet, sRetN, sIf, outE, sg, ss, sw, swipe, tYes, isLst, isDct]
    exact ⟨_, ha', _, k'.nil, q⟩
end F

set_option linter.all false
set_option maxRecDepth 100000
namespace F
open PySem (Str PyData)
theorem nd_sub_len {α : Type} [DecidableEq α] : ∀ {xs ys : List α}, xs.Nodup → (∀ x ∈ xs, x ∈ ys) → xs.length ≤ ys.length
  | [], _, _, _ => Nat.zero_le _
  | x :: r, ys, nd, s => by
    obtain ⟨n1, n2⟩ := List.nodup_cons.mp nd
    have hx : x ∈ ys := s x (by simp)
    have := nd_sub_len (xs := r) (ys := ys.erase x) n2 fun y hy => (List.mem_erase_of_ne (show y ≠ x from fun z => n1 (z ▸ hy))).mpr (s y (by simp [hy]))
    rw [List.length_erase_of_mem hx] at this
    have := List.length_pos_of_mem hx
    simp only [List.length_cons]
    omega
theorem nd_spotsN {p : Plan} {cs : List Cell} (hb : ∀ c ∈ cs, inB p c) (nd : cs.Nodup) : (cs.map fun c => (spot p c).toNat).Nodup := by
  rw [List.nodup_iff_pairwise_ne] at nd ⊢
  rw [List.pairwise_map]
  refine nd.imp_of_mem fun {a b} ma mb n e => n (spot_inj (hb a ma) (hb b mb) ?_)
  rw [← spot_toNat (hb a ma), ← spot_toNat (hb b mb), e]
theorem cells_le {p : Plan} (ok : p.Ok) {cs : List Cell} (hb : ∀ c ∈ cs, inB p c) (nd : cs.Nodup) : cs.length ≤ p.n := by
  have := nd_sub_len (ys := List.range p.n) (nd_spotsN hb nd) fun x hx => by
    obtain ⟨c, hc, rfl⟩ := List.mem_map.mp hx
    exact List.mem_range.mpr (spot_lt ok (hb c hc))
  simpa using this
theorem ok_is_picture : ∀ ds h Q E, sp_is_picture ds h Q E → r_is_picture (outE Q E) (start2 10 ds) h := by
  rintro ds h Q E ⟨p, c, pl, rfl, ok, g, q⟩
  show r_is_picture (outE Q E) [some (planD p), some (picD c), none, none, none, none, none, none, none, none] h
  have h4 : p.many ≤ 4 := ok.s4
  have h1 : 1 ≤ p.many := ok.s1
  have h36 := ok.n36
  have hn := ok.nn
  have hw := ok.w2; have hw6 := ok.w6; have hh2 := ok.h2; have hh6 := ok.h6
  have hlen : ((intsD c).length : Int) = p.w * p.h := by rw [ints_length, g.len]; exact hn
  have eone : decide ((intsD c).length = (p.w * p.h)) = true := decide_eq_true hlen
  simp only [r_is_picture, s_is_picture_0, picD, eVar, eC, eBin, eUn, rAdd, rSub, rMul, rDiv, rMod, rNeg, rLt, rLe, rGt, rGe, eqii, eqss, eqnn, eqni, eqin, eqbb, rNe, rIsN, rIsNotN, rIsB, rIsNotB, D.isNon, tVal, tAnd, tOr, tNot, eAnd, eOr, eNot, eIf, eChain, aNil, aCons, eTup, eLst, eDK, eDT, eCall, eCB, eBM, eDM, rLen, rIsA, isA, rList, rTuple, rInt, rMax2, gName, gTup, gCons, gNil, gSub, sNext, sSeq, sBreak, sCont, sAsg, sPar, sAug, sDrop, sRet, sRetN, sIf, outE, sg, ss, sw, swipe, tYes, isLst, isDct, u_many_of, p0, p1]
  refine ⟨.inr ⟨by omega, by omega⟩, rfl, ?_⟩
  simp only [s_is_picture_2, List.zip_cons_cons, List.zip_nil_left, List.zip_nil_right, List.foldl_cons, List.foldl_nil, eVar, eC, eBin, eUn, rAdd, rSub, rMul, rDiv, rMod, rNeg, rLt, rLe, rGt, rGe, eqii, eqss, eqnn, eqni, eqin, eqbb, rNe, rIsN, rIsNotN, rIsB, rIsNotB, D.isNon, tVal, tAnd, tOr, tNot, eAnd, eOr, eNot, eIf, eChain, aNil, aCons, eTup, eLst, eDK, eDT, eCall, eCB, eBM, eDM, rLen, rIsA, isA, rList, rTuple, rInt, rMax2, gName, gTup, gCons, gNil, gSub, sNext, sSeq, sBreak, sCont, sAsg, sPar, sAug, sDrop, sRet, sRetN, sIf, outE, sg, ss, sw, swipe, tYes, isLst, isDct, eone]
  simp only [decide_true, Bool.not_true, Bool.false_eq_true, if_false, s_is_picture_3, eVar, eC, eBin, eUn, rAdd, rSub, rMul, rDiv, rMod, rNeg, rLt, rLe, rGt, rGe, eqii, eqss, eqnn, eqni, eqin, eqbb, rNe, rIsN, rIsNotN, rIsB, rIsNotB, D.isNon, tVal, tAnd, tOr, tNot, eAnd, eOr, eNot, eIf, eChain, aNil, aCons, eTup, eLst, eDK, eDT, eCall, eCB, eBM, eDM, rLen, rIsA, isA, rList, rTuple, rInt, rMax2, gName, gTup, gCons, gNil, gSub, sNext, sSeq, sBreak, sCont, sAsg, sPar, sAug, sDrop, sRet, sRetN, sIf, outE, sg, ss, sw, swipe, tYes, isLst, isDct]
  unfold eLc
  simp only [iSeq, eVar, eC, eBin, eUn, rAdd, rSub, rMul, rDiv, rMod, rNeg, rLt, rLe, rGt, rGe, eqii, eqss, eqnn, eqni, eqin, eqbb, rNe, rIsN, rIsNotN, rIsB, rIsNotB, D.isNon, tVal, tAnd, tOr, tNot, eAnd, eOr, eNot, eIf, eChain, aNil, aCons, eTup, eLst, eDK, eDT, eCall, eCB, eBM, eDM, rLen, rIsA, isA, rList, rTuple, rInt, rMax2, gName, gTup, gCons, gNil, gSub, sNext, sSeq, sBreak, sCont, sAsg, sPar, sAug, sDrop, sRet, sRetN, sIf, outE, sg, ss, sw, swipe, tYes, isLst, isDct, p3]
  refine ⟨fun i acc h' => h' = h ∧ acc = intsD ((p.bk.take i).map (spot p)), ⟨rfl, rfl⟩, ?_, ?_, ?_⟩
  · rw [List.length_map]
    have : p.bk.length ≤ p.n := cells_le ok (fun c => ok.bkB) (List.nodup_append.mp ok.nd).2.1
    simp only [line]; omega
  · rintro i x acc h' hx ⟨rfl, rfl⟩
    obtain ⟨ce, hc, rfl⟩ := map_get hx
    refine ⟨trivial, ?_⟩
    simp only [if_true, u_spot_of ok, take_succ hc, List.map_append, List.map_cons, List.map_nil, ints_snoc]
    exact ⟨(by first | trivial | rfl), (by first | trivial | rfl)⟩
  rintro acc h' ⟨rfl, rfl⟩
  refine ⟨trivial, fun x nx => ?_⟩
  rw [List.length_map, List.take_length]
  refine ⟨by simp [line], fun y ny => ?_⟩
  have k1 : Keep h' [] (upd (upd h' x (.lst (intsD (p.bk.map (spot p))))) y (.lst [])) := ((Keep.refl h' []).new nx).new ny
  have xy : x ≠ y := by intro z; subst z; rw [upd_same] at ny; cases ny
  have ny0 : h' y = none := by rwa [upd_ne (Ne.symm xy)] at ny
  have hx1 : upd (upd h' x (.lst (intsD (p.bk.map (spot p))))) y (.lst []) x = some (.lst (intsD (p.bk.map (spot p)))) := by rw [upd_ne xy]; exact upd_same
  have hy1 : upd (upd h' x (.lst (intsD (p.bk.map (spot p))))) y (.lst []) y = some (.lst (intsD [])) := upd_same
  generalize upd (upd h' x (.lst (intsD (p.bk.map (spot p))))) y (.lst []) = h1 at k1 hx1 hy1
  refine ⟨by simp [line], rfl, ?_⟩
  simp only [s_is_picture_10]
  unfold sFor
  simp only [iEnum, eVar, eC, eBin, eUn, rAdd, rSub, rMul, rDiv, rMod, rNeg, rLt, rLe, rGt, rGe, eqii, eqss, eqnn, eqni, eqin, eqbb, rNe, rIsN, rIsNotN, rIsB, rIsNotB, D.isNon, tVal, tAnd, tOr, tNot, eAnd, eOr, eNot, eIf, eChain, aNil, aCons, eTup, eLst, eDK, eDT, eCall, eCB, eBM, eDM, rLen, rIsA, isA, rList, rTuple, rInt, rMax2, gName, gTup, gCons, gNil, gSub, sNext, sSeq, sBreak, sCont, sAsg, sPar, sAug, sDrop, sRet, sRetN, sIf, outE, sg, ss, sw, swipe, tYes, isLst, isDct]
  refine ⟨fun i σ h2 => ∃ u v ms, σ = [some (planD p), some (picD c), some (.int p.many), some (.int (p.w * p.h)), some (.ref x), some (.ref y), u, v, none, none] ∧ Keep h' [] h2 ∧ h2 x = some (.lst (intsD (p.bk.map (spot p)))) ∧ h2 y = some (.lst (intsD ms)) ∧ ms.length ≤ i ∧ ∀ s : Nat, s < p.many → ms.count (s : Int) = if pl s < i then 1 else 0,
    ⟨_, _, [], rfl, k1, hx1, hy1, by simp, fun s hs => by simp⟩, ?_, ?_⟩
  · rintro i z σ h2 hz ⟨u, v, ms, rfl, k2, hx2, hy2, ml, mc⟩
    obtain ⟨d, hd, rfl⟩ := enum_getP hz
    obtain ⟨n, hn, rfl⟩ := map_get hd
    have hi := lt_of_get hn
    have hil : i < p.n := by rw [← g.len]; exact hi
    refine ⟨trivial, rfl, ?_⟩
    simp only [s_is_picture_9, eVar, eC, eBin, eUn, rAdd, rSub, rMul, rDiv, rMod, rNeg, rLt, rLe, rGt, rGe, eqii, eqss, eqnn, eqni, eqin, eqbb, rNe, rIsN, rIsNotN, rIsB, rIsNotB, D.isNon, tVal, tAnd, tOr, tNot, eAnd, eOr, eNot, eIf, eChain, aNil, aCons, eTup, eLst, eDK, eDT, eCall, eCB, eBM, eDM, rLen, rIsA, isA, rList, rTuple, rInt, rMax2, gName, gTup, gCons, gNil, gSub, sNext, sSeq, sBreak, sCont, sAsg, sPar, sAug, sDrop, sRet, sRetN, sIf, outE, sg, ss, sw, swipe, tYes, isLst, isDct, in_ints hx2]
    by_cases b : isB p i
    · have b' : decide ((i : Int) ∈ p.bk.map (spot p)) = true := decide_eq_true b
      have := g.blk i n hn b
      subst this
      simp only [b', if_true, s_is_picture_5, eVar, eC, eBin, eUn, rAdd, rSub, rMul, rDiv, rMod, rNeg, rLt, rLe, rGt, rGe, eqii, eqss, eqnn, eqni, eqin, eqbb, rNe, rIsN, rIsNotN, rIsB, rIsNotB, D.isNon, tVal, tAnd, tOr, tNot, eAnd, eOr, eNot, eIf, eChain, aNil, aCons, eTup, eLst, eDK, eDT, eCall, eCB, eBM, eDM, rLen, rIsA, isA, rList, rTuple, rInt, rMax2, gName, gTup, gCons, gNil, gSub, sNext, sSeq, sBreak, sCont, sAsg, sPar, sAug, sDrop, sRet, sRetN, sIf, outE, sg, ss, sw, swipe, tYes, isLst, isDct, u_is_number, g_BLOCK, (by decide : decide ((-1 : Int) ≤ -1) = true), Bool.and_true, Bool.not_true, Bool.false_eq_true, if_false]
      refine ⟨_, _, ms, rfl, k2, hx2, hy2, by omega, fun s hs => ?_⟩
      rw [mc s hs]
      have : pl s ≠ i := by
        intro z
        obtain ⟨_, _, h2, _⟩ := g.pls s hs
        exact h2 (z ▸ b)
      by_cases z : pl s < i
      · rw [if_pos z, if_pos (by omega)]
      · rw [if_neg z, if_neg (by omega)]
    · have b' : decide ((i : Int) ∈ p.bk.map (spot p)) = false := decide_eq_false b
      obtain ⟨f1, f2, f3⟩ := g.fre i n hn b
      have e1 : decide (0 ≤ n) = true := decide_eq_true f1
      have e2 : decide (n ≤ ((p.many : Int) - 1 + 1) * 10 + ((p.many : Int) - 1) + 1) = true := decide_eq_true (by omega)
      have e3 : decide ((p.many : Int) ≤ n % 10 - 1) = false := decide_eq_false (by omega)
      simp only [b', Bool.false_eq_true, if_false, s_is_picture_8, s_is_picture_7, eVar, eC, eBin, eUn, rAdd, rSub, rMul, rDiv, rMod, rNeg, rLt, rLe, rGt, rGe, eqii, eqss, eqnn, eqni, eqin, eqbb, rNe, rIsN, rIsNotN, rIsB, rIsNotB, D.isNon, tVal, tAnd, tOr, tNot, eAnd, eOr, eNot, eIf, eChain, aNil, aCons, eTup, eLst, eDK, eDT, eCall, eCB, eBM, eDM, rLen, rIsA, isA, rList, rTuple, rInt, rMax2, gName, gTup, gCons, gNil, gSub, sNext, sSeq, sBreak, sCont, sAsg, sPar, sAug, sDrop, sRet, sRetN, sIf, outE, sg, ss, sw, swipe, tYes, isLst, isDct, u_is_number, u_code, u_mover_of, e1, e2, e3, Bool.and_true, Bool.not_true, hy2, rAppend]
      refine ⟨trivial, _, rfl, by rw [ints_length]; simp only [line]; omega, ?_⟩
      rw [ints_snoc]
      refine ⟨_, _, _, rfl, k2.own ny0, by rw [upd_ne xy]; exact hx2, upd_same, by simp; omega, fun s hs => ?_⟩
      rw [List.count_append, mc s hs]
      have key := g.isPl hs hn
      unfold isPl at key
      simp only [ne_eq, (g.ne hn).mpr b, not_false_eq_true, decide_true, Bool.true_and] at key
      by_cases z : i = pl s
      · have : n % 10 - 1 = s := by
          rw [decide_eq_true z] at key; exact of_decide_eq_true key
        rw [if_neg (by omega), if_pos (by omega), this]
        simp
      · have : ¬ n % 10 - 1 = s := by
          rw [decide_eq_false z] at key; exact of_decide_eq_false key
        have e0 : List.count (s : Int) [n % 10 - 1] = 0 := by
          rw [List.count_eq_zero]; simp; omega
        rw [e0]
        by_cases z2 : pl s < i
        · rw [if_pos z2, if_pos (by omega)]
        · rw [if_neg z2, if_neg (by omega)]
  · rintro σ h2 ⟨u, v, ms, rfl, k2, hx2, hy2, ml, mc⟩
    refine ⟨trivial, ?_⟩
    rw [enum_lengthP, ints_length] at ml mc
    simp only [s_is_picture_11, eVar, eC, eBin, eUn, rAdd, rSub, rMul, rDiv, rMod, rNeg, rLt, rLe, rGt, rGe, eqii, eqss, eqnn, eqni, eqin, eqbb, rNe, rIsN, rIsNotN, rIsB, rIsNotB, D.isNon, tVal, tAnd, tOr, tNot, eAnd, eOr, eNot, eIf, eChain, aNil, aCons, eTup, eLst, eDK, eDT, eCall, eCB, eBM, eDM, rLen, rIsA, isA, rList, rTuple, rInt, rMax2, gName, gTup, gCons, gNil, gSub, sNext, sSeq, sBreak, sCont, sAsg, sPar, sAug, sDrop, sRet, sRetN, sIf, outE, sg, ss, sw, swipe, tYes, isLst, isDct]
    unfold eLc
    simp only [iRng, eVar, eC, eBin, eUn, rAdd, rSub, rMul, rDiv, rMod, rNeg, rLt, rLe, rGt, rGe, eqii, eqss, eqnn, eqni, eqin, eqbb, rNe, rIsN, rIsNotN, rIsB, rIsNotB, D.isNon, tVal, tAnd, tOr, tNot, eAnd, eOr, eNot, eIf, eChain, aNil, aCons, eTup, eLst, eDK, eDT, eCall, eCB, eBM, eDM, rLen, rIsA, isA, rList, rTuple, rInt, rMax2, gName, gTup, gCons, gNil, gSub, sNext, sSeq, sBreak, sCont, sAsg, sPar, sAug, sDrop, sRet, sRetN, sIf, outE, sg, ss, sw, swipe, tYes, isLst, isDct]
    refine ⟨by omega, fun i acc h3 => h3 = h2 ∧ acc = (List.replicate i true).map D.bl, ⟨rfl, rfl⟩, by rw [irange_lengthP]; simp only [line]; omega, ?_, ?_⟩
    · rintro i z acc h3 hz ⟨rfl, rfl⟩
      obtain ⟨rfl, hi⟩ := irange_getP hz
      refine ⟨trivial, ?_⟩
      have hi' : i < p.many := by omega
      have hc := mc i hi'
      rw [if_pos (g.lt hi')] at hc
      simp only [if_true, hy2, rCount, eVar, eC, eBin, eUn, rAdd, rSub, rMul, rDiv, rMod, rNeg, rLt, rLe, rGt, rGe, eqii, eqss, eqnn, eqni, eqin, eqbb, rNe, rIsN, rIsNotN, rIsB, rIsNotB, D.isNon, tVal, tAnd, tOr, tNot, eAnd, eOr, eNot, eIf, eChain, aNil, aCons, eTup, eLst, eDK, eDT, eCall, eCB, eBM, eDM, rLen, rIsA, isA, rList, rTuple, rInt, rMax2, gName, gTup, gCons, gNil, gSub, sNext, sSeq, sBreak, sCont, sAsg, sPar, sAug, sDrop, sRet, sRetN, sIf, outE, sg, ss, sw, swipe, tYes, isLst, isDct]
      refine ⟨trivial, ms, rfl, ?_⟩
      rw [hc]
      refine ⟨(by first | trivial | rfl), ?_⟩
      rw [List.replicate_succ', List.map_append]
      rfl
    · rintro acc h3 ⟨rfl, rfl⟩
      refine ⟨trivial, fun w nw => ?_⟩
      refine ⟨_, upd_same, _, (k2.new nw).nil, ?_⟩
      have : (List.replicate (irange 0 (p.many : Int)).length true).all id = true := by simp
      rw [this]
      exact q
theorem u_is_picture {p : Plan} {c : List Int} {pl : Nat → Nat} {h : Hp} {Q : KV} {E : Xc → Hp → Prop} (ok : p.Ok) (g : Good p c pl) (q : Q (.bl true) h) : sp_is_picture [planD p, picD c] h Q E := ⟨p, c, pl, rfl, ok, g, q⟩
theorem ok_need_picture : ∀ ds h Q E, sp_need_picture ds h Q E → r_need_picture (outE Q E) (start2 2 ds) h := by
  rintro ds h Q E ⟨p, c, pl, rfl, ok, g, q⟩
  show r_need_picture (outE Q E) [some (planD p), some (picD c)] h
  simp only [r_need_picture, s_need_picture_1, eVar, eC, eBin, eUn, rAdd, rSub, rMul, rDiv, rMod, rNeg, rLt, rLe, rGt, rGe, eqii, eqss, eqnn, eqni, eqin, eqbb, rNe, rIsN, rIsNotN, rIsB, rIsNotB, D.isNon, tVal, tAnd, tOr, tNot, eAnd, eOr, eNot, eIf, eChain, aNil, aCons, eTup, eLst, eDK, eDT, eCall, eCB, eBM, eDM, rLen, rIsA, isA, rList, rTuple, rInt, rMax2, gName, gTup, gCons, gNil, gSub, sNext, sSeq, sBreak, sCont, sAsg, sPar, sAug, sDrop, sRet, sRetN, sIf, outE, sg, ss, sw, swipe, tYes, isLst, isDct]
  refine u_is_picture ok g ?_
  simp
  exact ⟨h, Sub.refl h, q⟩
theorem u_need_hand {x : Str} {h : Hp} {Q : KV} {E : Xc → Hp → Prop} (m : x ∈ handsS) (q : Q .non h) : sp_need_hand [.str x] h Q E := ⟨m, q⟩
theorem ok_need_hands : ∀ ds h Q E, sp_need_hands ds h Q E → r_need_hands (outE Q E) (start2 3 ds) h := by
  rintro ds h Q E ⟨p, hs, rfl, hk, q⟩
  show r_need_hands (outE Q E) [some (planD p), some (handsD hs), none] h
  have e : decide (hs.length = p.many) = true := decide_eq_true hk.len
  simp only [r_need_hands, s_need_hands_1, handsD, eVar, eC, eBin, eUn, rAdd, rSub, rMul, rDiv, rMod, rNeg, rLt, rLe, rGt, rGe, eqii, eqss, eqnn, eqni, eqin, eqbb, rNe, rIsN, rIsNotN, rIsB, rIsNotB, D.isNon, tVal, tAnd, tOr, tNot, eAnd, eOr, eNot, eIf, eChain, aNil, aCons, eTup, eLst, eDK, eDT, eCall, eCB, eBM, eDM, rLen, rIsA, isA, rList, rTuple, rInt, rMax2, gName, gTup, gCons, gNil, gSub, sNext, sSeq, sBreak, sCont, sAsg, sPar, sAug, sDrop, sRet, sRetN, sIf, outE, sg, ss, sw, swipe, tYes, isLst, isDct, u_many_of, List.length_map, hk.len]
  simp only [decide_true, Bool.not_true, Bool.false_eq_true, if_false, s_need_hands_3]
  unfold sFor
  simp only [iSeq, eVar, eC, eBin, eUn, rAdd, rSub, rMul, rDiv, rMod, rNeg, rLt, rLe, rGt, rGe, eqii, eqss, eqnn, eqni, eqin, eqbb, rNe, rIsN, rIsNotN, rIsB, rIsNotB, D.isNon, tVal, tAnd, tOr, tNot, eAnd, eOr, eNot, eIf, eChain, aNil, aCons, eTup, eLst, eDK, eDT, eCall, eCB, eBM, eDM, rLen, rIsA, isA, rList, rTuple, rInt, rMax2, gName, gTup, gCons, gNil, gSub, sNext, sSeq, sBreak, sCont, sAsg, sPar, sAug, sDrop, sRet, sRetN, sIf, outE, sg, ss, sw, swipe, tYes, isLst, isDct]
  refine ⟨fun i σ h' => h' = h ∧ ∃ x, σ = [some (planD p), some (handsD hs), x], ⟨rfl, _, rfl⟩, ?_, ?_⟩
  · rintro i x σ h' hx ⟨rfl, _, rfl⟩
    obtain ⟨y, hy, rfl⟩ := map_get hx
    refine ⟨trivial, ?_⟩
    simp only [s_need_hands_2, eVar, eC, eBin, eUn, rAdd, rSub, rMul, rDiv, rMod, rNeg, rLt, rLe, rGt, rGe, eqii, eqss, eqnn, eqni, eqin, eqbb, rNe, rIsN, rIsNotN, rIsB, rIsNotB, D.isNon, tVal, tAnd, tOr, tNot, eAnd, eOr, eNot, eIf, eChain, aNil, aCons, eTup, eLst, eDK, eDT, eCall, eCB, eBM, eDM, rLen, rIsA, isA, rList, rTuple, rInt, rMax2, gName, gTup, gCons, gNil, gSub, sNext, sSeq, sBreak, sCont, sAsg, sPar, sAug, sDrop, sRet, sRetN, sIf, outE, sg, ss, sw, swipe, tYes, isLst, isDct]
    exact u_need_hand (hk.mem y (List.mem_of_getElem? hy)) ⟨(by first | trivial | rfl), _, rfl⟩
  · rintro σ h' ⟨rfl, _, rfl⟩
    exact ⟨trivial, _, Sub.refl _, q⟩
theorem ok_after : ∀ ds h Q E, sp_after ds h Q E → r_after (outE Q E) (start2 4 ds) h := by
  rintro ds h Q E ⟨p, c, pl, t, hs, rfl, ok, g, hk, ht, q⟩
  show r_after (outE Q E) [some (planD p), some (picD c), some (.int t), some (handsD hs)] h
  simp only [r_after, s_after_0, s_after_1, s_after_2, s_after_3, s_after_4, eVar, eC, eBin, eUn, rAdd, rSub, rMul, rDiv, rMod, rNeg, rLt, rLe, rGt, rGe, eqii, eqss, eqnn, eqni, eqin, eqbb, rNe, rIsN, rIsNotN, rIsB, rIsNotB, D.isNon, tVal, tAnd, tOr, tNot, eAnd, eOr, eNot, eIf, eChain, aNil, aCons, eTup, eLst, eDK, eDT, eCall, eCB, eBM, eDM, rLen, rIsA, isA, rList, rTuple, rInt, rMax2, gName, gTup, gCons, gNil, gSub, sNext, sSeq, sBreak, sCont, sAsg, sPar, sAug, sDrop, sRet, sRetN, sIf, outE, sg, ss, sw, swipe, tYes, isLst, isDct, u_need_plan ok]
  refine ⟨p, c, pl, rfl, ok, g, ?_⟩
  refine ⟨ht, p, hs, rfl, hk, p, c, pl, t, hs, rfl, ok, g, hk, h, Sub.refl h, q⟩
theorem count_range {os : List Int} {i : Nat} : intsD ((List.range (i + 1)).map fun (s : Nat) => ((os.count (s : Int) : Nat) : Int)) = intsD ((List.range i).map fun (s : Nat) => ((os.count (s : Int) : Nat) : Int)) ++ [.int ((os.count (i : Int) : Nat) : Int)] := by
  rw [List.range_succ, List.map_append, ints_snoc]; rfl
theorem ok_points : ∀ ds h Q E, sp_points ds h Q E → r_points (outE Q E) (start2 5 ds) h := by
  rintro ds h Q E ⟨p, c, pl, rfl, ok, g, q⟩
  show r_points (outE Q E) [some (planD p), some (picD c), none, none, none] h
  have h36 := ok.n36
  have h4 : p.many ≤ 4 := ok.s4
  simp only [r_points, s_points_0, s_points_1, s_points_2, eVar, eC, eBin, eUn, rAdd, rSub, rMul, rDiv, rMod, rNeg, rLt, rLe, rGt, rGe, eqii, eqss, eqnn, eqni, eqin, eqbb, rNe, rIsN, rIsNotN, rIsB, rIsNotB, D.isNon, tVal, tAnd, tOr, tNot, eAnd, eOr, eNot, eIf, eChain, aNil, aCons, eTup, eLst, eDK, eDT, eCall, eCB, eBM, eDM, rLen, rIsA, isA, rList, rTuple, rInt, rMax2, gName, gTup, gCons, gNil, gSub, sNext, sSeq, sBreak, sCont, sAsg, sPar, sAug, sDrop, sRet, sRetN, sIf, outE, sg, ss, sw, swipe, tYes, isLst, isDct, u_need_plan ok]
  refine ⟨p, c, pl, rfl, ok, g, ?_⟩
  unfold eLc
  simp only [iSeq, picD, eVar, eC, eBin, eUn, rAdd, rSub, rMul, rDiv, rMod, rNeg, rLt, rLe, rGt, rGe, eqii, eqss, eqnn, eqni, eqin, eqbb, rNe, rIsN, rIsNotN, rIsB, rIsNotB, D.isNon, tVal, tAnd, tOr, tNot, eAnd, eOr, eNot, eIf, eChain, aNil, aCons, eTup, eLst, eDK, eDT, eCall, eCB, eBM, eDM, rLen, rIsA, isA, rList, rTuple, rInt, rMax2, gName, gTup, gCons, gNil, gSub, sNext, sSeq, sBreak, sCont, sAsg, sPar, sAug, sDrop, sRet, sRetN, sIf, outE, sg, ss, sw, swipe, tYes, isLst, isDct, g_BLOCK]
  refine ⟨fun i acc h' => h' = h ∧ acc = intsD (((c.take i).filter fun v => decide (v ≠ -1)).map fun v => v / 10 - 1), ⟨rfl, rfl⟩, by rw [ints_length, g.len]; simp only [line]; omega, ?_, ?_⟩
  · rintro i x acc h' hx ⟨rfl, rfl⟩
    obtain ⟨v, hv, rfl⟩ := map_get hx
    refine ⟨trivial, ?_⟩
    simp only [eVar, eC, eBin, eUn, rAdd, rSub, rMul, rDiv, rMod, rNeg, rLt, rLe, rGt, rGe, eqii, eqss, eqnn, eqni, eqin, eqbb, rNe, rIsN, rIsNotN, rIsB, rIsNotB, D.isNon, tVal, tAnd, tOr, tNot, eAnd, eOr, eNot, eIf, eChain, aNil, aCons, eTup, eLst, eDK, eDT, eCall, eCB, eBM, eDM, rLen, rIsA, isA, rList, rTuple, rInt, rMax2, gName, gTup, gCons, gNil, gSub, sNext, sSeq, sBreak, sCont, sAsg, sPar, sAug, sDrop, sRet, sRetN, sIf, outE, sg, ss, sw, swipe, tYes, isLst, isDct, u_owner_of, take_succ hv, List.filter_append, List.map_append]
    by_cases e : v = -1
    · simp [e]
    · simp [e, ints_snoc]
  rintro acc h' ⟨rfl, rfl⟩
  refine ⟨trivial, fun a na => ?_⟩
  rw [ints_length, List.take_length]
  simp only [s_points_3, eVar, eC, eBin, eUn, rAdd, rSub, rMul, rDiv, rMod, rNeg, rLt, rLe, rGt, rGe, eqii, eqss, eqnn, eqni, eqin, eqbb, rNe, rIsN, rIsNotN, rIsB, rIsNotB, D.isNon, tVal, tAnd, tOr, tNot, eAnd, eOr, eNot, eIf, eChain, aNil, aCons, eTup, eLst, eDK, eDT, eCall, eCB, eBM, eDM, rLen, rIsA, isA, rList, rTuple, rInt, rMax2, gName, gTup, gCons, gNil, gSub, sNext, sSeq, sBreak, sCont, sAsg, sPar, sAug, sDrop, sRet, sRetN, sIf, outE, sg, ss, sw, swipe, tYes, isLst, isDct, u_many_of]
  unfold eLc
  simp only [iRng, eVar, eC, eBin, eUn, rAdd, rSub, rMul, rDiv, rMod, rNeg, rLt, rLe, rGt, rGe, eqii, eqss, eqnn, eqni, eqin, eqbb, rNe, rIsN, rIsNotN, rIsB, rIsNotB, D.isNon, tVal, tAnd, tOr, tNot, eAnd, eOr, eNot, eIf, eChain, aNil, aCons, eTup, eLst, eDK, eDT, eCall, eCB, eBM, eDM, rLen, rIsA, isA, rList, rTuple, rInt, rMax2, gName, gTup, gCons, gNil, gSub, sNext, sSeq, sBreak, sCont, sAsg, sPar, sAug, sDrop, sRet, sRetN, sIf, outE, sg, ss, sw, swipe, tYes, isLst, isDct, u_many_of, upd_same, rCount]
  obtain ⟨os, hos⟩ : ∃ os, os = ((c.filter fun v => decide (v ≠ -1)).map fun v => v / 10 - 1) := ⟨_, rfl⟩
  have e1 : pointsF p c = (List.range p.many).map fun (s : Nat) => ((os.count (s : Int) : Nat) : Int) := by rw [hos]; rfl
  rw [← hos]
  refine ⟨by omega, fun i acc h2 => h2 = upd h' a (.lst (intsD os)) ∧ acc = intsD ((List.range i).map fun (s : Nat) => ((os.count (s : Int) : Nat) : Int)), ⟨rfl, rfl⟩, by rw [irange_lengthP]; simp only [line]; omega, ?_, ?_⟩
  · rintro i x acc h2 hx ⟨rfl, rfl⟩
    obtain ⟨rfl, hi⟩ := irange_getP hx
    refine ⟨trivial, ?_⟩
    simp only [if_true, upd_same]
    exact ⟨trivial, os, rfl, (by first | trivial | rfl), count_range.symm⟩
  · rintro acc h2 ⟨rfl, rfl⟩
    refine ⟨trivial, fun b nb => ⟨_, (by first | rfl | exact upd_same), h', ((Keep.refl h' []).new na |>.new nb).nil, ?_⟩⟩
    have : (irange 0 (p.many : Int)).length = p.many := by rw [irange_lengthP]; simp
    rw [this, ← e1]
    exact q
end F

set_option linter.all false
set_option maxRecDepth 100000
namespace F
open PySem (Str PyData)
/-- the list with seats put on some cells -/
def seated (u : List Int) (c : List Int) : List Int := (List.range c.length).map fun k => c.getD k 0 + if (k : Int) ∈ u then ((u.findIdx fun x => x == (k : Int) : Nat) : Int) + 1 else 0
theorem take_box {h0 h : Hp} {b l : Nat} {ns : List Int} {s m : Int} {Q : KV} {E : Xc → Hp → Prop} (k : Keep h0 [b, l] h) (X : Box h b l ns s) (m0 : 0 < m) (m1 : m < 1073741824)
    (q : ∀ r h' ns' s', 0 ≤ r → r < m → Box h' b l ns' s' → Keep h0 [b, l] h' → (∀ a, a ≠ b → a ≠ l → h' a = h a) → Q (.int r) h') : sp_law_take [.ref b, .int m] h Q E := take_k k X m0 m1 q
/-- what a made up picture is before the seats -/
structure Bare (p : Plan) (c : List Int) : Prop where
  len : c.length = p.n
  blk : ∀ k (v : Int), c[k]? = some v → isB p k → v = -1
  fre : ∀ k (v : Int), c[k]? = some v → ¬ isB p k → 0 ≤ v ∧ v ≤ 10 * p.many ∧ v % 10 = 0
/-- .. and while the seats sit down: pl s for s below i, and the free cells left -/
structure Half (p : Plan) (i : Nat) (fr : List Int) (c : List Int) (pl : Nat → Nat) : Prop where
  len : c.length = p.n
  blk : ∀ k (v : Int), c[k]? = some v → isB p k → v = -1
  fre : ∀ k (v : Int), c[k]? = some v → ¬ isB p k → 0 ≤ v ∧ v ≤ 11 * p.many ∧ v % 10 - 1 < p.many
  pls : ∀ s, s < i → ∃ v, c[pl s]? = some v ∧ ¬ isB p (pl s) ∧ v % 10 - 1 = s
  unq : ∀ (s : Int) k (v : Int), c[k]? = some v → ¬ isB p k → v % 10 - 1 = s → 0 ≤ s → s < i ∧ ∃ t : Nat, s = t ∧ k = pl t
  nd : fr.Nodup
  nonneg : ∀ x ∈ fr, 0 ≤ x
  lef : ∀ k : Nat, (k : Int) ∈ fr → ∃ v, c[k]? = some v ∧ ¬ isB p k ∧ v % 10 = 0 ∧ v ≤ 10 * p.many
theorem Half.sit {p : Plan} {i : Nat} {fr c : List Int} {pl : Nat → Nat} (g : Half p i fr c pl) (h4 : p.many ≤ 4) (hi : i < p.many) {r : Nat} {x : Int} (e : fr[r]? = some x) {v : Int} (ev : c[x.toNat]? = some v) :
    Half p (i + 1) (fr.eraseIdx r) (c.set x.toNat (v + i + 1)) (fun t => if t = i then x.toNat else pl t) := by
  have hx0 := g.nonneg x (List.mem_of_getElem? e)
  have hxn : ((x.toNat : Nat) : Int) = x := Int.toNat_of_nonneg hx0
  have hxm : ((x.toNat : Nat) : Int) ∈ fr := by rw [hxn]; exact List.mem_of_getElem? e
  obtain ⟨v', ev', bv, mv, lv⟩ := g.lef x.toNat hxm
  rw [ev] at ev'; cases ev'
  have fv := g.fre _ _ ev bv
  have hp := erase_perm e
  have nd2 := hp.nodup_iff.mp g.nd
  obtain ⟨nx, nd3⟩ := List.nodup_cons.mp nd2
  have sub : ∀ y ∈ fr.eraseIdx r, y ∈ fr := fun y hy => hp.mem_iff.mpr (List.mem_cons_of_mem _ hy)
  have npl : ∀ t, t < i → pl t ≠ x.toNat := by
    intro t ht z
    obtain ⟨u, eu, bu, mu⟩ := g.pls t ht
    rw [z, ev] at eu; cases eu; omega
  refine ⟨by rw [List.length_set]; exact g.len, fun k u e b => ?_, fun k u e b => ?_, fun s hs => ?_, fun s k u e b h h0 => ?_, nd3, fun y hy => g.nonneg y (sub y hy), fun k hk => ?_⟩
  · rcases set_get e with ⟨rfl, rfl⟩ | ⟨n, e⟩
    · exact absurd b bv
    · exact g.blk k u e b
  · rcases set_get e with ⟨rfl, rfl⟩ | ⟨n, e⟩
    · exact ⟨by omega, by omega, by omega⟩
    · exact g.fre k u e b
  · by_cases q : s = i
    · subst q
      refine ⟨v + s + 1, ?_, by simpa using bv, by omega⟩
      simp only [if_true]
      rw [List.getElem?_set, if_pos rfl, if_pos (lt_of_get ev)]
    · simp only [if_neg q]
      obtain ⟨u, eu, bu, mu⟩ := g.pls s (by omega)
      exact ⟨u, by rw [List.getElem?_set, if_neg (Ne.symm (npl s (by omega)))]; exact eu, bu, mu⟩
  · rcases set_get e with ⟨rfl, rfl⟩ | ⟨n, e⟩
    · exact ⟨by omega, i, by omega, by simp⟩
    · obtain ⟨h1, t, rfl, h3⟩ := g.unq s k u e b h h0
      refine ⟨by omega, t, rfl, ?_⟩
      rw [if_neg (by omega)]; exact h3
  · obtain ⟨u, eu, bu, mu⟩ := g.lef k (sub _ hk)
    have : k ≠ x.toNat := by
      intro z
      rw [z, hxn] at hk
      exact nx hk
    exact ⟨u, by rw [List.getElem?_set, if_neg (Ne.symm this)]; exact eu, bu, mu⟩
theorem Half.good {p : Plan} {fr c : List Int} {pl : Nat → Nat} (g : Half p p.many fr c pl) : Good p c pl := by
  refine ⟨g.len, g.blk, g.fre, g.pls, fun s k v hs e b h => ?_⟩
  obtain ⟨_, t, h1, h2⟩ := g.unq s k v e b h (by omega)
  have : s = t := by omega
  rw [this]; exact h2
theorem frees_map {n : Nat} {c : List Int} : ∀ i, intsD (((List.range i).filter fun k => decide (0 ≤ c.getD k 0)).map fun (k : Nat) => (k : Int)) = intsD (((List.range i).filter fun k => decide (0 ≤ c.getD k 0)).map fun (k : Nat) => (k : Int)) := fun _ => rfl
def freesF (c : List Int) (i : Nat) : List Int := ((List.range i).filter fun k => decide (0 ≤ c.getD k 0)).map fun (k : Nat) => (k : Int)
theorem freesF_succ {c : List Int} {i : Nat} {v : Int} (e : c[i]? = some v) : freesF c (i + 1) = if 0 ≤ v then freesF c i ++ [(i : Int)] else freesF c i := by
  have gd : c.getD i 0 = v := by simp [List.getD, e]
  unfold freesF
  rw [List.range_succ, List.filter_append, List.map_append, List.filter_cons, gd]
  by_cases h : 0 ≤ v
  · simp [h]
  · simp [h]
theorem Bare.half {p : Plan} {c : List Int} (g : Bare p c) : Half p 0 (freesF c c.length) c (fun _ => 0) := by
  have mem : ∀ x, x ∈ freesF c c.length → ∃ k : Nat, x = k ∧ k < c.length ∧ 0 ≤ c.getD k 0 := by
    intro x hx
    obtain ⟨k, hk, rfl⟩ := List.mem_map.mp hx
    obtain ⟨h1, h2⟩ := List.mem_filter.mp hk
    exact ⟨k, rfl, List.mem_range.mp h1, of_decide_eq_true h2⟩
  refine ⟨g.len, g.blk, fun k v e b => ?_, fun s hs => absurd hs (by omega), fun s k v e b h h0 => ?_, ?_, fun x hx => ?_, fun k hk => ?_⟩
  · obtain ⟨h1, h2, h3⟩ := g.fre k v e b
    exact ⟨h1, by omega, by omega⟩
  · have := (g.fre k v e b).2.2
    omega
  · unfold freesF
    rw [List.nodup_iff_pairwise_ne, List.pairwise_map]
    have := (List.nodup_range (n := c.length)).filter fun k => decide (0 ≤ c.getD k 0)
    exact (List.nodup_iff_pairwise_ne.mp this).imp fun n e => n (by omega)
  · obtain ⟨k, rfl, _⟩ := mem x hx; omega
  · obtain ⟨k', h1, h2, h3⟩ := mem _ hk
    have : k = k' := by omega
    subst this
    have e : c[k]? = some c[k] := List.getElem?_eq_getElem h2
    have gd : c.getD k 0 = c[k] := by simp [List.getD, e]
    have nb : ¬ isB p k := by
      intro b
      have := g.blk k _ e b
      omega
    have := g.fre k _ e nb
    exact ⟨c[k], e, nb, this.2.2, this.2.1⟩
theorem Bare.enough {p : Plan} (ok : p.Ok) {c : List Int} (g : Bare p c) : p.many ≤ (freesF c c.length).length := by
  have := nd_sub_len (ys := freesF c c.length) (nd_spots (fun c => ok.stB) (List.nodup_append.mp ok.nd).1) fun x hx => by
    obtain ⟨ce, hc, rfl⟩ := List.mem_map.mp hx
    have b := ok.stB hc
    have hl := spot_lt ok b
    rw [← g.len] at hl
    have e : c[(spot p ce).toNat]? = some c[(spot p ce).toNat] := List.getElem?_eq_getElem hl
    have gd : c.getD (spot p ce).toNat 0 = c[(spot p ce).toNat] := by simp [List.getD, e]
    have nb : ¬ isB p (spot p ce).toNat := fun z => ok.dis hc ((isB_spot ok b).mp z)
    refine List.mem_map.mpr ⟨(spot p ce).toNat, List.mem_filter.mpr ⟨List.mem_range.mpr hl, decide_eq_true ?_⟩, spot_toNat b⟩
    rw [gd]
    exact (g.fre _ _ e nb).1
  simpa using this
theorem ok_law_made_up : ∀ ds h Q E, sp_law_made_up ds h Q E → r_law_made_up (outE Q E) (start2 7 ds) h := by
  rintro ds h Q E ⟨b, l, ns, s, p, rfl, X, ok, q⟩
  show r_law_made_up (outE Q E) [some (.ref b), some (planD p), none, none, none, none, none] h
  have h4 : p.many ≤ 4 := ok.s4
  have h5 : p.st.length = p.many := rfl
  have h36 := ok.n36
  have hn := ok.nn
  have hw := ok.w2; have hw6 := ok.w6; have hh2 := ok.h2; have hh6 := ok.h6
  simp only [r_law_made_up, s_law_made_up_0, eVar, eC, eBin, eUn, rAdd, rSub, rMul, rDiv, rMod, rNeg, rLt, rLe, rGt, rGe, eqii, eqss, eqnn, eqni, eqin, eqbb, rNe, rIsN, rIsNotN, rIsB, rIsNotB, D.isNon, tVal, tAnd, tOr, tNot, eAnd, eOr, eNot, eIf, eChain, aNil, aCons, eTup, eLst, eDK, eDT, eCall, eCB, eBM, eDM, rLen, rIsA, isA, rList, rTuple, rInt, rMax2, gName, gTup, gCons, gNil, gSub, sNext, sSeq, sBreak, sCont, sAsg, sPar, sAug, sDrop, sRet, sRetN, sIf, outE, sg, ss, sw, swipe, tYes, isLst, isDct]
  refine ⟨by simp [line], fun a na => ?_⟩
  have za := X.ne_new na
  simp only [s_law_made_up_3]
  unfold sFor
  simp only [iRng, eVar, eC, eBin, eUn, rAdd, rSub, rMul, rDiv, rMod, rNeg, rLt, rLe, rGt, rGe, eqii, eqss, eqnn, eqni, eqin, eqbb, rNe, rIsN, rIsNotN, rIsB, rIsNotB, D.isNon, tVal, tAnd, tOr, tNot, eAnd, eOr, eNot, eIf, eChain, aNil, aCons, eTup, eLst, eDK, eDT, eCall, eCB, eBM, eDM, rLen, rIsA, isA, rList, rTuple, rInt, rMax2, gName, gTup, gCons, gNil, gSub, sNext, sSeq, sBreak, sCont, sAsg, sPar, sAug, sDrop, sRet, sRetN, sIf, outE, sg, ss, sw, swipe, tYes, isLst, isDct, p0, p1]
  refine ⟨.inr ⟨by omega, by omega⟩, ⟨by omega, by omega⟩, fun i σ h' => ∃ y z ns' s' c, σ = [some (.ref b), some (planD p), some (.ref a), y, none, none, z] ∧ Keep h [b, l] h' ∧ Box h' b l ns' s' ∧ h' a = some (.lst (intsD c)) ∧
    c.length = i ∧ (∀ k v, c[k]? = some v → isB p k → v = -1) ∧ (∀ k (v : Int), c[k]? = some v → ¬ isB p k → 0 ≤ v ∧ v ≤ 10 * p.many ∧ v % 10 = 0), ⟨_, _, ns, s, [], rfl, (Keep.refl h _).new na, X.new na, upd_same, rfl, fun k v e => by simp at e, fun k v e => by simp at e⟩, ?_, ?_⟩
  · rintro i y σ h' hy ⟨_, _, ns', s', c, rfl, k', X', ha', cl, cb, cf⟩
    obtain ⟨rfl, hi⟩ := irange_getP hy
    refine ⟨trivial, ?_⟩
    have hin : i < p.n := by omega
    have ec : D.tup [D.int ((i : Int) % p.w), D.int ((i : Int) / p.w)] = cellD ((i : Int) % p.w, (i : Int) / p.w) := rfl
    have eb : decide (((i : Int) % p.w, (i : Int) / p.w) ∈ p.bk) = decide (isB p i) := by
      by_cases z : isB p i
      · rw [decide_eq_true z, decide_eq_true ((isB_cell ok hin).mp z)]
      · rw [decide_eq_false z, decide_eq_false fun w => z ((isB_cell ok hin).mpr w)]
    simp only [s_law_made_up_1, s_law_made_up_2, eVar, eC, eBin, eUn, rAdd, rSub, rMul, rDiv, rMod, rNeg, rLt, rLe, rGt, rGe, eqii, eqss, eqnn, eqni, eqin, eqbb, rNe, rIsN, rIsNotN, rIsB, rIsNotB, D.isNon, tVal, tAnd, tOr, tNot, eAnd, eOr, eNot, eIf, eChain, aNil, aCons, eTup, eLst, eDK, eDT, eCall, eCB, eBM, eDM, rLen, rIsA, isA, rList, rTuple, rInt, rMax2, gName, gTup, gCons, gNil, gSub, sNext, sSeq, sBreak, sCont, sAsg, sPar, sAug, sDrop, sRet, sRetN, sIf, outE, sg, ss, sw, swipe, tYes, isLst, isDct, p0, p3, ec, in_cells, eb, ha', p2]
    refine ⟨by omega, ⟨by omega, by omega⟩, by simp [line], trivial, ?_⟩
    have app : ∀ (h2 : Hp) (ns2 : List Int) (s2 v : Int), h2 a = some (.lst (intsD c)) → Keep h [b, l] h2 → Box h2 b l ns2 s2 → (isB p i → v = -1) → (¬ isB p i → 0 ≤ v ∧ v ≤ 10 * p.many ∧ v % 10 = 0) →
        rAppend (.ref a) [.int v] h2 fun _ h1 => ∃ y z ns' s' c', [some (D.ref b), some (planD p), some (D.ref a), some (D.int (i : Int)), none, none, some (D.bl (decide (isB p i)))] = [some (.ref b), some (planD p), some (.ref a), y, none, none, z] ∧ Keep h [b, l] h1 ∧ Box h1 b l ns' s' ∧ h1 a = some (.lst (intsD c')) ∧
          c'.length = i + 1 ∧ (∀ k v, c'[k]? = some v → isB p k → v = -1) ∧ (∀ k (v : Int), c'[k]? = some v → ¬ isB p k → 0 ≤ v ∧ v ≤ 10 * p.many ∧ v % 10 = 0) := by
      intro h2 ns2 s2 v e2 k2 X2 v1 v2
      refine ⟨_, e2, by rw [ints_length]; simp only [line]; omega, ?_⟩
      rw [ints_snoc]
      refine ⟨_, _, ns2, s2, c ++ [v], rfl, k2.own na, X2.upd za, upd_same, by simp [cl], fun k u e b => ?_, fun k u e b => ?_⟩
      · rw [List.getElem?_append] at e
        split at e
        · exact cb k u e b
        · have : k = i := by have := lt_of_get e; simp at this; omega
          subst this
          simp [cl] at e
          rw [← e]; exact v1 b
      · rw [List.getElem?_append] at e
        split at e
        · exact cf k u e b
        · have : k = i := by have := lt_of_get e; simp at this; omega
          subst this
          simp [cl] at e
          rw [← e]; exact v2 b
    by_cases z : isB p i
    · simp only [z, decide_true, if_true]
      have := app h' ns' s' (-1) ha' k' X' (fun _ => rfl) (fun n => absurd z n)
      simp only [z, decide_true] at this
      exact this
    · simp only [z, decide_false, Bool.false_eq_true, if_false, List.length_map]
      refine take_k k' X' (by omega) (by omega) fun r h2 ns2 s2 r0 r1 X2 k2 e2 => ?_
      refine ⟨.inl ⟨by omega, by omega⟩, ?_⟩
      have := app h2 ns2 s2 (10 * r) (by rw [e2 a za.1 za.2]; exact ha') k2 X2 (fun n => absurd n z) (fun _ => ⟨by omega, by omega, by omega⟩)
      simp only [z, decide_false] at this
      exact this
  rintro σ h1 ⟨y, z, ns1, s1, c, rfl, k1, X1, ha1, cl, cb, cf⟩
  rw [irange_lengthP] at cl
  have B : Bare p c := ⟨cl, cb, cf⟩
  have cl' : c.length = p.n := cl
  refine ⟨trivial, ?_⟩
  simp only [s_law_made_up_4, eVar, eC, eBin, eUn, rAdd, rSub, rMul, rDiv, rMod, rNeg, rLt, rLe, rGt, rGe, eqii, eqss, eqnn, eqni, eqin, eqbb, rNe, rIsN, rIsNotN, rIsB, rIsNotB, D.isNon, tVal, tAnd, tOr, tNot, eAnd, eOr, eNot, eIf, eChain, aNil, aCons, eTup, eLst, eDK, eDT, eCall, eCB, eBM, eDM, rLen, rIsA, isA, rList, rTuple, rInt, rMax2, gName, gTup, gCons, gNil, gSub, sNext, sSeq, sBreak, sCont, sAsg, sPar, sAug, sDrop, sRet, sRetN, sIf, outE, sg, ss, sw, swipe, tYes, isLst, isDct, ha1]
  unfold eLc
  simp only [iRng, eVar, eC, eBin, eUn, rAdd, rSub, rMul, rDiv, rMod, rNeg, rLt, rLe, rGt, rGe, eqii, eqss, eqnn, eqni, eqin, eqbb, rNe, rIsN, rIsNotN, rIsB, rIsNotB, D.isNon, tVal, tAnd, tOr, tNot, eAnd, eOr, eNot, eIf, eChain, aNil, aCons, eTup, eLst, eDK, eDT, eCall, eCB, eBM, eDM, rLen, rIsA, isA, rList, rTuple, rInt, rMax2, gName, gTup, gCons, gNil, gSub, sNext, sSeq, sBreak, sCont, sAsg, sPar, sAug, sDrop, sRet, sRetN, sIf, outE, sg, ss, sw, swipe, tYes, isLst, isDct, ha1, ints_length]
  refine ⟨⟨by omega, by omega⟩, fun i acc h' => h' = h1 ∧ acc = intsD (freesF c i), ⟨rfl, rfl⟩, by rw [irange_lengthP]; simp only [line]; omega, ?_, ?_⟩
  · rintro i x acc h' hx ⟨rfl, rfl⟩
    obtain ⟨rfl, hi⟩ := irange_getP hx
    refine ⟨trivial, ?_⟩
    have hi' : i < c.length := by omega
    have e : c[i]? = some c[i] := List.getElem?_eq_getElem hi'
    have e2 : atI (intsD c) (i : Int) = some (.int c[i]) := atI_nat (by rw [ints_get, e]; rfl)
    simp only [ix_lst ha1 e2, eVar, eC, eBin, eUn, rAdd, rSub, rMul, rDiv, rMod, rNeg, rLt, rLe, rGt, rGe, eqii, eqss, eqnn, eqni, eqin, eqbb, rNe, rIsN, rIsNotN, rIsB, rIsNotB, D.isNon, tVal, tAnd, tOr, tNot, eAnd, eOr, eNot, eIf, eChain, aNil, aCons, eTup, eLst, eDK, eDT, eCall, eCB, eBM, eDM, rLen, rIsA, isA, rList, rTuple, rInt, rMax2, gName, gTup, gCons, gNil, gSub, sNext, sSeq, sBreak, sCont, sAsg, sPar, sAug, sDrop, sRet, sRetN, sIf, outE, sg, ss, sw, swipe, tYes, isLst, isDct, freesF_succ e]
    by_cases z : 0 ≤ c[i]
    · simp only [z, decide_true, if_true, ints_snoc]
      exact ⟨(by first | trivial | rfl), (by first | trivial | rfl)⟩
    · simp only [z, decide_false, Bool.false_eq_true, if_false]
      exact ⟨(by first | trivial | rfl), (by first | trivial | rfl)⟩
  rintro acc h' ⟨rfl, rfl⟩
  refine ⟨trivial, fun d nd => ?_⟩
  rw [irange_lengthP]
  have : ((c.length : Int)).toNat = c.length := by simp
  rw [this]
  have d0 : h d = none := k1.none_box X1 nd
  have zd := X1.ne_new nd
  have ad : a ≠ d := ne_of_none ha1 nd
  have k3 := k1.new (o := .lst (intsD (freesF c c.length))) nd
  have X3 := X1.new (o := .lst (intsD (freesF c c.length))) nd
  have ha3 : upd h' d (.lst (intsD (freesF c c.length))) a = some (.lst (intsD c)) := by rw [upd_ne ad]; exact ha1
  have hd3 : upd h' d (.lst (intsD (freesF c c.length))) d = some (.lst (intsD (freesF c c.length))) := upd_same
  generalize upd h' d (.lst (intsD (freesF c c.length))) = h3 at k3 X3 ha3 hd3
  have H0 := B.half
  have en := B.enough ok
  have frl : (freesF c c.length).length ≤ 36 := by
    unfold freesF
    rw [List.length_map]
    have := List.length_filter_le (fun k => decide (0 ≤ c.getD k 0)) (List.range c.length)
    rw [List.length_range] at this
    omega
  obtain ⟨fr, hfr⟩ : ∃ fr, fr = freesF c c.length := ⟨_, rfl⟩
  rw [← hfr] at H0 en frl hd3
  simp only [s_law_made_up_7]
  unfold sFor
  simp only [iRng, eVar, eC, eBin, eUn, rAdd, rSub, rMul, rDiv, rMod, rNeg, rLt, rLe, rGt, rGe, eqii, eqss, eqnn, eqni, eqin, eqbb, rNe, rIsN, rIsNotN, rIsB, rIsNotB, D.isNon, tVal, tAnd, tOr, tNot, eAnd, eOr, eNot, eIf, eChain, aNil, aCons, eTup, eLst, eDK, eDT, eCall, eCB, eBM, eDM, rLen, rIsA, isA, rList, rTuple, rInt, rMax2, gName, gTup, gCons, gNil, gSub, sNext, sSeq, sBreak, sCont, sAsg, sPar, sAug, sDrop, sRet, sRetN, sIf, outE, sg, ss, sw, swipe, tYes, isLst, isDct, p2, List.length_map]
  refine ⟨by omega, fun i σ h' => ∃ u v z' ns' s' c' fr' pl, σ = [some (.ref b), some (planD p), some (.ref a), u, some (.ref d), v, z'] ∧ Keep h [b, l] h' ∧ Box h' b l ns' s' ∧ h' a = some (.lst (intsD c')) ∧ h' d = some (.lst (intsD fr')) ∧
    fr'.length + i = fr.length ∧ Half p i fr' c' pl, ⟨_, _, _, ns1, s1, c, fr, _, rfl, k3, X3, ha3, hd3, rfl, H0⟩, ?_, ?_⟩
  · rintro i y σ h5 hy ⟨_, _, _, ns', s', c', fr', pl, rfl, k', X', ha', hd', fl, H⟩
    obtain ⟨rfl, hi⟩ := irange_getP hy
    have hi' : i < p.many := by omega
    refine ⟨trivial, ?_⟩
    simp only [s_law_made_up_5, s_law_made_up_6, eVar, eC, eBin, eUn, rAdd, rSub, rMul, rDiv, rMod, rNeg, rLt, rLe, rGt, rGe, eqii, eqss, eqnn, eqni, eqin, eqbb, rNe, rIsN, rIsNotN, rIsB, rIsNotB, D.isNon, tVal, tAnd, tOr, tNot, eAnd, eOr, eNot, eIf, eChain, aNil, aCons, eTup, eLst, eDK, eDT, eCall, eCB, eBM, eDM, rLen, rIsA, isA, rList, rTuple, rInt, rMax2, gName, gTup, gCons, gNil, gSub, sNext, sSeq, sBreak, sCont, sAsg, sPar, sAug, sDrop, sRet, sRetN, sIf, outE, sg, ss, sw, swipe, tYes, isLst, isDct, hd', ints_length]
    refine ⟨trivial, take_k k' X' (by omega) (by omega) fun r h6 ns6 s6 r0 r1 X6 k6 e6 => ?_⟩
    have hr : r.toNat < fr'.length := by omega
    have ex : fr'[r.toNat]? = some fr'[r.toNat] := List.getElem?_eq_getElem hr
    obtain ⟨x, hx⟩ : ∃ x, x = fr'[r.toNat] := ⟨_, rfl⟩
    rw [← hx] at ex
    have hx0 := H.nonneg x (List.mem_of_getElem? ex)
    have hxn : ((x.toNat : Nat) : Int) = x := Int.toNat_of_nonneg hx0
    obtain ⟨v, ev, bv, _⟩ := H.lef x.toNat (by rw [hxn]; exact List.mem_of_getElem? ex)
    have hd6 : h6 d = some (.lst (intsD fr')) := by rw [e6 d zd.1 zd.2]; exact hd'
    have ha6 : h6 a = some (.lst (intsD c')) := by rw [e6 a za.1 za.2]; exact ha'
    refine ⟨_, .int x, hd6, r0, by rw [ints_length]; simp only [line]; omega, by rw [ints_get, ex]; rfl, ?_⟩
    have ha7 : upd h6 d (.lst ((intsD fr').eraseIdx r.toNat)) a = some (.lst (intsD c')) := by rw [upd_ne ad]; exact ha6
    have e2 : atI (intsD c') x = some (.int v) := atI_of hx0 (by rw [ints_get, ev]; rfl)
    simp only [ix_lst ha7 e2]
    rw [set_lst ha7 (ixN_of hx0 (by rw [ints_length]; have := lt_of_get ev; omega)), ints_set, ints_erase]
    refine ⟨_, _, _, ns6, s6, _, _, _, rfl, (k6.own d0).own na, (X6.upd zd).upd za, upd_same, by rw [upd_ne (Ne.symm ad)]; exact upd_same, ?_, H.sit h4 hi' ex ev⟩
    rw [erase_len ex]; omega
  · rintro σ h5 ⟨_, _, _, ns', s', c', fr', pl, rfl, k', X', ha', hd', fl, H⟩
    refine ⟨trivial, ?_⟩
    have : (irange 0 (p.many : Int)).length = p.many := by rw [irange_lengthP]; simp
    rw [this] at H
    simp only [s_law_made_up_8, eVar, eC, eBin, eUn, rAdd, rSub, rMul, rDiv, rMod, rNeg, rLt, rLe, rGt, rGe, eqii, eqss, eqnn, eqni, eqin, eqbb, rNe, rIsN, rIsNotN, rIsB, rIsNotB, D.isNon, tVal, tAnd, tOr, tNot, eAnd, eOr, eNot, eIf, eChain, aNil, aCons, eTup, eLst, eDK, eDT, eCall, eCB, eBM, eDM, rLen, rIsA, isA, rList, rTuple, rInt, rMax2, gName, gTup, gCons, gNil, gSub, sNext, sSeq, sBreak, sCont, sAsg, sPar, sAug, sDrop, sRet, sRetN, sIf, outE, sg, ss, sw, swipe, tYes, isLst, isDct]
    exact ⟨_, ha', _, k'.sub X', q c' pl ns' s' H.good X'.le⟩
end F

set_option linter.all false
set_option maxRecDepth 100000
namespace F
open PySem (Str PyData)
theorem alike_ints {n : Nat} {c : List Int} {h : Hp} : toP h (n + 1) (picD c) = some (.tuple (c.map .int)) := by
  simp only [picD, toP, omap_ints]
theorem small_ints {n : Nat} {c : List Int} (hl : c.length ≤ 100000) : smallP (n + 1) (.tuple (c.map .int)) = true := by
  simp only [smallP, Bool.and_eq_true, decide_eq_true_eq, List.length_map]
  refine ⟨hl, List.all_eq_true.mpr fun x hx => ?_⟩
  obtain ⟨i, _, rfl⟩ := List.mem_map.mp hx
  cases n <;> rfl
theorem flatP_inv {d : D} {P : PyData} (e : flatP d = some P) : (d = .non ∧ P = .none) ∨ (∃ b, d = .bl b ∧ P = .bool b) ∨ (∃ i, d = .int i ∧ P = .int i) ∨ (∃ x, d = .str x ∧ P = .str x) := by
  cases d with
  | non => cases e; exact .inl ⟨rfl, rfl⟩
  | bl b => cases e; exact .inr (.inl ⟨b, rfl, rfl⟩)
  | int i => cases e; exact .inr (.inr (.inl ⟨i, rfl, rfl⟩))
  | str x =>
    simp only [flatP] at e
    split at e
    · cases e; exact .inr (.inr (.inr ⟨x, rfl, rfl⟩))
    · cases e
  | tup => cases e
  | ref => cases e
  | wd => cases e
  | ro => cases e
  | ct => cases e
theorem toP_inv {h : Hp} {n : Nat} {d : D} {P : PyData} (e : toP h n d = some P) : (d = .non ∧ P = .none) ∨ (∃ b, d = .bl b ∧ P = .bool b) ∨ (∃ i, d = .int i ∧ P = .int i) ∨ (∃ x, d = .str x ∧ P = .str x) ∨
    (∃ m xs ps, n = m + 1 ∧ d = .tup xs ∧ P = .tuple ps ∧ omap (toP h m) xs = some ps) ∨ (∃ m a xs ps, n = m + 1 ∧ d = .ref a ∧ h a = some (.lst xs) ∧ P = .list ps ∧ omap (toP h m) xs = some ps) := by
  have flat : flatP d = some P → _ := fun z => (flatP_inv z).imp_right fun z => z.imp_right fun z => z.imp_right fun z => Or.inl (b := (∃ m xs ps, n = m + 1 ∧ d = .tup xs ∧ P = .tuple ps ∧ omap (toP h m) xs = some ps) ∨ (∃ m a xs ps, n = m + 1 ∧ d = .ref a ∧ h a = some (.lst xs) ∧ P = .list ps ∧ omap (toP h m) xs = some ps)) z
  cases n with
  | zero => exact flat e
  | succ n =>
    cases d with
    | tup xs =>
      simp only [toP] at e
      cases e2 : omap (toP h n) xs with
      | none => rw [e2] at e; cases e
      | some ps => rw [e2] at e; cases e; exact .inr (.inr (.inr (.inr (.inl ⟨n, xs, ps, rfl, rfl, rfl, e2⟩))))
    | ref a =>
      simp only [toP] at e
      cases e1 : h a with
      | none => rw [e1] at e; cases e
      | some o =>
        rw [e1] at e
        cases o with
        | lst xs =>
          simp only at e
          cases e2 : omap (toP h n) xs with
          | none => rw [e2] at e; cases e
          | some ps => rw [e2] at e; cases e; exact .inr (.inr (.inr (.inr (.inr ⟨n, a, xs, ps, rfl, rfl, e1, rfl, e2⟩))))
        | _ => cases e
    | non => exact flat e
    | bl b => exact flat e
    | int i => exact flat e
    | str x => exact flat e
    | wd => exact flat e
    | ro => exact flat e
    | ct => exact flat e
theorem omap_len {f : D → Option PyData} : ∀ {xs : List D} {ps : List PyData}, omap f xs = some ps → xs.length = ps.length
  | [], ps, e => by cases e; rfl
  | x :: r, ps, e => by
    simp only [omap] at e
    split at e
    · rename_i h1 h2
      cases e
      simp [omap_len h2]
    · cases e
theorem omap_get {f : D → Option PyData} : ∀ {xs : List D} {ps : List PyData} {i : Nat} {x : D}, omap f xs = some ps → xs[i]? = some x → ∃ p, ps[i]? = some p ∧ f x = some p
  | [], _, _, _, _, e => by simp at e
  | y :: r, ps, i, x, e, h => by
    simp only [omap] at e
    split at e
    · rename_i h1 h2
      cases e
      cases i with
      | zero => simp at h; subst h; exact ⟨_, rfl, h1⟩
      | succ i =>
        obtain ⟨p, e1, e2⟩ := omap_get (i := i) (x := x) h2 (by simpa using h)
        exact ⟨p, by simpa using e1, e2⟩
    · cases e
/-- the walk through two sequences -/
theorem alike_walk {n : Nat} {spR : Sp} (hR : ∀ m, n = m + 1 → spR = sp_alikeN m) {x y : D} {h : Hp} {Q : KV} {E : Xc → Hp → Prop} {m : Nat} {xs ys : List D} {ps : List PyData} (en : n = m + 1) (o1 : omap (toP h m) xs = some ps) (o2 : omap (toP h m) ys = some ps)
    (ix : ∀ (Q : KV) (i : Int) v, atI xs i = some v → Q v h → rIx x (.int i) h Q) (iy : ∀ (Q : KV) (i : Int) v, atI ys i = some v → Q v h → rIx y (.int i) h Q)
    (ly : ∀ Q : KV, Q (.int (ys.length : Int)) h → rLen [y] h Q) (lim : ps.length ≤ 100000) (sm : ps.all (smallP m) = true) (q : Q (.bl true) h) :
    s_law_alike_14 spR { nx := s_law_alike_15 spR (outE Q E), rt := fun v h => ∃ h0, Sub h0 h ∧ Q v h0, bk := fun x x_1 => False, ct := fun x x_1 => False, xe := fun x x_1 h => ∃ h0, Sub h0 h ∧ E x h0 } [some x, some y, none] h := by
  have l1 := omap_len o1
  have l2 := omap_len o2
  unfold s_law_alike_14 sFor
  simp only [iRng, eCB, aCons, aNil, eVar, sg]
  have b1 : -(2 ^ 62) ≤ (ys.length : Int) := by omega
  have b2 : (ys.length : Int) < 2 ^ 62 := by omega
  refine ly _ ⟨⟨b1, b2⟩, fun i σ h' => h' = h ∧ ∃ z, σ = [some x, some y, z], ⟨rfl, _, rfl⟩, ?_, ?_⟩
  · rintro i z σ h' hz ⟨rfl, _, rfl⟩
    obtain ⟨rfl, hi⟩ := irange_getP hz
    refine ⟨trivial, ?_⟩
    have hi1 : i < xs.length := by omega
    have hi2 : i < ys.length := by omega
    have g1 : xs[i]? = some xs[i] := List.getElem?_eq_getElem hi1
    have g2 : ys[i]? = some ys[i] := List.getElem?_eq_getElem hi2
    obtain ⟨p1, a1, b1⟩ := omap_get o1 g1
    obtain ⟨p2, a2, b2⟩ := omap_get o2 g2
    rw [a1] at a2; cases a2
    simp only [gName, ss, s_law_alike_13, sIf, tNot, tVal, eCall, aCons, aNil, eBin, eVar, sg]
    refine ix _ _ _ (atI_nat g1) (iy _ _ _ (atI_nat g2) ?_)
    rw [hR m en]
    refine ⟨xs[i], ys[i], p1, rfl, b1, b2, (List.all_eq_true.mp sm) p1 (List.mem_of_getElem? a1), ?_⟩
    simp only [Bool.not_true, Bool.false_eq_true, if_false, sNext]
    exact ⟨(by first | trivial | rfl), _, rfl⟩
  · rintro σ h' ⟨rfl, _, rfl⟩
    refine ⟨trivial, ?_⟩
    simp only [s_law_alike_15, eVar, eC, eBin, eUn, rAdd, rSub, rMul, rDiv, rMod, rNeg, rLt, rLe, rGt, rGe, eqii, eqss, eqnn, eqni, eqin, eqbb, rNe, rIsN, rIsNotN, rIsB, rIsNotB, D.isNon, tVal, tAnd, tOr, tNot, eAnd, eOr, eNot, eIf, eChain, aNil, aCons, eTup, eLst, eDK, eDT, eCall, eCB, eBM, eDM, rLen, rIsA, isA, rList, rTuple, rInt, rMax2, gName, gTup, gCons, gNil, gSub, sNext, sSeq, sBreak, sCont, sAsg, sPar, sAug, sDrop, sRet, sRetN, sIf, outE, sg, ss, sw, swipe, tYes, isLst, isDct]
    exact ⟨_, Sub.refl _, q⟩
theorem ia_b1 {h : Hp} {b : Bool} : isA h (.bl b) .bool = some true := rfl
theorem ia_i1 {h : Hp} {i : Int} : isA h (.int i) .bool = some false := rfl
theorem ia_i2 {h : Hp} {i : Int} : isA h (.int i) .int = some true := rfl
theorem ia_s1 {h : Hp} {x : Str} : isA h (.str x) .bool = some false := rfl
theorem ia_s2 {h : Hp} {x : Str} : isA h (.str x) .int = some false := rfl
theorem ia_s3 {h : Hp} {x : Str} : isA h (.str x) .str = some true := rfl
theorem ia_t1 {h : Hp} {x : List D} : isA h (.tup x) .bool = some false := rfl
theorem ia_t2 {h : Hp} {x : List D} : isA h (.tup x) .int = some false := rfl
theorem ia_t3 {h : Hp} {x : List D} : isA h (.tup x) .str = some false := rfl
theorem ia_t4 {h : Hp} {x : List D} : isA h (.tup x) .tuple = some true := rfl
theorem ia_t5 {h : Hp} {x : List D} : isA h (.tup x) .list = some false := rfl
theorem ia_l {h : Hp} {a : Nat} {xs : List D} {t : Ty} (e : h a = some (.lst xs)) : isA h (.ref a) t = some (decide (t = .list)) := by simp only [isA, e]
theorem dt_b : decide (Ty.bool = Ty.list) = false := rfl
theorem dt_i : decide (Ty.int = Ty.list) = false := rfl
theorem dt_s : decide (Ty.str = Ty.list) = false := rfl
theorem dt_t : decide (Ty.tuple = Ty.list) = false := rfl
theorem dt_l : decide (Ty.list = Ty.list) = true := rfl
theorem ok_alikeN (n : Nat) {spR : Sp} (hR : ∀ m, n = m + 1 → spR = sp_alikeN m) : ∀ ds h Q E, sp_alikeN n ds h Q E → r_law_alike spR (outE Q E) (start2 3 ds) h := by
  rintro ds h Q E ⟨x, y, P, rfl, e1, e2, sm, q⟩
  show r_law_alike spR (outE Q E) [some x, some y, none] h
  rcases toP_inv e2 with ⟨rfl, rfl⟩ | ⟨b, rfl, rfl⟩ | ⟨i, rfl, rfl⟩ | ⟨s, rfl, rfl⟩ | ⟨m, ys, ps, en, rfl, rfl, o2⟩ | ⟨m, a2, ys, ps, en, rfl, ha2, rfl, o2⟩
  · rcases toP_inv e1 with ⟨rfl, _⟩ | ⟨b, _, z⟩ | ⟨i, _, z⟩ | ⟨s, _, z⟩ | ⟨m, xs, ps, _, _, z, _⟩ | ⟨m, a, xs, ps, _, _, _, z, _⟩ <;> first | cases z | skip
    simp only [r_law_alike, s_law_alike_0, s_law_alike_1, eVar, eUn, eBin, eCB, aCons, aNil, rIsN, D.isNon, tVal, tNot, tOr, eAnd, eNot, sSeq, sIf, sRet, sNext, sg, rIsA, outE, if_true, if_false, Bool.false_eq_true, Bool.not_true, Bool.not_false, if_true]
    exact ⟨h, Sub.refl h, q⟩
  · rcases toP_inv e1 with ⟨_, z⟩ | ⟨b', rfl, z⟩ | ⟨i, _, z⟩ | ⟨s, _, z⟩ | ⟨m, xs, ps, _, _, z, _⟩ | ⟨m, a, xs, ps, _, _, _, z, _⟩ <;> first | cases z | skip
    simp only [r_law_alike, s_law_alike_1, s_law_alike_2, s_law_alike_3, eVar, eUn, eBin, eCB, aCons, aNil, rIsN, D.isNon, tVal, tNot, tOr, eAnd, eNot, sSeq, sIf, sRet, sNext, sg, rIsA, outE, if_true, if_false, Bool.false_eq_true, Bool.not_true, Bool.not_false, ia_b1, eqbb, beq_self_eq_true]
    exact ⟨h, Sub.refl h, q⟩
  · rcases toP_inv e1 with ⟨_, z⟩ | ⟨b', _, z⟩ | ⟨i', rfl, z⟩ | ⟨s, _, z⟩ | ⟨m, xs, ps, _, _, z, _⟩ | ⟨m, a, xs, ps, _, _, _, z, _⟩ <;> first | cases z | skip
    simp only [r_law_alike, s_law_alike_1, sSeq, sIf, tVal, eUn, eVar, sg, rIsN, D.isNon, Bool.false_eq_true, if_false, sNext]
    simp only [s_law_alike_3, sSeq, sIf, tVal, eCB, aCons, aNil, eVar, sg, rIsA, ia_i1, Bool.false_eq_true, if_true, if_false, sNext]
    simp only [s_law_alike_5, sSeq, sIf, tVal, eCB, aCons, aNil, eVar, sg, rIsA, ia_i2, Bool.false_eq_true, if_true, if_false, sNext]
    simp only [s_law_alike_4, sRet, outE, eAnd, eNot, eCB, eBin, aCons, aNil, eVar, sg, rIsA, ia_i1, ia_i2, if_true, eqii, eqss, eqbb, Bool.not_false, eq_self, decide_true, beq_self_eq_true]
    exact ⟨h, Sub.refl h, q⟩
  · rcases toP_inv e1 with ⟨_, z⟩ | ⟨b', _, z⟩ | ⟨i', _, z⟩ | ⟨s', rfl, z⟩ | ⟨m, xs, ps, _, _, z, _⟩ | ⟨m, a, xs, ps, _, _, _, z, _⟩ <;> first | cases z | skip
    simp only [r_law_alike, s_law_alike_1, sSeq, sIf, tVal, eUn, eVar, sg, rIsN, D.isNon, Bool.false_eq_true, if_false, sNext]
    simp only [s_law_alike_3, sSeq, sIf, tVal, eCB, aCons, aNil, eVar, sg, rIsA, ia_s1, Bool.false_eq_true, if_true, if_false, sNext]
    simp only [s_law_alike_5, sSeq, sIf, tVal, eCB, aCons, aNil, eVar, sg, rIsA, ia_s2, Bool.false_eq_true, if_true, if_false, sNext]
    simp only [s_law_alike_7, sSeq, sIf, tVal, eCB, aCons, aNil, eVar, sg, rIsA, ia_s3, Bool.false_eq_true, if_true, if_false, sNext]
    simp only [s_law_alike_6, sRet, outE, eAnd, eNot, eCB, eBin, aCons, aNil, eVar, sg, rIsA, ia_s3, if_true, eqii, eqss, eqbb, Bool.not_false, eq_self, decide_true, beq_self_eq_true]
    exact ⟨h, Sub.refl h, q⟩
  · rcases toP_inv e1 with ⟨_, z⟩ | ⟨b', _, z⟩ | ⟨i', _, z⟩ | ⟨s', _, z⟩ | ⟨m', xs, ps', en', rfl, z, o1⟩ | ⟨m', a, xs, ps', _, _, _, z, _⟩ <;> first | cases z | skip
    have : m' = m := by omega
    subst this
    have l1 := omap_len o1
    have l2 := omap_len o2
    have ll : (xs.length : Int) = (ys.length : Int) := by omega
    subst en
    simp only [smallP, Bool.and_eq_true, decide_eq_true_eq] at sm
    have w := alike_walk (E := E) hR rfl o1 o2 (x := .tup xs) (y := .tup ys) (fun Q i v e q => by rw [ix_tup e]; exact q) (fun Q i v e q => by rw [ix_tup e]; exact q) (fun Q q => q) sm.1 sm.2 q
    simp only [r_law_alike, s_law_alike_1, sSeq, sIf, tVal, eUn, eVar, sg, rIsN, D.isNon, Bool.false_eq_true, if_false, sNext]
    simp only [s_law_alike_3, sSeq, sIf, tVal, eCB, aCons, aNil, eVar, sg, rIsA, ia_t1, Bool.false_eq_true, if_true, if_false, sNext]
    simp only [s_law_alike_5, sSeq, sIf, tVal, eCB, aCons, aNil, eVar, sg, rIsA, ia_t2, Bool.false_eq_true, if_true, if_false, sNext]
    simp only [s_law_alike_7, sSeq, sIf, tVal, eCB, aCons, aNil, eVar, sg, rIsA, ia_t3, Bool.false_eq_true, if_true, if_false, sNext]
    simp only [s_law_alike_9, sSeq, sIf, tOr, tVal, eCB, eBin, aCons, aNil, eVar, sg, rIsA, rNe, eqbb, ia_t4, ia_t5, beq_self_eq_true, Bool.not_true, Bool.false_eq_true, if_true, if_false, sNext]
    simp only [s_law_alike_11, sSeq, sIf, tOr, tVal, eCB, eBin, aCons, aNil, eVar, sg, rLen, rNe, eqii, ll, eq_self, decide_true, Bool.not_true, Bool.false_eq_true, if_true, if_false, sNext]
    exact w
  · rcases toP_inv e1 with ⟨_, z⟩ | ⟨b', _, z⟩ | ⟨i', _, z⟩ | ⟨s', _, z⟩ | ⟨m', xs, ps', _, _, z, _⟩ | ⟨m', a1, xs, ps', en', rfl, ha1, z, o1⟩ <;> first | cases z | skip
    have : m' = m := by omega
    subst this
    have l1 := omap_len o1
    have l2 := omap_len o2
    have ll : (xs.length : Int) = (ys.length : Int) := by omega
    subst en
    simp only [smallP, Bool.and_eq_true, decide_eq_true_eq] at sm
    have w := alike_walk (E := E) hR rfl o1 o2 (x := .ref a1) (y := .ref a2) (fun Q i v e q => by rw [ix_lst ha1 e]; exact q) (fun Q i v e q => by rw [ix_lst ha2 e]; exact q) (fun Q q => by simp only [rLen, ha2]; exact q) sm.1 sm.2 q
    simp only [r_law_alike, s_law_alike_1, s_law_alike_3, s_law_alike_5, s_law_alike_7, s_law_alike_9, s_law_alike_11, eVar, eUn, eBin, eCB, aCons, aNil, rIsN, D.isNon, tVal, tNot, tOr, eAnd, eNot, sSeq, sIf, sRet, sNext, sg, rIsA, outE, if_true, if_false, Bool.false_eq_true, Bool.not_true, Bool.not_false, ia_l ha1, ia_l ha2, dt_b, dt_i, dt_s, dt_t, dt_l, eqbb, rNe, rLen, eqii, ha1, ha2, ll, beq_self_eq_true, decide_true, eq_self]
    exact w
end F

set_option linter.all false
set_option maxRecDepth 100000
namespace F
open PySem (Str PyData)
def besKi (p : Plan) (c : Cell) (i : Nat) : List (Key × D) := ((fourW.take i).filter fun q => decide (inB p (c.1 + q.2.1, c.2 + q.2.2) ∧ (c.1 + q.2.1, c.2 + q.2.2) ∉ p.bk)).map fun q => (.inr q.1, cellD (c.1 + q.2.1, c.2 + q.2.2))
theorem fourW_new {i : Nat} {y : Str} {d : Cell} (e : fourW[i]? = some (y, d)) : ∀ q ∈ fourW.take i, q.1 ≠ y := by
  rcases i with _ | _ | _ | _ | i
  · intro q hq; simp at hq
  · cases e; decide
  · cases e; decide
  · cases e; decide
  · simp [fourW] at e
theorem put_new {κ : Type} [DecidableEq κ] {kvs : List (κ × D)} {k : κ} {v : D} (n : ∀ kv ∈ kvs, kv.1 ≠ k) : put kvs k v = kvs ++ [(k, v)] := by
  unfold put
  rw [if_neg]
  intro z
  obtain ⟨kv, h1, h2⟩ := List.any_eq_true.mp z
  exact n kv h1 (of_decide_eq_true h2)
theorem besKi_len {p : Plan} {c : Cell} {i : Nat} : (besKi p c i).length ≤ 4 := by
  unfold besKi
  rw [List.length_map]
  refine Nat.le_trans (List.length_filter_le _ _) ?_
  rw [List.length_take]
  exact Nat.min_le_right _ _
theorem besKi_put {p : Plan} {c : Cell} {i : Nat} {y : Str} {d : Cell} (e : fourW[i]? = some (y, d)) (hb : inB p (c.1 + d.1, c.2 + d.2) ∧ (c.1 + d.1, c.2 + d.2) ∉ p.bk) :
    put (besKi p c i) (.inr y) (cellD (c.1 + d.1, c.2 + d.2)) = besKi p c (i + 1) := by
  rw [put_new]
  · unfold besKi
    rw [take_succ e, List.filter_append, List.map_append]
    congr 1
    rw [List.filter_cons, if_pos (decide_eq_true hb)]
    rfl
  · intro kv hkv
    obtain ⟨q, hq, rfl⟩ := List.mem_map.mp hkv
    have := fourW_new e q (List.mem_filter.mp hq).1
    intro z
    exact this (Sum.inr.inj z)
theorem besKi_skip {p : Plan} {c : Cell} {i : Nat} {y : Str} {d : Cell} (e : fourW[i]? = some (y, d)) (hb : ¬ (inB p (c.1 + d.1, c.2 + d.2) ∧ (c.1 + d.1, c.2 + d.2) ∉ p.bk)) : besKi p c (i + 1) = besKi p c i := by
  unfold besKi
  rw [take_succ e, List.filter_append, List.map_append, List.filter_cons, if_neg (by rw [decide_eq_true_iff]; exact hb)]
  simp
theorem ok_law_beside : ∀ ds h Q E, sp_law_beside ds h Q E → r_law_beside (outE Q E) (start2 7 ds) h := by
  rintro ds h Q E ⟨p, c, rfl, q⟩
  show r_law_beside (outE Q E) [some (planD p), some (cellD c), none, none, none, none, none] h
  simp only [r_law_beside, s_law_beside_0, sSeq, sAsg, eVar, sg, cellD, gTup, gCons, gNil, gName, ss, List.length_cons, List.length_nil]
  refine ⟨(by first | trivial | rfl), ?_⟩
  simp only [s_law_beside_1, sAsg, eDK, gName, ss]
  intro a na
  simp only [s_law_beside_4]
  unfold sFor
  simp only [iSeq, eTup, aCons, aNil, eC, eVar, eBin, rAdd, rSub, sg, List.length_cons, List.length_nil]
  refine ⟨by simp [line], by simp [line], by simp [line], by simp [line], by simp [line], by simp [line], by simp [line], by simp [line], by simp [line],
    fun i σ h' => ∃ u v, σ = [some (planD p), some (cellD c), some (.ref a), some (.int c.1), some (.int c.2), u, v] ∧ h' = upd h a (.dK (besKi p c i)), ⟨_, _, rfl, rfl⟩, ?_, ?_⟩
  · rintro i x σ h' hx ⟨_, _, rfl, rfl⟩
    obtain ⟨y, d, e, rfl⟩ : ∃ y d, fourW[i]? = some (y, d) ∧ x = .tup [.str y, cellD (c.1 + d.1, c.2 + d.2)] := by
      rcases i with _ | _ | _ | _ | i
      · cases hx; exact ⟨_, _, rfl, by simp [cellD]; omega⟩
      · cases hx; exact ⟨_, _, rfl, by simp [cellD]⟩
      · cases hx; exact ⟨_, _, rfl, by simp [cellD]⟩
      · cases hx; exact ⟨_, _, rfl, by simp [cellD]; omega⟩
      · simp at hx
    refine ⟨trivial, ?_⟩
    simp only [gTup, gCons, gNil, gName, ss, List.length_cons, List.length_nil]
    refine ⟨(by first | trivial | rfl), ?_⟩
    obtain ⟨ce, hce⟩ : ∃ ce : Cell, ce = (c.1 + d.1, c.2 + d.2) := ⟨_, rfl⟩
    have key : (if inB p ce ∧ ce ∉ p.bk then s_law_beside_2 else sNext) { nx := fun σ h' => ∃ u v, σ = [some (planD p), some (cellD c), some (.ref a), some (.int c.1), some (.int c.2), u, v] ∧ h' = upd h a (.dK (besKi p c (i + 1))), rt := fun v h => ∃ h0, Sub h0 h ∧ Q v h0, bk := s_law_beside_5 (outE Q E), ct := fun σ h' => ∃ u v, σ = [some (planD p), some (cellD c), some (.ref a), some (.int c.1), some (.int c.2), u, v] ∧ h' = upd h a (.dK (besKi p c (i + 1))), xe := fun x x_1 h => ∃ h0, Sub h0 h ∧ E x h0 }
        [some (planD p), some (cellD c), some (.ref a), some (.int c.1), some (.int c.2), some (.str y), some (cellD ce)] (upd h a (.dK (besKi p c i))) := by
      by_cases hb : inB p ce ∧ ce ∉ p.bk
      · rw [if_pos hb]
        simp only [s_law_beside_2, sAsg, eVar, sg, gSub, rSet, upd_same, D.key, upd_upd]
        refine ⟨Nat.lt_of_le_of_lt besKi_len (by simp [line]), _, _, rfl, ?_⟩
        rw [hce] at hb ⊢
        rw [besKi_put e hb]
      · rw [if_neg hb]
        simp only [sNext]
        refine ⟨_, _, rfl, ?_⟩
        rw [hce] at hb
        rw [besKi_skip e hb]
    rw [← hce]
    simp only [s_law_beside_3, sIf, tAnd, tVal, eChain, eBin, eC, eVar, sg, c0, c1, p0, p1, p3, rLe, rLt, rNotIn, in_cells]
    by_cases h1 : 0 ≤ ce.1
    · by_cases h2 : ce.1 < p.w
      · by_cases h3 : 0 ≤ ce.2
        · by_cases h4 : ce.2 < p.h
          · by_cases h5 : ce ∈ p.bk
            · rw [if_neg (fun z => z.2 h5)] at key
              simp only [h1, h2, h3, h4, h5, decide_true, if_true, Bool.not_true, Bool.false_eq_true, if_false]
              exact key
            · rw [if_pos ⟨⟨h1, h2, h3, h4⟩, h5⟩] at key
              simp only [h1, h2, h3, h4, h5, decide_true, decide_false, if_true, Bool.not_false]
              exact key
          · rw [if_neg (fun z => h4 z.1.2.2.2)] at key
            simp only [h1, h2, h3, h4, decide_true, decide_false, if_true, Bool.false_eq_true, if_false]
            exact key
        · rw [if_neg (fun z => h3 z.1.2.2.1)] at key
          simp only [h1, h2, h3, decide_true, decide_false, if_true, Bool.false_eq_true, if_false]
          exact key
      · rw [if_neg (fun z => h2 z.1.2.1)] at key
        simp only [h1, h2, decide_true, decide_false, if_true, Bool.false_eq_true, if_false]
        exact key
    · rw [if_neg (fun z => h1 z.1.1)] at key
      simp only [h1, decide_false, Bool.false_eq_true, if_false]
      exact key
  · rintro σ h' ⟨_, _, rfl, rfl⟩
    refine ⟨trivial, ?_⟩
    simp only [s_law_beside_5, sRet, eVar, sg, outE]
    exact ⟨_, Sub.refl _, q a na⟩
/-! values by their cell -/
theorem eq_cells {c d : Cell} {h : Hp} {Q : KV} : rEq (cellD c) (cellD d) h Q = Q (.bl (decide (c = d))) h := by
  have e1 : toP h 9 (cellD c) = some (cellP c) := toP_cell
  have e2 : toP h 9 (cellD d) = some (cellP d) := toP_cell
  show (match toP h 9 (cellD c), toP h 9 (cellD d) with
    | some p, some q => Q (.bl (peq p q)) h
    | _, _ => False) = _
  rw [e1, e2]
  show Q (.bl (peq (cellP c) (cellP d))) h = _
  rw [peq_cell]
def cK (p : Plan) (k : Nat) : Cell := ((k : Int) % p.w, (k : Int) / p.w)
theorem cK_spot {p : Plan} {k : Nat} : spot p (cK p k) = k := cell_spot k
theorem spot_cK {p : Plan} {c : Cell} (b : inB p c) : cK p (spot p c).toNat = c := by
  unfold cK; rw [spot_toNat b]; exact spot_cell b
theorem cK_inj {p : Plan} {j k : Nat} (e : cK p j = cK p k) : j = k := by
  have h1 := cK_spot (p := p) (k := j)
  rw [e, cK_spot] at h1
  omega
theorem cK_inB {p : Plan} (ok : p.Ok) {k : Nat} (h : k < p.n) : inB p (cK p k) := by
  have := ok.nn
  exact cell_inB ok (by omega) (by omega)
theorem isB_cK {p : Plan} (ok : p.Ok) {k : Nat} (hk : k < p.n) : isB p k ↔ cK p k ∈ p.bk := isB_cell ok hk
def cellKey (c : Cell) : List Key := [.inl c.1, .inl c.2]
theorem cellKey_inj {c d : Cell} : cellKey c = cellKey d ↔ c = d := by
  obtain ⟨a, b⟩ := c
  obtain ⟨a', b'⟩ := d
  simp [cellKey]
/-- the cells below i that are no blocks -/
def fr (p : Plan) (i : Nat) : List Nat := (List.range i).filter fun k => !decide (isB p k)
/-- the owners' dict of a picture, as far as i -/
def ownL (p : Plan) (c : List Int) (i : Nat) : List (List Key × D) := (fr p i).map fun k => (cellKey (cK p k), .int (c.getD k 0 / 10))
/-- the places' dict -/
def plL (p : Plan) (od : List Nat) (pl : Nat → Nat) : List (Key × D) := od.map fun (s : Nat) => (.inl (s : Int), cellD (cK p (pl s)))
theorem fr_mem {p : Plan} {i k : Nat} : k ∈ fr p i ↔ k < i ∧ ¬ isB p k := by
  unfold fr
  rw [List.mem_filter, List.mem_range]
  simp
theorem fr_nd {p : Plan} {i : Nat} : (fr p i).Nodup := List.nodup_range.filter _
theorem fr_succ {p : Plan} {i : Nat} : fr p (i + 1) = if isB p i then fr p i else fr p i ++ [i] := by
  unfold fr
  rw [List.range_succ, List.filter_append, List.filter_cons]
  by_cases h : isB p i <;> simp [h]
theorem look_map {κ α : Type} [DecidableEq κ] {f : α → κ} {g : α → D} {x : α} : ∀ {xs : List α}, (∀ a ∈ xs, ∀ b ∈ xs, f a = f b → a = b) → x ∈ xs → look (xs.map fun a => (f a, g a)) (f x) = some (g x)
  | [], _, h => by simp at h
  | y :: r, inj, h => by
    unfold look
    rw [List.map_cons, List.find?_cons]
    by_cases e : f y = f x
    · have : y = x := inj y (by simp) x h e
      rw [decide_eq_true e, this]; rfl
    · rw [decide_eq_false e]
      have hx : x ∈ r := by
        rcases List.mem_cons.mp h with rfl | h
        · exact absurd rfl e
        · exact h
      exact look_map (xs := r) (fun a ha b hb => inj a (by simp [ha]) b (by simp [hb])) hx
theorem look_none {κ α : Type} [DecidableEq κ] {f : α → κ} {g : α → D} {k : κ} {xs : List α} (n : ∀ a ∈ xs, f a ≠ k) : look (xs.map fun a => (f a, g a)) k = none := by
  unfold look
  rw [List.find?_eq_none.mpr]
  · rfl
  · intro kv hkv
    obtain ⟨a, ha, rfl⟩ := List.mem_map.mp hkv
    simpa using n a ha
theorem put_map {κ α : Type} [DecidableEq κ] {f : α → κ} {g g' : α → D} {x : α} {xs : List α} (hx : x ∈ xs) (e : ∀ a ∈ xs, f a = f x → g' a = g' x) (e2 : ∀ a ∈ xs, f a ≠ f x → g' a = g a) : put (xs.map fun a => (f a, g a)) (f x) (g' x) = xs.map fun a => (f a, g' a) := by
  unfold put
  rw [if_pos]
  · rw [List.map_map]
    refine List.map_congr_left fun a ha => ?_
    by_cases z : f a = f x
    · simp [z, e a ha z]
    · simp [z, e2 a ha z]
  · rw [List.any_eq_true]
    exact ⟨(f x, g x), List.mem_map_of_mem hx, by simp⟩
theorem ownL_look {p : Plan} {c : List Int} {i k : Nat} (h : k < i) (b : ¬ isB p k) : look (ownL p c i) (cellKey (cK p k)) = some (.int (c.getD k 0 / 10)) :=
  look_map (f := fun k => cellKey (cK p k)) (g := fun k => .int (c.getD k 0 / 10)) (fun a _ b _ e => cK_inj (cellKey_inj.mp e)) (fr_mem.mpr ⟨h, b⟩)
theorem ownL_len {p : Plan} {c : List Int} {i : Nat} : (ownL p c i).length ≤ i := by
  unfold ownL fr
  rw [List.length_map]
  refine Nat.le_trans (List.length_filter_le _ _) (by simp)
theorem getD_set {c : List Int} {j k : Nat} {v : Int} (hj : j < c.length) : (c.set j v).getD k 0 = if k = j then v else c.getD k 0 := by
  unfold List.getD
  rw [List.getElem?_set]
  by_cases e : j = k
  · rw [if_pos e, if_pos (by omega), if_pos e.symm]; rfl
  · rw [if_neg e, if_neg (Ne.symm e)]
theorem ownL_put {p : Plan} {c c' : List Int} {i j : Nat} {v : Int} (h : j < i) (b : ¬ isB p j) (hv : c'.getD j 0 / 10 = v) (ho : ∀ k, k ≠ j → c'.getD k 0 / 10 = c.getD k 0 / 10) : put (ownL p c i) (cellKey (cK p j)) (.int v) = ownL p c' i := by
  subst hv
  exact put_map (f := fun k => cellKey (cK p k)) (g := fun k => .int (c.getD k 0 / 10)) (g' := fun k => .int (c'.getD k 0 / 10)) (fr_mem.mpr ⟨h, b⟩) (fun a _ e => by rw [cK_inj (cellKey_inj.mp e)]) fun a _ e => by
    have : a ≠ j := fun z => e (by rw [z])
    rw [ho a this]
theorem ownL_new {p : Plan} {c : List Int} {i : Nat} (b : ¬ isB p i) : put (ownL p c i) (cellKey (cK p i)) (.int (c.getD i 0 / 10)) = ownL p c (i + 1) := by
  rw [put_new]
  · unfold ownL; rw [fr_succ, if_neg b, List.map_append]; rfl
  · intro kv hkv
    obtain ⟨k, hk, rfl⟩ := List.mem_map.mp hkv
    intro z
    have := cK_inj (cellKey_inj.mp z)
    have := (fr_mem.mp hk).1
    omega
theorem ownL_skip {p : Plan} {c : List Int} {i : Nat} (b : isB p i) : ownL p c (i + 1) = ownL p c i := by
  unfold ownL; rw [fr_succ, if_pos b]
theorem key_cell {c : Cell} : D.keyL [.int c.1, .int c.2] = some (cellKey c) := rfl
theorem plL_look {p : Plan} {od : List Nat} {pl : Nat → Nat} {s : Nat} (h : s ∈ od) : look (plL p od pl) (.inl (s : Int)) = some (cellD (cK p (pl s))) :=
  look_map (f := fun s : Nat => (Sum.inl (s : Int) : Key)) (g := fun s => cellD (cK p (pl s))) (fun a _ b _ e => by have := Sum.inl.inj e; omega) h
theorem plL_put {p : Plan} {od : List Nat} {pl : Nat → Nat} {s j : Nat} (h : s ∈ od) : put (plL p od pl) (.inl (s : Int)) (cellD (cK p j)) = plL p od (fun t => if t = s then j else pl t) := by
  have := put_map (f := fun s : Nat => (Sum.inl (s : Int) : Key)) (g := fun s => cellD (cK p (pl s))) (g' := fun t => cellD (cK p (if t = s then j else pl t))) h (fun a _ e => congrArg (fun t => cellD (cK p (if t = s then j else pl t))) (Int.ofNat.inj (Sum.inl.inj e))) fun a _ e => by
    have : a ≠ s := fun z => e (by rw [z])
    rw [if_neg this]
  rw [if_pos rfl] at this
  exact this
theorem plL_new {p : Plan} {od : List Nat} {pl : Nat → Nat} {s : Nat} (h : s ∉ od) : put (plL p od pl) (.inl (s : Int)) (cellD (cK p (pl s))) = plL p (od ++ [s]) pl := by
  rw [put_new]
  · unfold plL; rw [List.map_append]; rfl
  · intro kv hkv
    obtain ⟨k, hk, rfl⟩ := List.mem_map.mp hkv
    intro z
    have := Sum.inl.inj z
    have : k = s := by omega
    exact h (this ▸ hk)
theorem plL_vals {p : Plan} {od : List Nat} {pl : Nat → Nat} : (plL p od pl).map (fun q => q.2) = (od.map fun s => cK p (pl s)).map cellD := by
  unfold plL; simp
end F

set_option linter.all false
set_option maxRecDepth 100000
namespace F
open PySem (Str PyData)
/-! free cells -/
def isFree (p : Plan) (pl : Nat → Nat) (ce : Cell) : Prop := inB p ce ∧ ce ∉ p.bk ∧ ∀ s, s < p.many → cK p (pl s) ≠ ce
theorem cK_eq {p : Plan} {k : Nat} {ce : Cell} (b : inB p ce) : cK p k = ce ↔ k = (spot p ce).toNat := by
  constructor
  · rintro rfl
    have := cK_spot (p := p) (k := k)
    omega
  · rintro rfl; exact spot_cK b
theorem open_free {p : Plan} {c : List Int} {pl : Nat → Nat} (g : Good p c pl) (ok : p.Ok) {ce : Cell} (b : inB p ce) : openF c (some (spot p ce).toNat) = true ↔ isFree p pl ce := by
  have hl := spot_lt ok b
  rw [← g.len] at hl
  have e : c[(spot p ce).toNat]? = some c[(spot p ce).toNat] := List.getElem?_eq_getElem hl
  rw [openF_iff g]
  unfold isFree
  constructor
  · rintro ⟨v, e1, nb, m⟩
    refine ⟨b, fun z => nb ((isB_spot ok b).mpr z), fun s hs z => ?_⟩
    obtain ⟨u, e2, _, h3⟩ := g.pls s hs
    rw [(cK_eq b).mp z, e1] at e2
    cases e2
    omega
  · rintro ⟨_, nb, ns⟩
    have nb' : ¬ isB p (spot p ce).toNat := fun z => nb ((isB_spot ok b).mp z)
    refine ⟨_, e, nb', ?_⟩
    obtain ⟨f1, f2, f3⟩ := g.fre _ _ e nb'
    rcases (by omega : c[(spot p ce).toNat] % 10 = 0 ∨ 0 < c[(spot p ce).toNat] % 10) with z | z
    · exact z
    · have h1 := g.unq (c[(spot p ce).toNat] % 10 - 1).toNat _ _ (by omega) e nb' (by omega)
      exact absurd ((cK_eq b).mpr h1.symm) (ns _ (by omega))
def setM (p : Plan) (s : Nat) (c : List Int) (ce : Cell) : List Int := c.set (spot p ce).toNat (10 * (s : Int) + 10)
theorem besC_cK {p : Plan} {k : Nat} {d : Cell} : besC p k d = ((cK p k).1 + d.1, (cK p k).2 + d.2) := rfl
theorem markF_set {p : Plan} {c : List Int} {pl : Nat → Nat} (g : Good p c pl) (ok : p.Ok) {s k : Nat} {d : Cell} [Decidable (isFree p pl (besC p k d))] : markF p s k c d = if isFree p pl (besC p k d) then setM p s c (besC p k d) else c := by
  unfold markF besF
  by_cases b : inB p (besC p k d)
  · rw [if_pos b]
    simp only
    by_cases f : isFree p pl (besC p k d)
    · rw [if_pos f, if_pos ((open_free g ok b).mpr f)]; rfl
    · rw [if_neg f, if_neg (fun z => f ((open_free g ok b).mp z))]
  · rw [if_neg b, if_neg (fun f => b f.1)]
/-- the cells around a seat that are free -/
def marksL (p : Plan) (od : List Nat) (pl : Nat → Nat) (c0 : Cell) : List Cell := ((fourW.filter fun q => decide (inB p (c0.1 + q.2.1, c0.2 + q.2.2) ∧ (c0.1 + q.2.1, c0.2 + q.2.2) ∉ p.bk)).map fun q => (c0.1 + q.2.1, c0.2 + q.2.2)).filter fun ce => !decide (ce ∈ od.map fun s => cK p (pl s))
structure Seats (p : Plan) (od : List Nat) : Prop where
  nd : od.Nodup
  mem : ∀ s, s ∈ od ↔ s < p.many
theorem free_iff {p : Plan} {od : List Nat} (S : Seats p od) {pl : Nat → Nat} {ce : Cell} : isFree p pl ce ↔ (inB p ce ∧ ce ∉ p.bk) ∧ ce ∉ od.map fun s => cK p (pl s) := by
  unfold isFree
  constructor
  · rintro ⟨h1, h2, h3⟩
    refine ⟨⟨h1, h2⟩, fun z => ?_⟩
    obtain ⟨s, hs, e⟩ := List.mem_map.mp z
    exact h3 s ((S.mem s).mp hs) e
  · rintro ⟨⟨h1, h2⟩, h3⟩
    exact ⟨h1, h2, fun s hs e => h3 (List.mem_map.mpr ⟨s, (S.mem s).mpr hs, e⟩)⟩
theorem marks_fold {p : Plan} (ok : p.Ok) {od : List Nat} (S : Seats p od) {pl : Nat → Nat} {s k : Nat} (hs : s < p.many) : ∀ (ws : List (Str × Cell)) {c : List Int}, Good p c pl →
    (ws.map (·.2)).foldl (markF p s k) c = (((ws.filter fun q => decide (inB p (besC p k q.2) ∧ besC p k q.2 ∉ p.bk)).map fun q => besC p k q.2).filter fun ce => !decide (ce ∈ od.map fun s => cK p (pl s))).foldl (setM p s) c
  | [], _, _ => rfl
  | q :: ws, c, g => by
    have g' := g.markF ok hs (d := q.2) (k := k)
    have ih := marks_fold ok S hs ws g' (k := k)
    rw [List.map_cons, List.foldl_cons, ih]
    rw [List.filter_cons]
    haveI : Decidable (isFree p pl (besC p k q.2)) := Classical.propDecidable _
    rw [markF_set g ok]
    by_cases f : isFree p pl (besC p k q.2)
    · have f' := (free_iff S).mp f
      rw [if_pos f, if_pos (decide_eq_true f'.1), List.map_cons, List.filter_cons, if_pos (by simpa using f'.2), List.foldl_cons]
    · rw [if_neg f]
      by_cases f1 : inB p (besC p k q.2) ∧ besC p k q.2 ∉ p.bk
      · have f2 : besC p k q.2 ∈ od.map fun s => cK p (pl s) := by
          rcases Classical.em (besC p k q.2 ∈ od.map fun s => cK p (pl s)) with z | z
          · exact z
          · exact absurd ((free_iff S).mpr ⟨f1, z⟩) f
        rw [if_pos (decide_eq_true f1), List.map_cons, List.filter_cons, if_neg (by simpa using f2)]
      · rw [if_neg (by rw [decide_eq_true_iff]; exact f1)]
theorem setM_getD {p : Plan} (ok : p.Ok) {s : Nat} {c : List Int} {ce : Cell} (b : inB p ce) (hl : c.length = p.n) : (setM p s c ce).getD (spot p ce).toNat 0 / 10 = (s : Int) + 1 ∧ ∀ k, k ≠ (spot p ce).toNat → (setM p s c ce).getD k 0 / 10 = c.getD k 0 / 10 := by
  unfold setM
  have h1 : (spot p ce).toNat < c.length := by rw [hl]; exact spot_lt ok b
  refine ⟨?_, fun k n => ?_⟩
  · rw [getD_set h1, if_pos rfl]; omega
  · rw [getD_set h1, if_neg n]
/-! the way taken -/
theorem fourW_way {x : Str} {d : Cell} (e : wayF x = some d) : (x, d) ∈ fourW := by
  unfold wayF at e
  split at e
  · rename_i z; subst z; cases e; simp [fourW]
  split at e
  · rename_i z; subst z; cases e; simp [fourW]
  split at e
  · rename_i z; subst z; cases e; simp [fourW]
  split at e
  · rename_i z; subst z; cases e; simp [fourW]
  · cases e
theorem fourW_inj : ∀ a ∈ fourW, ∀ b ∈ fourW, a.1 = b.1 → a = b := by decide
theorem way_four {x : Str} (e : wayF x = none) : ∀ a ∈ fourW, a.1 ≠ x := by
  intro a ha z
  subst z
  simp only [fourW, List.mem_cons, List.not_mem_nil, or_false] at ha
  rcases ha with rfl | rfl | rfl | rfl <;> cases e
theorem besK_some {p : Plan} {c0 : Cell} {x : Str} {d : Cell} (e : wayF x = some d) (h : inB p (c0.1 + d.1, c0.2 + d.2) ∧ (c0.1 + d.1, c0.2 + d.2) ∉ p.bk) : look (besideK p c0) (.inr x) = some (cellD (c0.1 + d.1, c0.2 + d.2)) :=
  look_map (f := fun q : Str × Cell => (Sum.inr q.1 : Key)) (g := fun q => cellD (c0.1 + q.2.1, c0.2 + q.2.2)) (x := (x, d))
    (fun a ha b hb z => fourW_inj a (List.mem_filter.mp ha).1 b (List.mem_filter.mp hb).1 (Sum.inr.inj z)) (List.mem_filter.mpr ⟨fourW_way e, decide_eq_true h⟩)
theorem besK_none {p : Plan} {c0 : Cell} {x : Str} {d : Cell} (e : wayF x = some d) (h : ¬ (inB p (c0.1 + d.1, c0.2 + d.2) ∧ (c0.1 + d.1, c0.2 + d.2) ∉ p.bk)) : look (besideK p c0) (.inr x) = none :=
  look_none (f := fun q : Str × Cell => (Sum.inr q.1 : Key)) (g := fun q => cellD (c0.1 + q.2.1, c0.2 + q.2.2)) fun a ha z => by
    obtain ⟨h1, h2⟩ := List.mem_filter.mp ha
    have := fourW_inj a h1 (x, d) (fourW_way e) (Sum.inr.inj z)
    subst this
    exact h (of_decide_eq_true h2)
theorem besK_no {p : Plan} {c0 : Cell} {x : Str} (e : wayF x = none) : look (besideK p c0) (.inr x) = none :=
  look_none (f := fun q : Str × Cell => (Sum.inr q.1 : Key)) (g := fun q => cellD (c0.1 + q.2.1, c0.2 + q.2.2)) fun a ha z => way_four e a (List.mem_filter.mp ha).1 (Sum.inr.inj z)
theorem besK_vals {p : Plan} {c0 : Cell} : (besideK p c0).map (fun q => q.2) = ((fourW.filter fun q => decide (inB p (c0.1 + q.2.1, c0.2 + q.2.2) ∧ (c0.1 + q.2.1, c0.2 + q.2.2) ∉ p.bk)).map fun q => (c0.1 + q.2.1, c0.2 + q.2.2)).map cellD := by
  unfold besideK
  rw [List.map_map, List.map_map]
  rfl
theorem turn_way {p : Plan} {c : List Int} {pl : Nat → Nat} (g : Good p c pl) (ok : p.Ok) {hs : List Str} {s : Nat} (h : s < p.many) {x : Str} (hx : hs.getD s "" = x) (nm : x ≠ "mark") {d : Cell} (e : wayF x = some d) :
    (isFree p pl (besC p (pl s) d) → turnF p hs c s = (c.set (pl s) (c.getD (pl s) 0 / 10 * 10)).set (spot p (besC p (pl s) d)).toNat (11 * (s : Int) + 11)) ∧ (¬ isFree p pl (besC p (pl s) d) → turnF p hs c s = c) := by
  have t : turnF p hs c s = stepF p c s d := by
    unfold turnF
    simp only [hx, e]
    rw [if_neg nm]
  rw [t]
  unfold stepF besF
  simp only
  rw [g.place h]
  constructor
  · intro f
    rw [if_pos f.1]
    simp only
    rw [if_pos ((open_free g ok f.1).mpr f)]
  · intro f
    by_cases b : inB p (besC p (pl s) d)
    · rw [if_pos b]
      simp only
      rw [if_neg (fun z => f ((open_free g ok b).mp z))]
    · rw [if_neg b]
theorem turn_none {p : Plan} {c : List Int} {hs : List Str} {s : Nat} {x : Str} (hx : hs.getD s "" = x) (nm : x ≠ "mark") (e : wayF x = none) : turnF p hs c s = c := by
  unfold turnF
  simp only [hx, e]
  rw [if_neg nm]
theorem turn_mark {p : Plan} {c : List Int} {pl : Nat → Nat} (g : Good p c pl) (ok : p.Ok) {od : List Nat} (S : Seats p od) {hs : List Str} {s : Nat} (h : s < p.many) (hx : hs.getD s "" = "mark") : turnF p hs c s = (marksL p od pl (cK p (pl s))).foldl (setM p s) c := by
  unfold turnF
  simp only [hx]
  rw [if_pos trivial, g.place h]
  exact marks_fold ok S h fourW g
end F

set_option linter.all false
set_option maxRecDepth 100000
namespace F
open PySem (Str PyData)
theorem ixK {q : Nat} {kvs : List (Key × D)} {i : Int} {v : D} {h : Hp} {Q : KV} (e : h q = some (.dK kvs)) (l : look kvs (.inl i) = some v) : rIx (.ref q) (.int i) h Q = Q v h := by simp [rIx, e, D.key, l]
theorem ixKs {q : Nat} {kvs : List (Key × D)} {i : Str} {v : D} {h : Hp} {Q : KV} (e : h q = some (.dK kvs)) (l : look kvs (.inr i) = some v) : rIx (.ref q) (.str i) h Q = Q v h := by simp [rIx, e, D.key, l]
theorem ixFK {q : Nat} {kvs : List (Key × D)} {i : Int} {v : D} {h : Hp} {Q : KV} (e : h q = some (.fK kvs)) (l : look kvs (.inl i) = some v) : rIx (.ref q) (.int i) h Q = Q v h := by simp [rIx, e, D.key, l]
theorem ixFT {q : Nat} {kvs : List (List Key × D)} {c : Cell} {v : D} {h : Hp} {Q : KV} (e : h q = some (.fT kvs)) (l : look kvs (cellKey c) = some v) : rIx (.ref q) (cellD c) h Q = Q v h := by
  simp only [rIx, e, cellD, key_cell]
  apply propext
  constructor
  · rintro ⟨q', v', e1, e2, q⟩
    cases e1
    rw [l] at e2; cases e2
    exact q
  · exact fun q => ⟨_, v, rfl, l, q⟩
theorem setK {q : Nat} {kvs : List (Key × D)} {i : Int} {v : D} {h : Hp} {Q : Hp → Prop} (e : h q = some (.dK kvs)) (l : kvs.length < 100000) : rSet (.ref q) (.int i) v h Q = Q (upd h q (.dK (put kvs (.inl i) v))) := by simp [rSet, e, D.key, line, l]
theorem setT {q : Nat} {kvs : List (List Key × D)} {c : Cell} {v : D} {h : Hp} {Q : Hp → Prop} (e : h q = some (.dT kvs)) (l : kvs.length < 100000) : rSet (.ref q) (cellD c) v h Q = Q (upd h q (.dT (put kvs (cellKey c) v))) := by
  simp only [rSet, e, cellD, key_cell, line]
  apply propext
  constructor
  · rintro ⟨q', e1, _, q⟩
    cases e1
    exact q
  · exact fun q => ⟨_, rfl, l, q⟩
/-- what stands on the heap in the midst of a turn -/
structure GH (p : Plan) (h h' : Hp) (o q L : Nat) (ls : List D) (od : List Nat) (c : List Int) (pl : Nat → Nat) : Prop where
  k : Keep h [] h'
  no : h o = none
  nq : h q = none
  ho : h' o = some (.dT (ownL p c p.n))
  hq : h' q = some (.dK (plL p od pl))
  hL : h' L = some (.lst ls)
section
variable {p : Plan} {h h' : Hp} {o q L : Nat} {ls : List D} {od : List Nat} {c : List Int} {pl : Nat → Nat}
theorem GH.oq (G : GH p h h' o q L ls od c pl) : o ≠ q := by
  intro z; have := G.ho; rw [z, G.hq] at this; cases this
theorem GH.oL (G : GH p h h' o q L ls od c pl) : o ≠ L := by
  intro z; have := G.ho; rw [z, G.hL] at this; cases this
theorem GH.qL (G : GH p h h' o q L ls od c pl) : q ≠ L := by
  intro z; have := G.hq; rw [z, G.hL] at this; cases this
theorem GH.new (G : GH p h h' o q L ls od c pl) {x : Nat} {u : O} (n : h' x = none) : GH p h (upd h' x u) o q L ls od c pl :=
  ⟨G.k.new n, G.no, G.nq, by rw [upd_ne (ne_of_none G.ho n)]; exact G.ho, by rw [upd_ne (ne_of_none G.hq n)]; exact G.hq, by rw [upd_ne (ne_of_none G.hL n)]; exact G.hL⟩
theorem GH.setO (G : GH p h h' o q L ls od c pl) (c' : List Int) : GH p h (upd h' o (.dT (ownL p c' p.n))) o q L ls od c' pl :=
  ⟨G.k.own G.no, G.no, G.nq, upd_same, by rw [upd_ne (Ne.symm G.oq)]; exact G.hq, by rw [upd_ne (Ne.symm G.oL)]; exact G.hL⟩
theorem GH.setQ (G : GH p h h' o q L ls od c pl) (pl' : Nat → Nat) : GH p h (upd h' q (.dK (plL p od pl'))) o q L ls od c pl' :=
  ⟨G.k.own G.nq, G.no, G.nq, by rw [upd_ne G.oq]; exact G.ho, upd_same, by rw [upd_ne (Ne.symm G.qL)]; exact G.hL⟩
theorem GH.other (G : GH p h h' o q L ls od c pl) {x : Nat} {u : O} (n : h x = none) (x1 : x ≠ o) (x2 : x ≠ q) (x3 : x ≠ L) : GH p h (upd h' x u) o q L ls od c pl :=
  ⟨G.k.own n, G.no, G.nq, by rw [upd_ne (Ne.symm x1)]; exact G.ho, by rw [upd_ne (Ne.symm x2)]; exact G.hq, by rw [upd_ne (Ne.symm x3)]; exact G.hL⟩
theorem ownL_lt (ok : p.Ok) : (ownL p c p.n).length < 100000 := by
  have := ownL_len (p := p) (c := c) (i := p.n)
  have := ok.n36
  omega
theorem Seats.len (S : Seats p od) : od.length = p.many := by
  have h1 := nd_sub_len (ys := List.range p.many) S.nd fun x hx => List.mem_range.mpr ((S.mem x).mp hx)
  have h2 := nd_sub_len (xs := List.range p.many) (ys := od) List.nodup_range fun x hx => (S.mem x).mpr (List.mem_range.mp hx)
  simp at h1 h2
  omega
theorem plL_lt (ok : p.Ok) (S : Seats p od) : (plL p od pl).length < 100000 := by
  unfold plL
  rw [List.length_map, S.len]
  have : p.many ≤ 4 := ok.s4
  omega
end
/-- one seat's turn in the law -/
theorem gone_turn {p : Plan} (ok : p.Ok) {hs : List Str} (hk : HandsOk p hs) {h h' : Hp} {o q L : Nat} {ls : List D} {od : List Nat} {c : List Int} {pl : Nat → Nat} (S : Seats p od) (G : GH p h h' o q L ls od c pl) (g : Good p c pl) {s : Nat} (h0 : s < p.many)
    {D2 : Ends} {a1 a2 a4 a5 a7 a10 a11 a12 a13 a14 a15 : Option D} (nx : ∀ h2 pl' b13 b14 b15, Good p (turnF p hs c s) pl' → GH p h h2 o q L ls od (turnF p hs c s) pl' → D2.nx [some (planD p), a1, a2, some (handsD hs), a4, a5, some (.int (s : Int)), a7, some (.ref o), some (.ref q), a10, a11, a12, b13, b14, b15] h2) :
    sSeq s_law_gone_7 s_law_gone_13 D2 [some (planD p), a1, a2, some (handsD hs), a4, a5, some (.int (s : Int)), a7, some (.ref o), some (.ref q), a10, a11, a12, a13, a14, a15] h' := by
  have hso : s ∈ od := (S.mem s).mpr h0
  have h4 : p.many ≤ 4 := ok.s4
  obtain ⟨x, hx, hm, hg, hat⟩ := hands_at hk h0
  simp only [sSeq, s_law_gone_7, sAsg, eTup, aCons, aNil, eCall, eUn, eBin, eVar, sg, ixK G.hq (plL_look hso)]
  refine ⟨p, cK p (pl s), rfl, fun d nd => ?_⟩
  have G1 := G.new (u := .dK (besideK p (cK p (pl s)))) nd
  have hd1 : upd h' d (.dK (besideK p (cK p (pl s)))) d = some (.dK (besideK p (cK p (pl s)))) := upd_same
  have nd0 : h d = none := by
    cases e : h d with
    | none => rfl
    | some u => have := G.k.nil d u e; rw [nd] at this; cases this
  have ndo : d ≠ o := Ne.symm (ne_of_none G.ho nd)
  have ndq : d ≠ q := Ne.symm (ne_of_none G.hq nd)
  have ndL : d ≠ L := Ne.symm (ne_of_none G.hL nd)
  generalize upd h' d (.dK (besideK p (cK p (pl s)))) = h1 at G1 hd1
  refine ⟨_, G1.hq, fun t nt => ?_⟩
  rw [plL_vals]
  obtain ⟨tk, htk⟩ : ∃ tk, tk = od.map fun s => cK p (pl s) := ⟨_, rfl⟩
  rw [← htk]
  have G2 := G1.new (u := .lst (tk.map cellD)) nt
  have hd2 : upd h1 t (.lst (tk.map cellD)) d = some (.dK (besideK p (cK p (pl s)))) := by rw [upd_ne (ne_of_none hd1 nt)]; exact hd1
  have ht2 : upd h1 t (.lst (tk.map cellD)) t = some (.lst (tk.map cellD)) := upd_same
  have ntd : t ≠ d := Ne.symm (ne_of_none hd1 nt)
  generalize upd h1 t (.lst (tk.map cellD)) = h2 at G2 hd2 ht2
  simp only [gTup, gCons, gNil, gName, ss, List.length_cons, List.length_nil]
  refine ⟨by simp [line], (by first | trivial | rfl), ?_⟩
  simp only [s_law_gone_13, sIf, tVal, eBin, eVar, eC, sg, handsD, ix_tup hat, eqss]
  by_cases e1 : x = "mark"
  · simp only [e1, decide_true, if_true]
    have tm := turn_mark g ok S h0 (hg.trans e1)
    obtain ⟨ms, hms⟩ : ∃ ms, ms = marksL p od pl (cK p (pl s)) := ⟨_, rfl⟩
    rw [← hms] at tm
    have msok : ∀ ce ∈ ms, isFree p pl ce := by
      intro ce hce
      rw [hms] at hce
      unfold marksL at hce
      obtain ⟨m1, m2⟩ := List.mem_filter.mp hce
      obtain ⟨q0, m3, rfl⟩ := List.mem_map.mp m1
      obtain ⟨_, m4⟩ := List.mem_filter.mp m3
      exact (free_iff S).mpr ⟨of_decide_eq_true m4, by simpa using m2⟩
    unfold s_law_gone_9 sFor
    simp only [iSeq, eLock, sg, hd2]
    unfold eLc
    simp only [iVals, eVar, sg, upd_same]
    obtain ⟨kvs, hkvs⟩ : ∃ kvs, kvs = besideK p (cK p (pl s)) := ⟨_, rfl⟩
    obtain ⟨vs, hvs⟩ : ∃ vs : List Cell, vs = ((fourW.filter fun q => decide (inB p ((cK p (pl s)).1 + q.2.1, (cK p (pl s)).2 + q.2.2) ∧ ((cK p (pl s)).1 + q.2.1, (cK p (pl s)).2 + q.2.2) ∉ p.bk)).map fun q => ((cK p (pl s)).1 + q.2.1, (cK p (pl s)).2 + q.2.2)) := ⟨_, rfl⟩
    have hv : (besideK p (cK p (pl s))).map (fun q => q.2) = vs.map cellD := by rw [hvs]; exact besK_vals
    have hmv : ms = vs.filter fun ce => !decide (ce ∈ tk) := by rw [hms, htk, hvs]; rfl
    have vl : vs.length ≤ 4 := by
      rw [hvs, List.length_map]
      exact Nat.le_trans (List.length_filter_le _ _) (by decide)
    have ht3 : ∀ u, upd h2 d u t = some (.lst (tk.map cellD)) := fun u => by rw [upd_ne ntd]; exact ht2
    rw [hv]
    refine ⟨fun i acc h3 => h3 = upd h2 d (.fK (besideK p (cK p (pl s)))) ∧ acc = ((vs.take i).filter fun ce => !decide (ce ∈ tk)).map cellD, ⟨rfl, rfl⟩, by rw [List.length_map]; simp only [line]; omega, ?_, ?_⟩
    · rintro i y acc h3 hy ⟨rfl, rfl⟩
      obtain ⟨ce, hc, rfl⟩ := map_get hy
      refine ⟨upd_same, ?_⟩
      simp only [gName, swipe, ss, sw, sg, tVal, eBin, eVar, rNotIn, in_cellsL (ht3 _)]
      rw [take_succ hc, List.filter_append, List.map_append, List.filter_cons]
      by_cases z : ce ∈ tk
      · simp [z]
      · simp [z]
    · rintro acc h3 ⟨rfl, rfl⟩
      rw [List.length_map, List.take_length, ← hmv]
      refine ⟨upd_same, fun r nr => ?_⟩
      have nrd : r ≠ d := by intro z; rw [z, upd_same] at nr; cases nr
      have nr2 : h2 r = none := by rwa [upd_ne nrd] at nr
      refine ⟨by rw [upd_ne (Ne.symm nrd)]; exact upd_same, ?_⟩
      -- the heap after the comprehension
      have hr4 : upd (upd (upd h2 d (.fK (besideK p (cK p (pl s))))) r (.lst (ms.map cellD))) d (.dK (besideK p (cK p (pl s)))) = upd h2 r (.lst (ms.map cellD)) := by
        rw [← upd_comm (Ne.symm nrd), upd_upd, upd_self hd2]
      rw [hr4]
      have G3 := G2.new (u := .lst (ms.map cellD)) nr2
      have hr3 : upd h2 r (.lst (ms.map cellD)) r = some (.lst (ms.map cellD)) := upd_same
      have nro : r ≠ o := Ne.symm (ne_of_none G2.ho nr2)
      generalize upd h2 r (.lst (ms.map cellD)) = h4 at G3 hr3
      simp only [hr3]
      have good : ∀ i, Good p ((ms.take i).foldl (setM p s) c) pl := by
        intro i
        have sub : ∀ ce ∈ ms.take i, isFree p pl ce := fun ce m => msok ce (List.mem_of_mem_take m)
        generalize ms.take i = l at sub
        have : ∀ (l : List Cell) (c : List Int), Good p c pl → (∀ ce ∈ l, isFree p pl ce) → Good p (l.foldl (setM p s) c) pl := by
          intro l
          induction l with
          | nil => exact fun c g _ => g
          | cons ce l ih => exact fun c g f => ih _ (g.mark ok h0 ((open_free g ok (f ce (by simp)).1).mpr (f ce (by simp)))) fun ce' m => f ce' (by simp [m])
        exact this l c g sub
      refine ⟨fun i σ h5 => (∃ b15, σ = [some (planD p), a1, a2, some (handsD hs), a4, a5, some (.int (s : Int)), a7, some (.ref o), some (.ref q), a10, a11, a12, some (.ref d), some (.ref t), b15]) ∧ h5 r = some (.lst (ms.map cellD)) ∧ GH p h h5 o q L ls od ((ms.take i).foldl (setM p s) c) pl, ⟨⟨_, rfl⟩, hr3, G3⟩, ?_, ?_⟩
      · rintro i y σ h5 hy ⟨⟨_, rfl⟩, hr5, G5⟩
        obtain ⟨ce, hc, rfl⟩ := map_get hy
        refine ⟨hr5, ?_⟩
        have f := msok ce (List.mem_of_getElem? hc)
        have b := f.1
        have nb : ¬ isB p (spot p ce).toNat := fun z => f.2.1 ((isB_spot ok b).mp z)
        have gi := good i
        obtain ⟨m1, m2⟩ := setM_getD ok (s := s) b gi.len
        have ec : cK p (spot p ce).toNat = ce := spot_cK b
        have hp := ownL_put (p := p) (i := p.n) (spot_lt ok b) nb m1 m2
        rw [ec] at hp
        simp only [gName, ss, s_law_gone_8, sAsg, eBin, eVar, eC, sg, rAdd, gSub, setT G5.ho (ownL_lt ok), hp]
        rw [take_succ hc, List.foldl_append]
        exact ⟨⟨_, rfl⟩, by rw [upd_ne nro]; exact hr5, G5.setO _⟩
      · rintro σ h5 ⟨⟨b15, rfl⟩, hr5, G5⟩
        refine ⟨hr5, ?_⟩
        rw [List.length_map, List.take_length, ← tm] at G5
        have gg := good ms.length
        rw [List.take_length, ← tm] at gg
        exact nx h5 pl _ _ _ gg G5
  · simp only [e1, decide_false, Bool.false_eq_true, if_false]
    -- no step
    have stay : turnF p hs c s = c → D2.nx [some (planD p), a1, a2, some (handsD hs), a4, a5, some (.int (s : Int)), a7, some (.ref o), some (.ref q), a10, a11, a12, some (.ref d), some (.ref t), a15] h2 := by
      intro e
      have := nx h2 pl (some (.ref d)) (some (.ref t)) a15
      rw [e] at this
      exact this g G2
    have own : cK p (pl s) ∈ tk := by rw [htk]; exact List.mem_map.mpr ⟨s, hso, rfl⟩
    have get : ∀ (v : D) (Q : KV), (look (besideK p (cK p (pl s))) (.inr x)).getD (cellD (cK p (pl s))) = v → Q v h2 → eDM rGet2 (eVar 13) (aCons (eBin rIx (eVar 3) (eVar 6)) (aCons (eBin rIx (eVar 9) (eVar 6)) aNil)) D2.xe [some (planD p), a1, a2, some (handsD hs), a4, a5, some (.int (s : Int)), a7, some (.ref o), some (.ref q), a10, a11, a12, some (.ref d), some (.ref t), a15] h2 Q := by
      rintro v Q rfl q
      simp only [eDM, eVar, sg, isDct, hd2, aCons, aNil, eBin, handsD, ix_tup hat, ixK G2.hq (plL_look hso), rGet2]
      exact ⟨trivial, _, _, rfl, rfl, q⟩
    have skip : ∀ ce : Cell, (look (besideK p (cK p (pl s))) (.inr x)).getD (cellD (cK p (pl s))) = cellD ce → ce ∈ tk → turnF p hs c s = c → s_law_gone_12 D2 [some (planD p), a1, a2, some (handsD hs), a4, a5, some (.int (s : Int)), a7, some (.ref o), some (.ref q), a10, a11, a12, some (.ref d), some (.ref t), a15] h2 := by
      intro ce el hce et
      unfold s_law_gone_12 sIf tVal eBin
      refine get _ _ el ?_
      simp only [eVar, sg, rNotIn, in_cellsL ht2, hce, decide_true, Bool.not_true, Bool.false_eq_true, if_false, sNext]
      exact stay et
    cases ew : wayF x with
    | none =>
      exact skip _ (by rw [besK_no ew]; rfl) own (turn_none hg e1 ew)
    | some w =>
      obtain ⟨t1, t2⟩ := turn_way g ok h0 hg e1 ew
      by_cases f1 : inB p (besC p (pl s) w) ∧ besC p (pl s) w ∉ p.bk
      · have lk := besK_some (c0 := cK p (pl s)) ew f1
        by_cases f2 : besC p (pl s) w ∈ tk
        · refine skip (besC p (pl s) w) (by rw [lk]; rfl) f2 (t2 fun f => ?_)
          rw [htk] at f2
          exact ((free_iff S).mp f).2 f2
        · have f : isFree p pl (besC p (pl s) w) := (free_iff S).mpr ⟨f1, by rw [htk] at f2; exact f2⟩
          have tt := t1 f
          have b := f1.1
          have nb : ¬ isB p (spot p (besC p (pl s) w)).toNat := fun z => f1.2 ((isB_spot ok b).mp z)
          have ho := (open_free g ok b).mpr f
          have gs := g.step ok h0 ho
          rw [← tt] at gs
          unfold s_law_gone_12 sIf tVal eBin
          refine get (cellD (besC p (pl s) w)) _ (by rw [lk]; rfl) ?_
          have ec : cK p (spot p (besC p (pl s) w)).toNat = besC p (pl s) w := spot_cK b
          have pp := plL_put (p := p) (pl := pl) (j := (spot p (besC p (pl s) w)).toNat) hso
          rw [ec] at pp
          have G3 := G2.setQ (fun t => if t = s then (spot p (besC p (pl s) w)).toNat else pl t)
          have lk3 := plL_look (p := p) (pl := fun t => if t = s then (spot p (besC p (pl s) w)).toNat else pl t) hso
          simp only [if_true] at lk3
          rw [ec] at lk3
          have lk' : look (besideK p (cK p (pl s))) (.inr x) = some (cellD (besC p (pl s) w)) := lk
          simp only [eVar, sg, rNotIn, in_cellsL ht2, f2, decide_false, Bool.not_false, if_true, sSeq, s_law_gone_10, sAsg, eBin, handsD, ix_tup hat, ixKs hd2 lk', gSub, setK G2.hq (plL_lt ok S), pp]
          have hlen : (spot p (besC p (pl s) w)).toNat < (c.set (pl s) (c.getD (pl s) 0 / 10 * 10)).length := by rw [List.length_set, g.len]; exact spot_lt ok b
          have v1 : (turnF p hs c s).getD (spot p (besC p (pl s) w)).toNat 0 / 10 = (s : Int) + 1 := by
            rw [tt, getD_set hlen, if_pos rfl]; omega
          have v2 : ∀ k, k ≠ (spot p (besC p (pl s) w)).toNat → (turnF p hs c s).getD k 0 / 10 = c.getD k 0 / 10 := by
            intro k n
            rw [tt, getD_set hlen, if_neg n, getD_set (g.lt h0)]
            by_cases z : k = pl s
            · rw [if_pos z, z]; omega
            · rw [if_neg z]
          have hp := ownL_put (p := p) (i := p.n) (spot_lt ok b) nb v1 v2
          rw [ec] at hp
          simp only [s_law_gone_11, sAsg, eBin, eVar, eC, sg, rAdd, gSub, ixK G3.hq lk3, setT G3.ho (ownL_lt ok), hp]
          exact nx _ _ _ _ _ gs (G3.setO _)
      · refine skip _ (by rw [besK_none (c0 := cK p (pl s)) ew f1]; rfl) own (t2 fun f => f1 ⟨f.1, f.2.1⟩)
end F

set_option linter.all false
set_option maxRecDepth 100000
namespace F
open PySem (Str PyData)
theorem irange2_get {m n : Int} {i : Nat} {x : D} (e : (irange m n)[i]? = some x) : x = .int (m + (i : Int)) ∧ (i : Int) < n - m := by
  unfold irange at e
  obtain ⟨j, hj, rfl⟩ := map_get e
  have hi := lt_of_get hj
  simp at hi
  rw [List.getElem?_range (by simpa using hi)] at hj
  cases hj
  exact ⟨rfl, by omega⟩
theorem irange2_length {m n : Int} : (irange m n).length = (n - m).toNat := by simp [irange]
/-- the seats found below i -/
structure Found (p : Plan) (pl : Nat → Nat) (i : Nat) (od : List Nat) : Prop where
  nd : od.Nodup
  mem : ∀ s, s ∈ od ↔ s < p.many ∧ pl s < i
theorem Found.len {p : Plan} {pl : Nat → Nat} {i : Nat} {od : List Nat} (f : Found p pl i od) : od.length ≤ p.many := by
  have h1 := nd_sub_len (ys := List.range p.many) f.nd fun x hx => List.mem_range.mpr ((f.mem x).mp hx).1
  simpa using h1
theorem Found.seats {p : Plan} {c : List Int} {pl : Nat → Nat} {od : List Nat} (g : Good p c pl) (f : Found p pl p.n od) : Seats p od :=
  ⟨f.nd, fun s => ⟨fun h => ((f.mem s).mp h).1, fun h => (f.mem s).mpr ⟨h, by have := g.lt h; rw [g.len] at this; exact this⟩⟩⟩
/-- what the law puts at a cell at the end -/
theorem stand_sum {p : Plan} {c : List Int} {pl : Nat → Nat} (g : Good p c pl) {od : List Nat} (S : Seats p od) {k : Nat} {v : Int} (hk : c[k]? = some v) (nb : ¬ isB p k) :
    ((od.filter fun s => decide (cK p (pl s) = cK p k)).map fun (s : Nat) => (s : Int) + 1).sum = v % 10 := by
  have key : ∀ i, ((((od.take i).filter fun s => decide (cK p (pl s) = cK p k)).map fun (s : Nat) => (s : Int) + 1).sum = if ∃ s ∈ od.take i, pl s = k then v % 10 else 0) := by
    intro i
    induction i with
    | zero => simp
    | succ i ih =>
      rcases Nat.lt_or_ge i od.length with hi | hi
      · have e : od[i]? = some od[i] := List.getElem?_eq_getElem hi
        have hm := (S.mem od[i]).mp (List.mem_of_getElem? e)
        have step : (((od.take (i + 1)).filter fun s => decide (cK p (pl s) = cK p k)).map fun (s : Nat) => (s : Int) + 1).sum = (((od.take i).filter fun s => decide (cK p (pl s) = cK p k)).map fun (s : Nat) => (s : Int) + 1).sum + ((([od[i]].filter fun s => decide (cK p (pl s) = cK p k))).map fun (s : Nat) => (s : Int) + 1).sum := by
          rw [take_succ e, List.filter_append, List.map_append, List.sum_append]
        rw [step, ih]
        by_cases z : pl od[i] = k
        · have ne : ¬ ∃ s ∈ od.take i, pl s = k := by
            rintro ⟨s, hs, hp⟩
            have hs' := (S.mem s).mp (List.mem_of_mem_take hs)
            obtain ⟨u, e1, b1, m1⟩ := g.pls s hs'
            obtain ⟨u2, e2, b2, m2⟩ := g.pls od[i] hm
            rw [hp, hk] at e1; cases e1
            rw [z, hk] at e2; cases e2
            have : s = od[i] := by omega
            rw [this] at hs
            exact nd_take S.nd e hs
          obtain ⟨u2, e2, b2, m2⟩ := g.pls od[i] hm
          rw [z, hk] at e2; cases e2
          have ex : ∃ s ∈ od.take (i + 1), pl s = k := ⟨od[i], by rw [take_succ e]; exact List.mem_append_right _ (List.mem_singleton.mpr rfl), z⟩
          have e1 : ([od[i]].filter fun s => decide (cK p (pl s) = cK p k)) = [od[i]] := by simp [z]
          rw [e1, if_neg ne, if_pos ex]
          simp; omega
        · have e1 : ([od[i]].filter fun s => decide (cK p (pl s) = cK p k)) = [] := by
            rw [List.filter_cons, if_neg (by rw [decide_eq_true_iff]; exact fun w => z (cK_inj w))]; rfl
          have this : (∃ s ∈ od.take (i + 1), pl s = k) ↔ ∃ s ∈ od.take i, pl s = k := by
            rw [take_succ e]
            constructor
            · rintro ⟨s, hs, hp⟩
              rcases List.mem_append.mp hs with hs | hs
              · exact ⟨s, hs, hp⟩
              · rw [List.mem_singleton] at hs; subst hs; exact absurd hp z
            · rintro ⟨s, hs, hp⟩; exact ⟨s, List.mem_append_left _ hs, hp⟩
          rw [e1]
          by_cases y : ∃ s ∈ od.take i, pl s = k
          · rw [if_pos y, if_pos (this.mpr y)]; simp
          · rw [if_neg y, if_neg (fun w => y (this.mp w))]; simp
      · rw [List.take_of_length_le (by omega)] at ih ⊢
        exact ih
  have := key od.length
  rw [List.take_length] at this
  rw [this]
  by_cases y : ∃ s ∈ od, pl s = k
  · rw [if_pos y]
  · rw [if_neg y]
    obtain ⟨f1, f2, f3⟩ := g.fre k v hk nb
    rcases (by omega : v % 10 = 0 ∨ 0 < v % 10) with z | z
    · exact z.symm
    · have h1 := g.unq (v % 10 - 1).toNat k v (by omega) hk nb (by omega)
      exact absurd ⟨_, (S.mem _).mpr (by omega), h1.symm⟩ y
theorem ok_law_gone : ∀ ds h Q E, sp_law_gone ds h Q E → r_law_gone (outE Q E) (start2 16 ds) h := by
  rintro ds h Q E ⟨p, c, pl, t, hs, rfl, ok, g, hk, q⟩
  show r_law_gone (outE Q E) [some (planD p), some (picD c), some (.int t), some (handsD hs), none, none, none, none, none, none, none, none, none, none, none, none] h
  have h4 : p.many ≤ 4 := ok.s4
  have hm1 : 1 ≤ p.many := ok.s1
  have h36 := ok.n36
  have hw := ok.w2; have hw6 := ok.w6
  simp only [r_law_gone, sSeq, s_law_gone_0, sAsg, eTup, aCons, aNil, eDT, eDK, gTup, gCons, gNil, gName, ss, List.length_cons, List.length_nil]
  intro o no q0 nq
  have oq : o ≠ q0 := by intro z; rw [z, upd_same] at nq; cases nq
  have nq0 : h q0 = none := by rwa [upd_ne (Ne.symm oq)] at nq
  refine ⟨by simp [line], (by first | trivial | rfl), ?_⟩
  have k1 : Keep h [] (upd (upd h o (.dT [])) q0 (.dK [])) := ((Keep.refl h []).new no).new nq
  have ho1 : upd (upd h o (.dT [])) q0 (.dK []) o = some (.dT (ownL p c 0)) := by rw [upd_ne oq]; exact upd_same
  have hq1 : upd (upd h o (.dT [])) q0 (.dK []) q0 = some (.dK (plL p [] pl)) := upd_same
  generalize upd (upd h o (.dT [])) q0 (.dK []) = h1 at k1 ho1 hq1
  simp only [s_law_gone_5]
  unfold sFor
  simp only [iRng, eCB, aCons, aNil, eVar, sg, picD, rLen, ints_length]
  have cl := g.len
  refine ⟨by omega, fun i σ h' => ∃ a4 od, σ = [some (planD p), some (picD c), some (.int t), some (handsD hs), a4, none, none, none, some (.ref o), some (.ref q0), none, none, none, none, none, none] ∧ Keep h [] h' ∧ h' o = some (.dT (ownL p c i)) ∧ h' q0 = some (.dK (plL p od pl)) ∧ Found p pl i od,
    ⟨_, [], rfl, k1, ho1, hq1, by simp, fun s => by simp⟩, ?_, ?_⟩
  · rintro i y σ h' hy ⟨_, od, rfl, k', ho', hq', F⟩
    obtain ⟨rfl, hi⟩ := irange_getP hy
    have hi' : i < c.length := by omega
    have e : c[i]? = some c[i] := List.getElem?_eq_getElem hi'
    obtain ⟨v, hv⟩ : ∃ v, v = c[i] := ⟨_, rfl⟩
    rw [← hv] at e
    have gd : c.getD i 0 = v := by simp [List.getD, e]
    have e2 : atI (intsD c) (i : Int) = some (.int v) := atI_nat (by rw [ints_get, e]; rfl)
    have ec : D.tup [D.int ((i : Int) % p.w), D.int ((i : Int) / p.w)] = cellD (cK p i) := rfl
    have ownl : (ownL p c i).length < 100000 := by have := ownL_len (p := p) (c := c) (i := i); omega
    have pll : (plL p od pl).length < 100000 := by unfold plL; rw [List.length_map]; have := F.len; omega
    refine ⟨trivial, ?_⟩
    simp only [gName, ss, s_law_gone_4, sIf, tVal, eBin, eVar, eC, sg, picD, ix_tup e2, rGe]
    by_cases b : isB p i
    · have := g.blk i v e b
      have z : decide ((0 : Int) ≤ v) = false := decide_eq_false (by omega)
      simp only [z, Bool.false_eq_true, if_false, sNext]
      refine ⟨_, od, rfl, k', by rw [ownL_skip b]; exact ho', hq', F.nd, fun s => ?_⟩
      rw [F.mem s]
      constructor
      · rintro ⟨h1, h2⟩; exact ⟨h1, by omega⟩
      · rintro ⟨h1, h2⟩
        refine ⟨h1, ?_⟩
        have : pl s ≠ i := by
          intro w
          obtain ⟨_, _, h2, _⟩ := g.pls s h1
          exact h2 (w ▸ b)
        omega
    · obtain ⟨f1, f2, f3⟩ := g.fre i v e b
      have z : decide ((0 : Int) ≤ v) = true := decide_eq_true f1
      have on := ownL_new (c := c) b
      rw [gd] at on
      simp only [z, if_true, sSeq, s_law_gone_1, sAsg, eBin, eVar, eC, sg, picD, ix_tup e2, rDiv, gSub, eTup, aCons, aNil, p0, rMod, List.length_cons, List.length_nil, ec, setT ho' ownl, on]
      refine ⟨by omega, by omega, ⟨by omega, by omega⟩, by simp [line], ?_⟩
      have k2 := k'.own (o := .dT (ownL p c (i + 1))) no
      have hq2 : upd h' o (.dT (ownL p c (i + 1))) q0 = some (.dK (plL p od pl)) := by rw [upd_ne (Ne.symm oq)]; exact hq'
      have ho2 : upd h' o (.dT (ownL p c (i + 1))) o = some (.dT (ownL p c (i + 1))) := upd_same
      generalize upd h' o (.dT (ownL p c (i + 1))) = h2 at k2 hq2 ho2
      simp only [s_law_gone_3, sIf, tVal, eBin, eVar, eC, sg, picD, ix_tup e2, rMod, rGt]
      refine ⟨by omega, ?_⟩
      by_cases z2 : 0 < v % 10
      · have zz : decide (0 < v % 10) = true := decide_eq_true z2
        obtain ⟨s, hs0⟩ : ∃ s : Nat, v % 10 - 1 = s := ⟨(v % 10 - 1).toNat, by omega⟩
        have hsm : s < p.many := by omega
        have hpl : i = pl s := g.unq s i v hsm e b hs0
        have nod : s ∉ od := fun m => by have := ((F.mem s).mp m).2; omega
        have pn := plL_new (p := p) (pl := pl) nod
        rw [← hpl] at pn
        simp only [zz, if_true, s_law_gone_2, sAsg, eBin, eVar, eC, sg, picD, ix_tup e2, rDiv, gSub, eTup, aCons, aNil, p0, rMod, rSub, List.length_cons, List.length_nil, ec, hs0, setK hq2 pll, pn]
        refine ⟨by omega, ⟨by omega, by omega⟩, by simp [line], by omega, ?_⟩
        refine ⟨_, od ++ [s], rfl, k2.own nq0, by rw [upd_ne oq]; exact ho2, upd_same, ?_, fun s' => ?_⟩
        · rw [List.nodup_append]
          exact ⟨F.nd, by simp, fun a ha b hb => by rw [List.mem_singleton] at hb; subst hb; exact fun z => nod (z ▸ ha)⟩
        · rw [List.mem_append, List.mem_singleton, F.mem s']
          constructor
          · rintro (⟨h1, h2⟩ | rfl)
            · exact ⟨h1, by omega⟩
            · exact ⟨hsm, by omega⟩
          · rintro ⟨h1, h2⟩
            rcases (by omega : pl s' < i ∨ pl s' = i) with h3 | h3
            · exact .inl ⟨h1, h3⟩
            · right
              obtain ⟨u, e1, b1, m1⟩ := g.pls s' h1
              rw [h3, e] at e1; cases e1; omega
      · have zz : decide (0 < v % 10) = false := decide_eq_false z2
        simp only [zz, Bool.false_eq_true, if_false, sNext]
        refine ⟨_, od, rfl, k2, ho2, hq2, F.nd, fun s => ?_⟩
        rw [F.mem s]
        constructor
        · rintro ⟨h1, h2⟩; exact ⟨h1, by omega⟩
        · rintro ⟨h1, h2⟩
          refine ⟨h1, ?_⟩
          have : pl s ≠ i := by
            intro w
            obtain ⟨u, e1, b1, m1⟩ := g.pls s h1
            rw [w, e] at e1; cases e1; omega
          omega
  rintro σ h2 ⟨a4, od, rfl, k2, ho2, hq2, F⟩
  refine ⟨trivial, ?_⟩
  rw [irange_lengthP] at ho2 F
  have ecn : ((c.length : Int)).toNat = p.n := by rw [Int.toNat_natCast]; exact cl
  rw [ecn] at ho2 F
  have S := F.seats g
  have hlen : (plL p od pl).length = p.many := by unfold plL; rw [List.length_map, S.len]
  simp only [sSeq, s_law_gone_6, sAsg, eCB, aCons, aNil, eVar, sg, rLen, hq2, hlen, gName, ss]
  -- the seats in their order
  simp only [sSeq, s_law_gone_14]
  unfold sFor
  simp only [iSeq]
  unfold eLc
  simp only [iRng, aCons, aNil, eBin, eVar, sg, rMod, rAdd]
  have tm0 := Int.emod_nonneg t (b := (p.many : Int)) (by omega)
  have tm1 := Int.emod_lt_of_pos t (b := (p.many : Int)) (by omega)
  refine ⟨by omega, by omega, ⟨by omega, by omega, by omega, by omega⟩, fun i acc h' => h' = h2 ∧ acc = (List.range i).map fun j => D.int (seatAt p t j : Nat), ⟨rfl, rfl⟩, by rw [irange2_length]; simp only [line]; omega, ?_, ?_⟩
  · rintro i y acc h' hy ⟨rfl, rfl⟩
    obtain ⟨rfl, hi⟩ := irange2_get hy
    refine ⟨trivial, ?_⟩
    simp only [gName, swipe, ss, sw, sg, tYes, if_true]
    have es : (t % (p.many : Int) + (i : Int)) % (p.many : Int) = (seatAt p t i : Int) := by
      unfold seatAt
      rw [Int.emod_add_emod, Int.toNat_of_nonneg (Int.emod_nonneg _ (by omega))]
    rw [es, List.range_succ, List.map_append]
    exact ⟨by omega, (by first | trivial | rfl), (by first | trivial | rfl)⟩
  rintro acc h' ⟨rfl, rfl⟩
  refine ⟨trivial, fun L nL => ?_⟩
  rw [irange2_length]
  have em : (t % (p.many : Int) + (p.many : Int) - t % (p.many : Int)).toNat = p.many := by omega
  rw [em]
  obtain ⟨ls, hls⟩ : ∃ ls, ls = (List.range p.many).map fun j => D.int (seatAt p t j : Nat) := ⟨_, rfl⟩
  rw [← hls]
  have G0 : GH p h (upd h' L (.lst ls)) o q0 L ls od c pl :=
    ⟨k2.new nL, no, nq0, by rw [upd_ne (ne_of_none ho2 nL)]; exact ho2, by rw [upd_ne (ne_of_none hq2 nL)]; exact hq2, upd_same⟩
  generalize upd h' L (.lst ls) = h3 at G0
  simp only [G0.hL]
  refine ⟨fun i σ h5 => (∃ b6 b13 b14 b15, σ = [some (planD p), some (picD c), some (.int t), some (handsD hs), a4, some (.int (p.many : Int)), b6, none, some (.ref o), some (.ref q0), none, none, none, b13, b14, b15]) ∧ ∃ pl', Good p ((List.range i).foldl (fun c i => turnF p hs c (seatAt p t i)) c) pl' ∧
    GH p h h5 o q0 L ls od ((List.range i).foldl (fun c i => turnF p hs c (seatAt p t i)) c) pl', ⟨⟨_, _, _, _, rfl⟩, pl, g, G0⟩, ?_, ?_⟩
  · rintro i y σ h5 hy ⟨⟨_, _, _, _, rfl⟩, pl', g', G'⟩
    refine ⟨G'.hL, ?_⟩
    have ey : y = .int (seatAt p t i : Nat) := by
      rw [hls] at hy
      obtain ⟨j, hj, rfl⟩ := map_get hy
      have hi := lt_of_get hj
      rw [List.getElem?_range (by simpa using hi)] at hj
      cases hj; rfl
    subst ey
    simp only [gName, ss]
    refine gone_turn ok hk S G' g' (seatAt_lt ok) fun h6 pl2 b13 b14 b15 g2 G2 => ?_
    simp only [List.range_succ, List.foldl_append, List.foldl_cons, List.foldl_nil]
    exact ⟨⟨_, _, _, _, rfl⟩, pl2, g2, G2⟩
  rintro σ h5 ⟨⟨b6, b13, b14, b15, rfl⟩, pl', g', G'⟩
  refine ⟨G'.hL, ?_⟩
  have el : ls.length = p.many := by rw [hls]; simp
  rw [el] at g' G'
  obtain ⟨cN, hcN⟩ : ∃ cN, cN = goneF p c t hs := ⟨_, rfl⟩
  have ecN : (List.range p.many).foldl (fun c i => turnF p hs c (seatAt p t i)) c = cN := by rw [hcN]; rfl
  rw [ecN] at g' G'
  rw [← hcN] at q
  -- found
  simp only [sSeq, s_law_gone_15, sAsg, eCB, aCons, aNil, eVar, sg, picD, rList, gName, ss]
  intro f nf
  have Gf := G'.new (u := .lst (intsD c)) nf
  have hf : upd h5 f (.lst (intsD c)) f = some (.lst (intsD c)) := upd_same
  have nf0 : h f = none := by
    cases e : h f with
    | none => rfl
    | some u => have := G'.k.nil f u e; rw [nf] at this; cases this
  have fo : f ≠ o := Ne.symm (ne_of_none G'.ho nf)
  have fq : f ≠ q0 := Ne.symm (ne_of_none G'.hq nf)
  generalize upd h5 f (.lst (intsD c)) = h6 at Gf hf
  simp only [sSeq, s_law_gone_18, sLock, sg, Gf.ho]
  unfold sFor
  simp only [iSeq, eVar, sg, upd_same]
  have keys : ((ownL p cN p.n).map fun q => D.tup (q.1.map kD)) = (fr p p.n).map fun k => cellD (cK p k) := by
    unfold ownL
    rw [List.map_map]
    rfl
  rw [keys]
  have isC : Is c p.n (fun k => c.getD k 0) := ⟨cl, fun k hk => by
    have e : c[k]? = some (c[k]'(by omega)) := List.getElem?_eq_getElem (by omega)
    simp [List.getD, e]⟩
  refine ⟨fun i σ h7 => (∃ d6 d10 d11 d12, σ = [some (planD p), some (picD c), some (.int t), some (handsD hs), a4, some (.int (p.many : Int)), d6, some (.ref f), some (.ref o), some (.ref q0), d10, d11, d12, b13, b14, b15]) ∧ Keep h [] h7 ∧ h7 o = some (.fT (ownL p cN p.n)) ∧ h7 q0 = some (.dK (plL p od pl')) ∧
    ∃ fs, h7 f = some (.lst (intsD fs)) ∧ Is fs p.n (fun k => if k ∈ (fr p p.n).take i then cN.getD k 0 else c.getD k 0), ⟨⟨_, _, _, _, rfl⟩, Gf.k.own no, upd_same, by rw [upd_ne (Ne.symm oq)]; exact Gf.hq, c, by rw [upd_ne fo]; exact hf, isC.congr fun k hk => by simp⟩, ?_, ?_⟩
  · rintro i y σ h7 hy ⟨⟨_, _, _, _, rfl⟩, k7, ho7, hq7, fs, hf7, is7⟩
    obtain ⟨k, hk7, rfl⟩ := map_get hy
    obtain ⟨kn, nb⟩ := fr_mem.mp (List.mem_of_getElem? hk7)
    refine ⟨ho7, ?_⟩
    have ec : cellD (cK p k) = .tup [.int (cK p k).1, .int (cK p k).2] := rfl
    simp only [ec, gTup, gCons, gNil, gName, ss, List.length_cons, List.length_nil]
    refine ⟨(by first | trivial | rfl), ?_⟩
    have kl : k < cN.length := by rw [g'.len]; exact kn
    have ek : cN[k]? = some cN[k] := List.getElem?_eq_getElem kl
    obtain ⟨v, hv⟩ : ∃ v, v = cN[k] := ⟨_, rfl⟩
    rw [← hv] at ek
    have gdk : cN.getD k 0 = v := by simp [List.getD, ek]
    obtain ⟨f1, f2, f3⟩ := g'.fre k v ek nb
    simp only [sSeq, s_law_gone_16, sLock, sg, hq7, sAsg]
    unfold eLc
    simp only [iSeq, eVar, sg, upd_same]
    have keys2 : ((plL p od pl').map fun q => kD q.1) = od.map fun (s : Nat) => D.int (s : Int) := by
      unfold plL
      rw [List.map_map]
      rfl
    rw [keys2]
    refine ⟨fun j acc h8 => h8 = upd h7 q0 (.fK (plL p od pl')) ∧ acc = intsD (((od.take j).filter fun s => decide (cK p (pl' s) = cK p k)).map fun (s : Nat) => (s : Int) + 1), ⟨rfl, rfl⟩, by rw [List.length_map, S.len]; simp only [line]; omega, ?_, ?_⟩
    · rintro j y acc h8 hy2 ⟨rfl, rfl⟩
      obtain ⟨s, hs2, rfl⟩ := map_get hy2
      refine ⟨upd_same, ?_⟩
      have hso := List.mem_of_getElem? hs2
      simp only [gName, swipe, ss, sw, sg, tVal, eBin, eVar, eC, eTup, aCons, aNil, List.length_cons, List.length_nil, ixFK upd_same (plL_look hso)]
      rw [← ec]
      simp only [eq_cells, rAdd]
      rw [take_succ hs2, List.filter_append, List.map_append, List.filter_cons]
      refine ⟨by simp [line], ?_⟩
      by_cases z : cK p (pl' s) = cK p k
      · simp [z, intsD]
      · simp [z]
    · rintro acc h8 ⟨rfl, rfl⟩
      rw [List.length_map, List.take_length]
      have ssum := stand_sum g' S ek nb
      obtain ⟨ns, hns⟩ : ∃ ns, ns = ((od.filter fun s => decide (cK p (pl' s) = cK p k)).map fun (s : Nat) => (s : Int) + 1) := ⟨_, rfl⟩
      rw [← hns] at ssum ⊢
      refine ⟨upd_same, fun r nr => ?_⟩
      have nrq : r ≠ q0 := by intro z; rw [z, upd_same] at nr; cases nr
      have nr7 : h7 r = none := by rwa [upd_ne nrq] at nr
      simp only [gName, ss]
      refine ⟨by rw [upd_ne (Ne.symm nrq)]; exact upd_same, ?_⟩
      have hr8 : upd (upd (upd h7 q0 (.fK (plL p od pl'))) r (.lst (intsD ns))) q0 (.dK (plL p od pl')) = upd h7 r (.lst (intsD ns)) := by
        rw [← upd_comm (Ne.symm nrq), upd_upd, upd_self hq7]
      rw [hr8]
      have k8 := k7.new (o := .lst (intsD ns)) nr7
      have ho8 : upd h7 r (.lst (intsD ns)) o = some (.fT (ownL p cN p.n)) := by rw [upd_ne (ne_of_none ho7 nr7)]; exact ho7
      have hq8 : upd h7 r (.lst (intsD ns)) q0 = some (.dK (plL p od pl')) := by rw [upd_ne (ne_of_none hq7 nr7)]; exact hq7
      have hf8 : upd h7 r (.lst (intsD ns)) f = some (.lst (intsD fs)) := by rw [upd_ne (ne_of_none hf7 nr7)]; exact hf7
      have hr9 : upd h7 r (.lst (intsD ns)) r = some (.lst (intsD ns)) := upd_same
      generalize upd h7 r (.lst (intsD ns)) = h9 at k8 ho8 hq8 hf8 hr9
      have lk : look (ownL p cN p.n) (cellKey (cK p k)) = some (.int (v / 10)) := by rw [ownL_look kn nb, gdk]
      have esp : (cK p k).2 * p.w + (cK p k).1 = (k : Int) := cK_spot
      simp only [s_law_gone_17, sAsg, eBin, eVar, eC, sg, eTup, aCons, aNil, List.length_cons, List.length_nil]
      rw [← ec]
      simp only [ixFT ho8 lk, eC, eCB, aCons, aNil, eVar, sg, rSum, rMul, rAdd, gSub, eBin, p0, esp]
      refine ⟨by simp [line], .inl ⟨by omega, by omega⟩, ns, hr9, .inr ⟨by omega, by omega⟩, ?_⟩
      rw [set_int hf8 (by rw [is7.len]; exact kn)]
      have val : 10 * (v / 10) + ns.sum = v := by rw [ssum]; omega
      rw [val]
      refine ⟨⟨_, _, _, _, rfl⟩, k8.own nf0, by rw [upd_ne (Ne.symm fo)]; exact ho8, by rw [upd_ne (Ne.symm fq)]; exact hq8, _, upd_same, (is7.set kn).congr fun j hj => ?_⟩
      rw [take_succ hk7]
      by_cases z : j = k
      · rw [if_pos z, z, if_pos (by simp), gdk]
      · rw [if_neg z]
        have : j ∈ (fr p p.n).take i ++ [k] ↔ j ∈ (fr p p.n).take i := by simp [z]
        by_cases y : j ∈ (fr p p.n).take i
        · rw [if_pos y, if_pos (this.mpr y)]
        · rw [if_neg y, if_neg (fun w => y (this.mp w))]
  · rintro σ h7 ⟨⟨d6, d10, d11, d12, rfl⟩, k7, ho7, hq7, fs, hf7, is7⟩
    refine ⟨ho7, ho7, ?_⟩
    rw [List.length_map, List.take_length] at is7
    have efs : fs = cN := by
      have i1 : Is cN p.n (fun k => cN.getD k 0) := ⟨g'.len, fun k hk => by
        have e : cN[k]? = some (cN[k]'(by rw [g'.len]; exact hk)) := List.getElem?_eq_getElem (by rw [g'.len]; exact hk)
        simp [List.getD, e]⟩
      rw [i1.eq, (is7.congr (g := fun k => cN.getD k 0) fun k hk => ?_).eq]
      by_cases b : isB p k
      · have hk2 : k < cN.length := by rw [g'.len]; exact hk
        have e1 : cN[k]? = some cN[k] := List.getElem?_eq_getElem hk2
        have hk3 : k < c.length := by omega
        have e2 : c[k]? = some c[k] := List.getElem?_eq_getElem hk3
        rw [if_neg (fun w => (fr_mem.mp w).2 b)]
        have v1 := g'.blk k _ e1 b
        have v2 := g.blk k _ e2 b
        simp [List.getD, e1, e2, v1, v2]
      · rw [if_pos (fr_mem.mpr ⟨hk, b⟩)]
    rw [efs] at hf7
    have hf9 : upd h7 o (.dT (ownL p cN p.n)) f = some (.lst (intsD cN)) := by rw [upd_ne fo]; exact hf7
    simp only [sSeq, s_law_gone_19, sRet, eCB, aCons, aNil, eVar, sg, rTuple, outE]
    exact ⟨_, hf9, h, (k7.own no).nil, q⟩
end F

set_option linter.all false
set_option maxRecDepth 100000
namespace F
open PySem (Str PyData)
theorem pic_alike {c : List Int} {h : Hp} {Q : KV} {E : Xc → Hp → Prop} (hl : c.length ≤ 100000) (q : Q (.bl true) h) : sp_law_alike [picD c, picD c] h Q E :=
  ⟨picD c, picD c, _, rfl, alike_ints, alike_ints, small_ints hl, q⟩
theorem firstF_good {p : Plan} (ok : p.Ok) : Good p (firstF p) (fun s => (spot p (p.st.getD s (0, 0))).toNat) := by
  have at_ : ∀ k, k < p.n → (firstF p)[k]? = some (f2 p p.st.length k) := by
    intro k hk
    have := (is_map (n := p.n) (f := f2 p p.st.length)).at_ k hk
    rw [show firstF p = (List.range p.n).map (f2 p p.st.length) from ?_]
    · exact this
    · unfold firstF f2
      simp only [List.take_length]
  have lt_ : ∀ k v, (firstF p)[k]? = some v → k < p.n := by
    intro k v e
    have := lt_of_get e
    unfold firstF at this
    simpa using this
  have h4 : p.many ≤ 4 := ok.s4
  have stat : ∀ s, s < p.many → ∃ ce, p.st[s]? = some ce ∧ p.st.getD s (0, 0) = ce ∧ ce ∈ p.st := by
    intro s hs
    have e : p.st[s]? = some p.st[s] := List.getElem?_eq_getElem hs
    exact ⟨_, e, by simp [List.getD, e], List.mem_of_getElem? e⟩
  have idx : ∀ s ce, p.st[s]? = some ce → ((p.st.map (spot p)).findIdx fun x => x == (((spot p ce).toNat : Nat) : Int)) = s := by
    intro s ce e
    exact findIdx_nd (nd_spots (fun c => ok.stB) (List.nodup_append.mp ok.nd).1) (by rw [List.getElem?_map, e, spot_toNat (ok.stB (List.mem_of_getElem? e))]; rfl)
  have val : ∀ k v, (firstF p)[k]? = some v → ¬ isB p k → v = 0 ∨ ∃ (s : Nat) (ce : Cell), s < p.many ∧ p.st[s]? = some ce ∧ k = (spot p ce).toNat ∧ v = 11 * (s : Int) + 11 := by
    intro k v e b
    have hk := lt_ k v e
    rw [at_ k hk] at e
    cases e
    unfold f2
    rw [if_neg b, List.take_length]
    by_cases m : (k : Int) ∈ p.st.map (spot p)
    · rw [if_pos m]
      right
      obtain ⟨ce, hce, ek⟩ := List.mem_map.mp m
      obtain ⟨s, hs, e1⟩ := List.mem_iff_getElem.mp hce
      have e2 : p.st[s]? = some ce := by rw [List.getElem?_eq_getElem hs, e1]
      have kk : k = (spot p ce).toNat := by omega
      refine ⟨s, ce, hs, e2, kk, ?_⟩
      have := idx s ce e2
      rw [← kk] at this
      rw [this]
    · rw [if_neg m]; exact .inl rfl
  refine ⟨by unfold firstF; simp, fun k v e b => ?_, fun k v e b => ?_, fun s hs => ?_, fun s k v hs e b h => ?_⟩
  · rw [at_ k (lt_ k v e)] at e
    cases e
    unfold f2
    rw [if_pos b]
  · rcases val k v e b with rfl | ⟨s, ce, hs, _, _, rfl⟩
    · have := ok.s1
      exact ⟨by omega, by omega, by omega⟩
    · exact ⟨by omega, by omega, by omega⟩
  · obtain ⟨ce, e1, e2, m⟩ := stat s hs
    rw [e2]
    have bb := ok.stB m
    have nb : ¬ isB p (spot p ce).toNat := fun z => ok.dis m ((isB_spot ok bb).mp z)
    refine ⟨11 * s + 11, ?_, nb, by omega⟩
    rw [at_ _ (spot_lt ok bb)]
    unfold f2
    rw [if_neg nb, List.take_length, if_pos (by rw [spot_toNat bb]; exact List.mem_map_of_mem m), idx s ce e1]
  · rcases val k v e b with rfl | ⟨s', ce, hs', e1, rfl, rfl⟩
    · omega
    · have : s' = s := by omega
      subst this
      simp [List.getD, e1]
theorem goneF_good {p : Plan} {c : List Int} {pl : Nat → Nat} {t : Int} {hs : List Str} (ok : p.Ok) (g : Good p c pl) : ∃ pl', Good p (goneF p c t hs) pl' := Good.gone ok p.many g
theorem owned_eq {p : Plan} {c : List Int} {pl : Nat → Nat} (g : Good p c pl) : (c.filter fun v => decide (0 ≤ v)) = c.filter fun v => decide (v ≠ -1) := by
  apply List.filter_congr
  intro v hv
  obtain ⟨k, hk, e⟩ := List.mem_iff_getElem.mp hv
  have e2 : c[k]? = some v := by rw [List.getElem?_eq_getElem hk, e]
  by_cases b : isB p k
  · have := g.blk k v e2 b
    subst this; rfl
  · have := (g.fre k v e2 b).1
    rw [decide_eq_true this, decide_eq_true (by omega)]
theorem ok_law : ∀ ds h Q E, spLaw ds h Q E → r_law (outE Q E) (start2 13 ds) h := by
  rintro ds h Q E ⟨ns, rfl, hns, rfl, q⟩
  show r_law (outE Q E) [some (.ro (intsD ns)), none, none, none, none, none, none, none, none, none, none, none, none] _
  simp only [r_law, sSeq, s_law_0, sAsg, eCall, aCons, aNil, eVar, sg, gName, ss]
  refine ⟨ns, rfl, hns, fun b l s0 nb nl ne => ?_⟩
  have X0 : Box (boxH (fun _ => none) b l ns s0) b l ns s0 := box_boxH ne hns
  generalize boxH (fun _ => none) b l ns s0 = h0 at X0
  simp only [s_law_18]
  unfold sFor
  simp only [iRng, aCons, aNil, eC]
  refine ⟨by omega, fun i σ h' => (∃ a2 a3 a4 a5 a6 a7 a8 a9 a10 a11 a12, σ = [some (.ro (intsD ns)), some (.ref b), a2, a3, a4, a5, a6, a7, a8, a9, a10, a11, a12]) ∧ ∃ ns' s', Box h' b l ns' s', ⟨⟨_, _, _, _, _, _, _, _, _, _, _, rfl⟩, ns, s0, X0⟩, ?_, ?_⟩
  · rintro i y σ h' hy ⟨⟨_, _, _, a5, a6, a7, a8, a9, a10, a11, a12, rfl⟩, ns1, s1, X1⟩
    refine ⟨trivial, ?_⟩
    -- the plan
    simp only [gName, ss, sSeq, s_law_1, sAsg, eCall, aCons, aNil, eVar, sg]
    refine ⟨b, l, ns1, s1, rfl, X1, fun p ns2 s2 ok hl2 => ?_⟩
    have X2 := box_boxH (h := h') (s := s2) X1.ne hl2
    generalize boxH h' b l ns2 s2 = h2 at X2
    have h36 := ok.n36
    have h4 : p.many ≤ 4 := ok.s4
    have h1 : 1 ≤ p.many := ok.s1
    have h44 : p.st.length ≤ 4 := ok.s4
    have g0 := firstF_good ok
    simp only [sSeq, s_law_2, sAsg, eCall, aCons, aNil, eVar, sg, gName, ss, u_law_first ok]
    simp only [sSeq, s_law_4, sIf, tNot, tVal, eCall, aCons, aNil, eVar, sg, u_begun ok]
    refine pic_alike (by rw [g0.len]; omega) ?_
    simp only [Bool.not_true, Bool.false_eq_true, if_false, sNext]
    -- the picture
    have cont : ∀ (h3 : Hp) (ns3 : List Int) (s3 : Int) (c : List Int) (pl : Nat → Nat), Box h3 b l ns3 s3 → Good p c pl →
        s_law_7 { nx := s_law_17 { nx := fun σ h' => (∃ a2 a3 a4 a5 a6 a7 a8 a9 a10 a11 a12, σ = [some (.ro (intsD ns)), some (.ref b), a2, a3, a4, a5, a6, a7, a8, a9, a10, a11, a12]) ∧ ∃ ns' s', Box h' b l ns' s', rt := (outE Q E).rt, bk := s_law_19 (outE Q E), ct := fun σ h' => (∃ a2 a3 a4 a5 a6 a7 a8 a9 a10 a11 a12, σ = [some (.ro (intsD ns)), some (.ref b), a2, a3, a4, a5, a6, a7, a8, a9, a10, a11, a12]) ∧ ∃ ns' s', Box h' b l ns' s', xe := (outE Q E).xe }, rt := (outE Q E).rt, bk := s_law_19 (outE Q E), ct := fun σ h' => (∃ a2 a3 a4 a5 a6 a7 a8 a9 a10 a11 a12, σ = [some (.ro (intsD ns)), some (.ref b), a2, a3, a4, a5, a6, a7, a8, a9, a10, a11, a12]) ∧ ∃ ns' s', Box h' b l ns' s', xe := (outE Q E).xe }
          [some (.ro (intsD ns)), some (.ref b), some y, some (planD p), some (picD c), a5, a6, a7, a8, a9, a10, a11, a12] h3 := by
      intro h3 ns3 s3 c pl X3 g
      simp only [sSeq, s_law_7, sAsg, eBin, eLst, eCall, aCons, aNil, eC, eVar, sg, rAdd, List.length_cons, List.length_nil]
      refine take_k (Keep.refl h3 _) X3 (by decide) (by decide) fun r1 h4' ns4 s4 r10 r11 X4 _ _ => ?_
      refine ⟨by simp [line], fun d nd => ?_⟩
      have X5 := X4.new (o := .lst [.int 1, .int (1 + r1)]) nd
      have zd := X4.ne_new nd
      refine take_k (Keep.refl _ _) X5 (by decide) (by decide) fun r2 h6 ns6 s6 r20 r21 X6 _ e6 => ?_
      have hd6 : h6 d = some (.lst [.int 1, .int (1 + r1)]) := by rw [e6 d zd.1 zd.2]; exact upd_same
      obtain ⟨t, ht, ht1⟩ : ∃ t : Int, atI [.int 1, .int (1 + r1)] r2 = some (.int t) ∧ (1 ≤ t ∧ t ≤ 9980) := by
        rcases (by omega : r2 = 0 ∨ r2 = 1) with rfl | rfl
        · exact ⟨1, rfl, by decide⟩
        · exact ⟨1 + r1, rfl, by omega, by omega⟩
      rw [ix_lst hd6 ht]
      simp only [gName, ss, s_law_17]
      unfold sFor
      simp only [iRng, eBin, eCall, aCons, aNil, eC, eVar, sg]
      refine take_k (Keep.refl _ _) X6 (by decide) (by decide) fun r3 h7 ns7 s7 r30 r31 X7 _ _ => ?_
      simp only [rAdd]
      refine ⟨⟨by omega, by omega, by omega, by omega⟩, fun i σ h' => (∃ a2 a5 a6 a7 a8 a9 a10 a11 a12 c' pl', σ = [some (.ro (intsD ns)), some (.ref b), a2, some (planD p), some (picD c'), a5, a6, a7, a8, a9, a10, a11, a12] ∧ Good p c' pl') ∧ ∃ ns' s', Box h' b l ns' s', ⟨⟨_, _, _, _, _, _, _, _, _, c, pl, rfl, g⟩, ns7, s7, X7⟩, ?_, ?_⟩
      · rintro j z σ h8 hz ⟨⟨_, a5, _, a7, a8, a9, a10, a11, a12, c', pl', rfl, g'⟩, ns8, s8, X8⟩
        obtain ⟨rfl, hj⟩ := irange2_get hz
        refine ⟨trivial, ?_⟩
        -- the hands
        simp only [gName, ss, sSeq, s_law_8, sAsg, eCB, aCons, aNil]
        unfold eLc
        simp only [iSeq, eBin, eVar, eC, sg, p2]
        refine ⟨fun i acc h' => ∃ xs ns' s', acc = xs.map D.str ∧ xs.length = i ∧ (∀ x ∈ xs, x ∈ handsS) ∧ Box h' b l ns' s', ⟨[], ns8, s8, rfl, rfl, by simp, X8⟩, by rw [List.length_map]; simp only [line]; show p.many ≤ _; omega, ?_, ?_⟩
        · rintro i x acc h9 hx ⟨xs, ns9, s9, rfl, xl, xm, X9⟩
          refine ⟨trivial, ?_⟩
          simp only [gName, swipe, ss, sw, tYes, eCall, aCons, aNil, eVar, sg, if_true]
          refine u_law_hand X9 fun x' nsa sa hx' Xa => ?_
          refine ⟨xs ++ [x'], nsa, sa, by simp, by simp [xl], fun u hu => ?_, Xa⟩
          rcases List.mem_append.mp hu with hu | hu
          · exact xm u hu
          · rw [List.mem_singleton] at hu; subst hu; exact hx'
        rintro acc h9 ⟨hs, ns9, s9, rfl, hl, hm, X9⟩
        rw [List.length_map] at hl
        have hk : HandsOk p hs := ⟨hl, hm⟩
        refine ⟨trivial, fun e ne => ?_⟩
        have Xa := X9.new (o := .lst (hs.map D.str)) ne
        simp only [rTuple]
        refine ⟨_, upd_same, ?_⟩
        generalize upd h9 e (.lst (hs.map D.str)) = ha at Xa
        -- what is due
        simp only [gName, ss, sSeq, s_law_9, sAsg, eCall, aCons, aNil, eVar, sg]
        refine ⟨p, c', pl', _, hs, rfl, ok, g', hk, ?_⟩
        obtain ⟨cN, hcN⟩ : ∃ cN, cN = goneF p c' (t + (j : Int)) hs := ⟨_, rfl⟩
        rw [← hcN]
        obtain ⟨plN, gN⟩ := goneF_good ok g' (t := t + (j : Int)) (hs := hs)
        rw [← hcN] at gN
        simp only [gName, ss, sSeq, s_law_12]
        unfold sFor
        simp only [iRng, aCons, aNil, eC]
        refine ⟨by omega, fun i σ h' => h' = ha ∧ ∃ a9, σ = [some (.ro (intsD ns)), some (.ref b), _, some (planD p), some (picD c'), a5, some (.int (t + (j : Int))), some (handsD hs), some (picD cN), a9, a10, a11, a12], ⟨rfl, _, rfl⟩, ?_, ?_⟩
        · rintro i x σ hb hx ⟨rfl, _, rfl⟩
          refine ⟨trivial, ?_⟩
          simp only [gName, ss, s_law_11, sIf, tNot, tVal, eCall, aCons, aNil, eVar, sg]
          refine ⟨p, c', pl', _, hs, rfl, ok, g', hk, ⟨by omega, by omega⟩, ?_⟩
          rw [← hcN]
          refine pic_alike (by rw [gN.len]; omega) ?_
          simp only [Bool.not_true, Bool.false_eq_true, if_false, sNext]
          exact ⟨(by first | trivial | rfl), _, rfl⟩
        rintro σ hb ⟨rfl, a9', rfl⟩
        refine ⟨trivial, ?_⟩
        -- the points
        simp only [sSeq, s_law_13, s_law_14, sAsg, eVar, sg, gName, ss]
        unfold eLc
        simp only [iSeq, picD, eVar, sg]
        refine ⟨fun i acc h' => h' = hb ∧ acc = intsD (((cN.take i).filter fun v => decide (0 ≤ v)).map fun v => v / 10 - 1), ⟨rfl, rfl⟩, by rw [ints_length, gN.len]; simp only [line]; omega, ?_, ?_⟩
        · rintro i x acc hc hx ⟨rfl, rfl⟩
          obtain ⟨v, hv, rfl⟩ := map_get hx
          refine ⟨trivial, ?_⟩
          simp only [gName, swipe, ss, sw, tVal, eBin, eVar, eC, sg, rGe, rDiv, rSub, take_succ hv, List.filter_append, List.map_append]
          by_cases e : 0 ≤ v
          · simp [e, ints_snoc]
          · simp [e]
        rintro acc hc ⟨rfl, rfl⟩
        refine ⟨trivial, fun u nu => ?_⟩
        rw [ints_length, List.take_length, owned_eq gN]
        obtain ⟨os, hos⟩ : ∃ os, os = ((cN.filter fun v => decide (v ≠ -1)).map fun v => v / 10 - 1) := ⟨_, rfl⟩
        have e1 : pointsF p cN = (List.range p.many).map fun (s : Nat) => ((os.count (s : Int) : Nat) : Int) := by rw [hos]; rfl
        rw [← hos]
        have Xd := Xa.new (o := .lst (intsD os)) nu
        have hu : upd hc u (.lst (intsD os)) u = some (.lst (intsD os)) := upd_same
        generalize upd hc u (.lst (intsD os)) = hd at Xd hu
        simp only [gName, ss, s_law_16, sIf, tNot, tVal, eCall, eCB, aCons, aNil, eVar, sg]
        refine ⟨p, cN, plN, rfl, ok, gN, ?_⟩
        unfold eLc
        simp only [iRng, eCB, aCons, aNil, eBin, eVar, eC, sg, p2, rLen, List.length_map]
        refine ⟨by omega, fun i acc h' => h' = hd ∧ acc = intsD ((List.range i).map fun (s : Nat) => ((os.count (s : Int) : Nat) : Int)), ⟨rfl, rfl⟩, by rw [irange_lengthP]; simp only [line]; omega, ?_, ?_⟩
        · rintro i x acc he hx ⟨rfl, rfl⟩
          obtain ⟨rfl, hi⟩ := irange_getP hx
          refine ⟨trivial, ?_⟩
          simp only [gName, swipe, ss, sw, tYes, eBM, eVar, aCons, aNil, sg, hu, isLst, if_true, rCount]
          exact ⟨(by first | trivial | rfl), os, (by first | trivial | rfl), (by first | trivial | rfl), count_range.symm⟩
        rintro acc he ⟨rfl, rfl⟩
        refine ⟨trivial, fun w nw => ?_⟩
        have : (irange 0 (p.st.length : Int)).length = p.many := by rw [irange_lengthP]; simp
        rw [this, ← e1]
        simp only [rTuple]
        refine ⟨_, upd_same, ?_⟩
        refine pic_alike (by rw [e1]; simp; omega) ?_
        simp only [Bool.not_true, Bool.false_eq_true, if_false, sNext]
        exact ⟨⟨_, _, _, _, _, _, _, _, _, cN, plN, rfl, gN⟩, _, _, Xd.new nw⟩
      · rintro σ h8 ⟨⟨a2, a5, a6, a7, a8, a9, a10, a11, a12, c', pl', rfl, g'⟩, ns8, s8, X8⟩
        exact ⟨trivial, ⟨_, _, _, _, _, _, _, _, _, _, _, rfl⟩, ns8, s8, X8⟩
    simp only [sSeq, s_law_6, sIf, tVal, eBin, eCall, aCons, aNil, eC, eVar, sg]
    refine take_k (Keep.refl _ _) X2 (by decide) (by decide) fun r h3 ns3 s3 r0 r1 X3 _ _ => ?_
    simp only [eqii]
    by_cases e : r = 0
    · simp only [e, decide_true, if_true, s_law_5, sAsg, eCall, aCons, aNil, eVar, sg, gName, ss]
      refine ⟨b, l, ns3, s3, p, rfl, X3, ok, fun c pl ns4 s4 g hl4 => ?_⟩
      exact cont _ ns4 s4 c pl (box_boxH X3.ne hl4) g
    · simp only [e, decide_false, Bool.false_eq_true, if_false, sNext]
      exact cont _ ns3 s3 _ _ X3 g0
  · rintro σ h' ⟨⟨_, _, _, _, _, _, _, _, _, _, _, rfl⟩, ns1, s1, X1⟩
    refine ⟨trivial, ?_⟩
    simp only [sSeq, s_law_19, sRet, eC, outE]
    exact ⟨fun _ => none, (show Sub (fun _ => none) h' from fun a o e => by cases e), q⟩
end F

set_option Elab.async false
set_option linter.all false
set_option maxRecDepth 100000
set_option maxHeartbeats 4000000
namespace F
open PySem PySem.Spec PyProof.Rows L2
def top (i : Nat) : Stmt := PySem.Challenge.pw_farseats_k05_ticks_of_the_game.main.body.getD i (.Pass ⟨0, 0, 0, 0⟩)
abbrev st_is_number : Stmt := top 17
abbrev st_need_count : Stmt := top 18
abbrev st_need_hand : Stmt := top 19
abbrev st_is_cell : Stmt := top 20
abbrev st_need_plan : Stmt := top 21
abbrev st_many_of : Stmt := top 22
abbrev st_spot_of : Stmt := top 23
abbrev st_cell_of : Stmt := top 24
abbrev st_code : Stmt := top 25
abbrev st_owner_of : Stmt := top 26
abbrev st_mover_of : Stmt := top 27
abbrev st_is_picture : Stmt := top 28
abbrev st_need_picture : Stmt := top 29
abbrev st_first : Stmt := top 32
abbrev st_begun : Stmt := top 33
abbrev st_place_of : Stmt := top 34
abbrev st_beside : Stmt := top 35
abbrev st_is_open : Stmt := top 36
abbrev st_step : Stmt := top 37
abbrev st_mark : Stmt := top 38
abbrev st_gone_on : Stmt := top 39
abbrev st_need_hands : Stmt := top 40
abbrev st_after : Stmt := top 41
abbrev st_points : Stmt := top 42
abbrev st_law_begun : Stmt := top 44
abbrev st_law_take : Stmt := top 45
abbrev st_law_alike : Stmt := top 46
abbrev st_law_plan : Stmt := top 47
abbrev st_law_hand : Stmt := top 48
abbrev st_law_first : Stmt := top 49
abbrev st_law_beside : Stmt := top 50
abbrev st_law_gone : Stmt := top 51
abbrev st_law_made_up : Stmt := top 52
abbrev st_law : Stmt := top 53
structure Txt (K : PySem.W.Frag) (w : World) (cn : Cn) (mg : Str → Option Value) : Prop where
  c_BLOCK : ∃ u v, mg "BLOCK" = some u ∧ RelV v u ∧ ∀ H, Rep ⟨K, w, cn⟩ H v g_BLOCK
  c_FREE : ∃ u v, mg "FREE" = some u ∧ RelV v u ∧ ∀ H, Rep ⟨K, w, cn⟩ H v g_FREE
  c_HANDS : ∃ u v, mg "HANDS" = some u ∧ RelV v u ∧ ∀ H, Rep ⟨K, w, cn⟩ H v g_HANDS
  c_LEAST_SIDE : ∃ u v, mg "LEAST_SIDE" = some u ∧ RelV v u ∧ ∀ H, Rep ⟨K, w, cn⟩ H v g_LEAST_SIDE
  c_MARK : ∃ u v, mg "MARK" = some u ∧ RelV v u ∧ ∀ H, Rep ⟨K, w, cn⟩ H v g_MARK
  c_MOST_SEATS : ∃ u v, mg "MOST_SEATS" = some u ∧ RelV v u ∧ ∀ H, Rep ⟨K, w, cn⟩ H v g_MOST_SEATS
  c_MOST_SIDE : ∃ u v, mg "MOST_SIDE" = some u ∧ RelV v u ∧ ∀ H, Rep ⟨K, w, cn⟩ H v g_MOST_SIDE
  c_MOST_TICK : ∃ u v, mg "MOST_TICK" = some u ∧ RelV v u ∧ ∀ H, Rep ⟨K, w, cn⟩ H v g_MOST_TICK
  c_SHARE : ∃ u v, mg "SHARE" = some u ∧ RelV v u ∧ ∀ H, Rep ⟨K, w, cn⟩ H v g_SHARE
  c_WAYS : ∃ u v, mg "WAYS" = some u ∧ RelV v u ∧ ∀ H, Rep ⟨K, w, cn⟩ H v g_WAYS
  b_all : mg "all" = none
  b_bool : mg "bool" = none
  b_enumerate : mg "enumerate" = none
  b_int : mg "int" = none
  b_isinstance : mg "isinstance" = none
  b_len : mg "len" = none
  b_list : mg "list" = none
  b_range : mg "range" = none
  b_str : mg "str" = none
  b_sum : mg "sum" = none
  b_tuple : mg "tuple" = none
section
variable {P : Program} {w : World} {K : PySem.W.Frag} {mg : Str → Option Value} {base : Heap} {cn : Cn}
theorem sc_is_number : FnScope ["part", "low", "high"] ["part", "low", "high"] (defScope st_is_number) := ⟨rfl, rfl, rfl, by decide +kernel, rfl, by decide +kernel, by decide +kernel⟩
theorem d_is_number (T : Txt K w cn mg)  {f : Addr} {cdv : Value} {A : Around} {outer : List Env} {s : Shared} {H : LHp} {E : XK} (hr : Room 0 (A.deeper (envOfC "is_number" (defScope st_is_number) s.heap.objs.size f cdv))) :
    DSs (cxOf (L2.CX P w) P w K mg base ["part", "low", "high"] "is_number" (defScope st_is_number) f cdv A outer s H E) cn (fun cls d _ H => E cls d H) (defBody st_is_number) r_is_number := by
  have nd : (cxOf (L2.CX P w) P w K mg base ["part", "low", "high"] "is_number" (defScope st_is_number) f cdv A outer s H E).N.Nodup := sc_is_number.nd
  have tk : Takes (cxOf (L2.CX P w) P w K mg base ["part", "low", "high"] "is_number" (defScope st_is_number) f cdv A outer s H E) (fun cls d _ H => E cls d H) := takes_of rfl rfl rfl rfl
  exact (dss_one (ds_ret (de_and (de_isA (n := "int") .int (de_var 0) rfl T.b_isinstance rfl T.b_int (by decide +kernel)) (de_and (de_not (de_isA (n := "bool") .bool (de_var 0) rfl T.b_isinstance rfl T.b_bool (by decide +kernel))) (de_one (de_chain db_le db_le (de_var 1) (de_var 0) (de_var 2)))))))
theorem sc_need_count : FnScope ["part", "low", "high"] ["part", "low", "high"] (defScope st_need_count) := ⟨rfl, rfl, rfl, by decide +kernel, rfl, by decide +kernel, by decide +kernel⟩
theorem d_need_count (T : Txt K w cn mg) (C_is_number : CallOk P w K mg base cn "is_number" 1 ["part", "low", "high"] sp_is_number) {f : Addr} {cdv : Value} {A : Around} {outer : List Env} {s : Shared} {H : LHp} {E : XK} (hr : Room 1 (A.deeper (envOfC "need_count" (defScope st_need_count) s.heap.objs.size f cdv))) :
    DSs (cxOf (L2.CX P w) P w K mg base ["part", "low", "high"] "need_count" (defScope st_need_count) f cdv A outer s H E) cn (fun cls d _ H => E cls d H) (defBody st_need_count) r_need_count := by
  have nd : (cxOf (L2.CX P w) P w K mg base ["part", "low", "high"] "need_count" (defScope st_need_count) f cdv A outer s H E).N.Nodup := sc_need_count.nd
  have tk : Takes (cxOf (L2.CX P w) P w K mg base ["part", "low", "high"] "need_count" (defScope st_need_count) f cdv A outer s H E) (fun cls d _ H => E cls d H) := takes_of rfl rfl rfl rfl
  exact (dss_one (ds_if (dt_not (dt_val (de_call C_is_number hr (by decide) rfl tk (da_cons (de_var 0) (da_cons (de_var 1) (da_cons (de_var 2) da_nil)))))) (dss_one ds_never) dss_nil))
theorem sc_need_hand : FnScope ["hand"] ["hand"] (defScope st_need_hand) := ⟨rfl, rfl, rfl, by decide +kernel, rfl, by decide +kernel, by decide +kernel⟩
theorem d_need_hand (T : Txt K w cn mg)  {f : Addr} {cdv : Value} {A : Around} {outer : List Env} {s : Shared} {H : LHp} {E : XK} (hr : Room 0 (A.deeper (envOfC "need_hand" (defScope st_need_hand) s.heap.objs.size f cdv))) :
    DSs (cxOf (L2.CX P w) P w K mg base ["hand"] "need_hand" (defScope st_need_hand) f cdv A outer s H E) cn (fun cls d _ H => E cls d H) (defBody st_need_hand) r_need_hand := by
  have nd : (cxOf (L2.CX P w) P w K mg base ["hand"] "need_hand" (defScope st_need_hand) f cdv A outer s H E).N.Nodup := sc_need_hand.nd
  have tk : Takes (cxOf (L2.CX P w) P w K mg base ["hand"] "need_hand" (defScope st_need_hand) f cdv A outer s H E) (fun cls d _ H => E cls d H) := takes_of rfl rfl rfl rfl
  exact (dss_one (ds_if (dw_pt (dw_or (dt_not (dt_val (de_isA (n := "str") .str (de_var 0) rfl T.b_isinstance rfl T.b_str (by decide +kernel)))) (dw_or1 (dt_cmp (db_notIn (hu70 hr)) (de_var 0) (de_gc T.c_HANDS rfl) rfl)))) (dss_one ds_never) dss_nil))
theorem sc_is_cell : FnScope ["part", "wide", "high"] ["part", "wide", "high"] (defScope st_is_cell) := ⟨rfl, rfl, rfl, by decide +kernel, rfl, by decide +kernel, by decide +kernel⟩
theorem d_is_cell (T : Txt K w cn mg) (C_is_number : CallOk P w K mg base cn "is_number" 1 ["part", "low", "high"] sp_is_number) {f : Addr} {cdv : Value} {A : Around} {outer : List Env} {s : Shared} {H : LHp} {E : XK} (hr : Room 1 (A.deeper (envOfC "is_cell" (defScope st_is_cell) s.heap.objs.size f cdv))) :
    DSs (cxOf (L2.CX P w) P w K mg base ["part", "wide", "high"] "is_cell" (defScope st_is_cell) f cdv A outer s H E) cn (fun cls d _ H => E cls d H) (defBody st_is_cell) r_is_cell := by
  have nd : (cxOf (L2.CX P w) P w K mg base ["part", "wide", "high"] "is_cell" (defScope st_is_cell) f cdv A outer s H E).N.Nodup := sc_is_cell.nd
  have tk : Takes (cxOf (L2.CX P w) P w K mg base ["part", "wide", "high"] "is_cell" (defScope st_is_cell) f cdv A outer s H E) (fun cls d _ H => E cls d H) := takes_of rfl rfl rfl rfl
  exact (dss_cons (ds_if (dw_pt (dw_or (dt_not (dt_val (de_isA (n := "tuple") .tuple (de_var 0) rfl T.b_isinstance rfl T.b_tuple (by decide +kernel)))) (dw_or1 (dt_cmp (db_ne (hu64 hr)) (de_cb (dc_len) rfl T.b_len (by decide +kernel) (da_cons (de_var 0) da_nil)) de_int (nomark _))))) (dss_one (ds_ret de_bl)) dss_nil) (dss_one (ds_ret (de_and (de_call C_is_number hr (by decide) rfl tk (da_cons (de_ix (hu1 hr) (de_var 0) de_int (fun _ _ => rfl)) (da_cons de_int (da_cons (de_bin db_sub (de_var 1) de_int) da_nil)))) (de_one (de_call C_is_number hr (by decide) rfl tk (da_cons (de_ix (hu1 hr) (de_var 0) de_int (fun _ _ => rfl)) (da_cons de_int (da_cons (de_bin db_sub (de_var 2) de_int) da_nil)))))))))
theorem sc_need_plan : FnScope ["plan", "wide", "high", "starts", "blocks", "part", "side", "number", "cell"] ["plan"] (defScope st_need_plan) := ⟨rfl, rfl, rfl, by decide +kernel, rfl, by decide +kernel, by decide +kernel⟩
theorem d_need_plan (T : Txt K w cn mg) (C_is_number : CallOk P w K mg base cn "is_number" 1 ["part", "low", "high"] sp_is_number) (C_is_cell : CallOk P w K mg base cn "is_cell" 2 ["part", "wide", "high"] sp_is_cell) {f : Addr} {cdv : Value} {A : Around} {outer : List Env} {s : Shared} {H : LHp} {E : XK} (hr : Room 2 (A.deeper (envOfC "need_plan" (defScope st_need_plan) s.heap.objs.size f cdv))) :
    DSs (cxOf (L2.CX P w) P w K mg base ["plan", "wide", "high", "starts", "blocks", "part", "side", "number", "cell"] "need_plan" (defScope st_need_plan) f cdv A outer s H E) cn (fun cls d _ H => E cls d H) (defBody st_need_plan) r_need_plan := by
  have nd : (cxOf (L2.CX P w) P w K mg base ["plan", "wide", "high", "starts", "blocks", "part", "side", "number", "cell"] "need_plan" (defScope st_need_plan) f cdv A outer s H E).N.Nodup := sc_need_plan.nd
  have tk : Takes (cxOf (L2.CX P w) P w K mg base ["plan", "wide", "high", "starts", "blocks", "part", "side", "number", "cell"] "need_plan" (defScope st_need_plan) f cdv A outer s H E) (fun cls d _ H => E cls d H) := takes_of rfl rfl rfl rfl
  have po := passes_of (X := cxOf (L2.CX P w) P w K mg base ["plan", "wide", "high", "starts", "blocks", "part", "side", "number", "cell"] "need_plan" (defScope st_need_plan) f cdv A outer s H E) rfl
  exact (dss_cons (ds_if (dw_pt (dw_or (dt_not (dt_val (de_isA (n := "tuple") .tuple (de_var 0) rfl T.b_isinstance rfl T.b_tuple (by decide +kernel)))) (dw_or1 (dt_cmp (db_ne (hu64 hr)) (de_cb (dc_len) rfl T.b_len (by decide +kernel) (da_cons (de_var 0) da_nil)) de_int (nomark _))))) (dss_one ds_never) dss_nil) (dss_cons (ds_asg (de_var 0) (dg_tup rfl (dgs_cons (dg_name (i := 1) nd rfl (Or.inl rfl)) (dgs_cons (dg_name (i := 2) nd rfl (Or.inl rfl)) (dgs_cons (dg_name (i := 3) nd rfl (Or.inl rfl)) (dgs_cons (dg_name (i := 4) nd rfl (Or.inl rfl)) dgs_nil)))))) (dss_cons (ds_for po rfl (di_enum rfl T.b_enumerate (de_tup (da_cons (de_var 1) (da_cons (de_var 2) da_nil)))) (dg_tup rfl (dgs_cons (dg_name (i := 5) nd rfl (Or.inl rfl)) (dgs_cons (dg_name (i := 6) nd rfl (Or.inl rfl)) dgs_nil))) (dss_one (ds_if (dt_not (dt_val (de_call C_is_number hr (by decide) rfl tk (da_cons (de_var 6) (da_cons (de_gc T.c_LEAST_SIDE rfl) (da_cons (de_gc T.c_MOST_SIDE rfl) da_nil)))))) (dss_one ds_never) dss_nil))) (dss_cons (ds_if (dw_pt (dw_or (dt_not (dt_val (de_isA (n := "tuple") .tuple (de_var 3) rfl T.b_isinstance rfl T.b_tuple (by decide +kernel)))) (dw_or1 (dt_cmp (db_eq (hu64 hr)) (de_var 3) (de_tup da_nil) (nomark _))))) (dss_one ds_never) dss_nil) (dss_cons (ds_for po rfl (di_enum rfl T.b_enumerate (de_var 3)) (dg_tup rfl (dgs_cons (dg_name (i := 7) nd rfl (Or.inl rfl)) (dgs_cons (dg_name (i := 8) nd rfl (Or.inl rfl)) dgs_nil))) (dss_one (ds_if (dw_pt (dw_or (dt_cmp db_ge (de_var 7) (de_gc T.c_MOST_SEATS rfl) (nomark _)) (dw_or (dt_not (dt_val (de_call C_is_cell hr (by decide) rfl tk (da_cons (de_var 8) (da_cons (de_var 1) (da_cons (de_var 2) da_nil)))))) (dw_or1 (dt_cmp (db_in (hu70 hr)) (de_var 8) (de_sl (de_var 3) do_no (do_is (de_var 7))) rfl))))) (dss_one ds_never) dss_nil))) (dss_cons (ds_if (dt_not (dt_val (de_isA (n := "tuple") .tuple (de_var 4) rfl T.b_isinstance rfl T.b_tuple (by decide +kernel)))) (dss_one ds_never) dss_nil) (dss_one (ds_for po rfl (di_enum rfl T.b_enumerate (de_var 4)) (dg_tup rfl (dgs_cons (dg_name (i := 7) nd rfl (Or.inl rfl)) (dgs_cons (dg_name (i := 8) nd rfl (Or.inl rfl)) dgs_nil))) (dss_one (ds_if (dw_pt (dw_or (dt_not (dt_val (de_call C_is_cell hr (by decide) rfl tk (da_cons (de_var 8) (da_cons (de_var 1) (da_cons (de_var 2) da_nil)))))) (dw_or (dt_cmp (db_in (hu70 hr)) (de_var 8) (de_var 3) rfl) (dw_or1 (dt_cmp (db_in (hu70 hr)) (de_var 8) (de_sl (de_var 4) do_no (do_is (de_var 7))) rfl))))) (dss_one ds_never) dss_nil))))))))))
theorem sc_many_of : FnScope ["plan"] ["plan"] (defScope st_many_of) := ⟨rfl, rfl, rfl, by decide +kernel, rfl, by decide +kernel, by decide +kernel⟩
theorem d_many_of (T : Txt K w cn mg)  {f : Addr} {cdv : Value} {A : Around} {outer : List Env} {s : Shared} {H : LHp} {E : XK} (hr : Room 0 (A.deeper (envOfC "many_of" (defScope st_many_of) s.heap.objs.size f cdv))) :
    DSs (cxOf (L2.CX P w) P w K mg base ["plan"] "many_of" (defScope st_many_of) f cdv A outer s H E) cn (fun cls d _ H => E cls d H) (defBody st_many_of) r_many_of := by
  have nd : (cxOf (L2.CX P w) P w K mg base ["plan"] "many_of" (defScope st_many_of) f cdv A outer s H E).N.Nodup := sc_many_of.nd
  have tk : Takes (cxOf (L2.CX P w) P w K mg base ["plan"] "many_of" (defScope st_many_of) f cdv A outer s H E) (fun cls d _ H => E cls d H) := takes_of rfl rfl rfl rfl
  exact (dss_one (ds_ret (de_cb (dc_len) rfl T.b_len (by decide +kernel) (da_cons (de_ix (hu1 hr) (de_var 0) de_int (fun _ _ => rfl)) da_nil))))
theorem sc_spot_of : FnScope ["plan", "cell"] ["plan", "cell"] (defScope st_spot_of) := ⟨rfl, rfl, rfl, by decide +kernel, rfl, by decide +kernel, by decide +kernel⟩
theorem d_spot_of (T : Txt K w cn mg)  {f : Addr} {cdv : Value} {A : Around} {outer : List Env} {s : Shared} {H : LHp} {E : XK} (hr : Room 0 (A.deeper (envOfC "spot_of" (defScope st_spot_of) s.heap.objs.size f cdv))) :
    DSs (cxOf (L2.CX P w) P w K mg base ["plan", "cell"] "spot_of" (defScope st_spot_of) f cdv A outer s H E) cn (fun cls d _ H => E cls d H) (defBody st_spot_of) r_spot_of := by
  have nd : (cxOf (L2.CX P w) P w K mg base ["plan", "cell"] "spot_of" (defScope st_spot_of) f cdv A outer s H E).N.Nodup := sc_spot_of.nd
  have tk : Takes (cxOf (L2.CX P w) P w K mg base ["plan", "cell"] "spot_of" (defScope st_spot_of) f cdv A outer s H E) (fun cls d _ H => E cls d H) := takes_of rfl rfl rfl rfl
  exact (dss_one (ds_ret (de_bin db_add (de_bin db_mul (de_ix (hu1 hr) (de_var 1) de_int (fun _ _ => rfl)) (de_ix (hu1 hr) (de_var 0) de_int (fun _ _ => rfl))) (de_ix (hu1 hr) (de_var 1) de_int (fun _ _ => rfl)))))
theorem sc_cell_of : FnScope ["plan", "number"] ["plan", "number"] (defScope st_cell_of) := ⟨rfl, rfl, rfl, by decide +kernel, rfl, by decide +kernel, by decide +kernel⟩
theorem d_cell_of (T : Txt K w cn mg)  {f : Addr} {cdv : Value} {A : Around} {outer : List Env} {s : Shared} {H : LHp} {E : XK} (hr : Room 0 (A.deeper (envOfC "cell_of" (defScope st_cell_of) s.heap.objs.size f cdv))) :
    DSs (cxOf (L2.CX P w) P w K mg base ["plan", "number"] "cell_of" (defScope st_cell_of) f cdv A outer s H E) cn (fun cls d _ H => E cls d H) (defBody st_cell_of) r_cell_of := by
  have nd : (cxOf (L2.CX P w) P w K mg base ["plan", "number"] "cell_of" (defScope st_cell_of) f cdv A outer s H E).N.Nodup := sc_cell_of.nd
  have tk : Takes (cxOf (L2.CX P w) P w K mg base ["plan", "number"] "cell_of" (defScope st_cell_of) f cdv A outer s H E) (fun cls d _ H => E cls d H) := takes_of rfl rfl rfl rfl
  exact (dss_one (ds_ret (de_tup (da_cons (de_bin db_mod (de_var 1) (de_ix (hu1 hr) (de_var 0) de_int (fun _ _ => rfl))) (da_cons (de_bin db_div (de_var 1) (de_ix (hu1 hr) (de_var 0) de_int (fun _ _ => rfl))) da_nil)))))
theorem sc_code : FnScope ["owner", "mover"] ["owner", "mover"] (defScope st_code) := ⟨rfl, rfl, rfl, by decide +kernel, rfl, by decide +kernel, by decide +kernel⟩
theorem d_code (T : Txt K w cn mg)  {f : Addr} {cdv : Value} {A : Around} {outer : List Env} {s : Shared} {H : LHp} {E : XK} (hr : Room 0 (A.deeper (envOfC "code" (defScope st_code) s.heap.objs.size f cdv))) :
    DSs (cxOf (L2.CX P w) P w K mg base ["owner", "mover"] "code" (defScope st_code) f cdv A outer s H E) cn (fun cls d _ H => E cls d H) (defBody st_code) r_code := by
  have nd : (cxOf (L2.CX P w) P w K mg base ["owner", "mover"] "code" (defScope st_code) f cdv A outer s H E).N.Nodup := sc_code.nd
  have tk : Takes (cxOf (L2.CX P w) P w K mg base ["owner", "mover"] "code" (defScope st_code) f cdv A outer s H E) (fun cls d _ H => E cls d H) := takes_of rfl rfl rfl rfl
  exact (dss_one (ds_ret (de_bin db_add (de_bin db_add (de_bin db_mul (de_bin db_add (de_var 0) de_int) (de_gc T.c_SHARE rfl)) (de_var 1)) de_int)))
theorem sc_owner_of : FnScope ["number"] ["number"] (defScope st_owner_of) := ⟨rfl, rfl, rfl, by decide +kernel, rfl, by decide +kernel, by decide +kernel⟩
theorem d_owner_of (T : Txt K w cn mg)  {f : Addr} {cdv : Value} {A : Around} {outer : List Env} {s : Shared} {H : LHp} {E : XK} (hr : Room 0 (A.deeper (envOfC "owner_of" (defScope st_owner_of) s.heap.objs.size f cdv))) :
    DSs (cxOf (L2.CX P w) P w K mg base ["number"] "owner_of" (defScope st_owner_of) f cdv A outer s H E) cn (fun cls d _ H => E cls d H) (defBody st_owner_of) r_owner_of := by
  have nd : (cxOf (L2.CX P w) P w K mg base ["number"] "owner_of" (defScope st_owner_of) f cdv A outer s H E).N.Nodup := sc_owner_of.nd
  have tk : Takes (cxOf (L2.CX P w) P w K mg base ["number"] "owner_of" (defScope st_owner_of) f cdv A outer s H E) (fun cls d _ H => E cls d H) := takes_of rfl rfl rfl rfl
  exact (dss_one (ds_ret (de_bin db_sub (de_bin db_div (de_var 0) (de_gc T.c_SHARE rfl)) de_int)))
theorem sc_mover_of : FnScope ["number"] ["number"] (defScope st_mover_of) := ⟨rfl, rfl, rfl, by decide +kernel, rfl, by decide +kernel, by decide +kernel⟩
theorem d_mover_of (T : Txt K w cn mg)  {f : Addr} {cdv : Value} {A : Around} {outer : List Env} {s : Shared} {H : LHp} {E : XK} (hr : Room 0 (A.deeper (envOfC "mover_of" (defScope st_mover_of) s.heap.objs.size f cdv))) :
    DSs (cxOf (L2.CX P w) P w K mg base ["number"] "mover_of" (defScope st_mover_of) f cdv A outer s H E) cn (fun cls d _ H => E cls d H) (defBody st_mover_of) r_mover_of := by
  have nd : (cxOf (L2.CX P w) P w K mg base ["number"] "mover_of" (defScope st_mover_of) f cdv A outer s H E).N.Nodup := sc_mover_of.nd
  have tk : Takes (cxOf (L2.CX P w) P w K mg base ["number"] "mover_of" (defScope st_mover_of) f cdv A outer s H E) (fun cls d _ H => E cls d H) := takes_of rfl rfl rfl rfl
  exact (dss_one (ds_ret (de_bin db_sub (de_bin db_mod (de_var 0) (de_gc T.c_SHARE rfl)) de_int)))
theorem sc_is_picture : FnScope ["plan", "picture", "many", "cells", "blocks", "movers", "number", "part", "cell", "mover"] ["plan", "picture"] (defScope st_is_picture) := ⟨rfl, rfl, rfl, by decide +kernel, rfl, by decide +kernel, by decide +kernel⟩
theorem d_is_picture (T : Txt K w cn mg) (C_many_of : CallOk P w K mg base cn "many_of" 1 ["plan"] sp_many_of) (C_spot_of : CallOk P w K mg base cn "spot_of" 1 ["plan", "cell"] sp_spot_of) (C_is_number : CallOk P w K mg base cn "is_number" 1 ["part", "low", "high"] sp_is_number) (C_code : CallOk P w K mg base cn "code" 1 ["owner", "mover"] sp_code) (C_mover_of : CallOk P w K mg base cn "mover_of" 1 ["number"] sp_mover_of) {f : Addr} {cdv : Value} {A : Around} {outer : List Env} {s : Shared} {H : LHp} {E : XK} (hr : Room 1 (A.deeper (envOfC "is_picture" (defScope st_is_picture) s.heap.objs.size f cdv))) :
    DSs (cxOf (L2.CX P w) P w K mg base ["plan", "picture", "many", "cells", "blocks", "movers", "number", "part", "cell", "mover"] "is_picture" (defScope st_is_picture) f cdv A outer s H E) cn (fun cls d _ H => E cls d H) (defBody st_is_picture) r_is_picture := by
  have nd : (cxOf (L2.CX P w) P w K mg base ["plan", "picture", "many", "cells", "blocks", "movers", "number", "part", "cell", "mover"] "is_picture" (defScope st_is_picture) f cdv A outer s H E).N.Nodup := sc_is_picture.nd
  have tk : Takes (cxOf (L2.CX P w) P w K mg base ["plan", "picture", "many", "cells", "blocks", "movers", "number", "part", "cell", "mover"] "is_picture" (defScope st_is_picture) f cdv A outer s H E) (fun cls d _ H => E cls d H) := takes_of rfl rfl rfl rfl
  have po := passes_of (X := cxOf (L2.CX P w) P w K mg base ["plan", "picture", "many", "cells", "blocks", "movers", "number", "part", "cell", "mover"] "is_picture" (defScope st_is_picture) f cdv A outer s H E) rfl
  exact (dss_cons (ds_par (i := 2) (j := 3) rfl nd rfl rfl (by decide) rfl rfl (da_cons (de_call C_many_of hr (by decide) rfl tk (da_cons (de_var 0) da_nil)) (da_cons (de_bin db_mul (de_ix (hu1 hr) (de_var 0) de_int (fun _ _ => rfl)) (de_ix (hu1 hr) (de_var 0) de_int (fun _ _ => rfl))) da_nil))) (dss_cons (ds_if (dw_pt (dw_or (dt_not (dt_val (de_isA (n := "tuple") .tuple (de_var 1) rfl T.b_isinstance rfl T.b_tuple (by decide +kernel)))) (dw_or1 (dt_cmp (db_ne (hu64 hr)) (de_cb (dc_len) rfl T.b_len (by decide +kernel) (da_cons (de_var 1) da_nil)) (de_var 3) (nomark _))))) (dss_one (ds_ret de_bl)) dss_nil) (dss_cons (ds_asg (de_tup (da_cons (de_lc (own := [(("cell" : Str), 8)]) (te := (eCall sp_spot_of (aCons (eVar 0) (aCons (eVar 8) aNil)))) rfl nd (di_seq (de_ix (hu1 hr) (de_var 0) de_int (fun _ _ => rfl))) (blkOk_by (N := ["plan", "picture", "many", "cells", "blocks", "movers", "number", "part", "cell", "mover"]) (sc := defScope st_is_picture) (by decide +kernel)) (cg_name (j := 8) (by decide)) (fun _ _ _ _ _ => pg_name (i := 8) nd rfl (Or.inl rfl)) (fun _ _ _ _ _ => dts_nil) (fun _ _ _ _ _ => (de_call C_spot_of hr (by decide) rfl takes_no (da_cons (de_var 0) (da_cons (de_var 8) da_nil))))) (da_cons (de_lst da_nil) da_nil))) (dg_tup rfl (dgs_cons (dg_name (i := 4) nd rfl (Or.inl rfl)) (dgs_cons (dg_name (i := 5) nd rfl (Or.inr rfl)) dgs_nil)))) (dss_cons (ds_for po rfl (di_enum rfl T.b_enumerate (de_var 1)) (dg_tup rfl (dgs_cons (dg_name (i := 6) nd rfl (Or.inl rfl)) (dgs_cons (dg_name (i := 7) nd rfl (Or.inl rfl)) dgs_nil))) (dss_one (ds_if (dt_cmp (db_in (hu70 hr)) (de_var 6) (de_var 4) rfl) (dss_one (ds_if (dt_not (dt_val (de_call C_is_number hr (by decide) rfl tk (da_cons (de_var 7) (da_cons (de_gc T.c_BLOCK rfl) (da_cons (de_gc T.c_BLOCK rfl) da_nil)))))) (dss_one (ds_ret de_bl)) dss_nil)) (dss_one (ds_if (dw_pt (dw_or (dt_not (dt_val (de_call C_is_number hr (by decide) rfl tk (da_cons (de_var 7) (da_cons de_int (da_cons (de_call C_code hr (by decide) rfl tk (da_cons (de_bin db_sub (de_var 2) de_int) (da_cons (de_bin db_sub (de_var 2) de_int) da_nil))) da_nil)))))) (dw_or1 (dt_cmp db_ge (de_call C_mover_of hr (by decide) rfl tk (da_cons (de_var 7) da_nil)) (de_var 2) (nomark _))))) (dss_one (ds_ret de_bl)) (dss_one (ds_expr (de_bm PySem.F.plainAttrs_list PySem.F.slot_list_append PySem.F.type_list_append dm_append (de_var 5) (da_cons (de_call C_mover_of hr (by decide) rfl tk (da_cons (de_var 7) da_nil)) da_nil))))))))) (dss_one (ds_ret (de_cb (dc_all rfl) rfl T.b_all (by decide +kernel) (da_cons (de_lc (own := [(("mover" : Str), 9)]) (te := (eBin rEq (eBM rCount (eVar 5) (aCons (eVar 9) aNil)) (eC (.int 1)))) rfl nd (di_rng1 rfl T.b_range (de_var 2)) (blkOk_by (N := ["plan", "picture", "many", "cells", "blocks", "movers", "number", "part", "cell", "mover"]) (sc := defScope st_is_picture) (by decide +kernel)) (cg_name (j := 9) (by decide)) (fun _ _ _ _ _ => pg_name (i := 9) nd rfl (Or.inl rfl)) (fun _ _ _ _ _ => dts_nil) (fun _ _ _ _ _ => (de_cmp (db_eq (hu64 hr)) (de_bm PySem.F.plainAttrs_list PySem.F.slot_list_count PySem.F.type_list_count dm_count (de_var 5) (da_cons (de_var 9) da_nil)) de_int (nomark _)))) da_nil))))))))
theorem sc_need_picture : FnScope ["plan", "picture"] ["plan", "picture"] (defScope st_need_picture) := ⟨rfl, rfl, rfl, by decide +kernel, rfl, by decide +kernel, by decide +kernel⟩
theorem d_need_picture (T : Txt K w cn mg) (C_is_picture : CallOk P w K mg base cn "is_picture" 2 ["plan", "picture"] sp_is_picture) {f : Addr} {cdv : Value} {A : Around} {outer : List Env} {s : Shared} {H : LHp} {E : XK} (hr : Room 2 (A.deeper (envOfC "need_picture" (defScope st_need_picture) s.heap.objs.size f cdv))) :
    DSs (cxOf (L2.CX P w) P w K mg base ["plan", "picture"] "need_picture" (defScope st_need_picture) f cdv A outer s H E) cn (fun cls d _ H => E cls d H) (defBody st_need_picture) r_need_picture := by
  have nd : (cxOf (L2.CX P w) P w K mg base ["plan", "picture"] "need_picture" (defScope st_need_picture) f cdv A outer s H E).N.Nodup := sc_need_picture.nd
  have tk : Takes (cxOf (L2.CX P w) P w K mg base ["plan", "picture"] "need_picture" (defScope st_need_picture) f cdv A outer s H E) (fun cls d _ H => E cls d H) := takes_of rfl rfl rfl rfl
  exact (dss_one (ds_if (dt_not (dt_val (de_call C_is_picture hr (by decide) rfl tk (da_cons (de_var 0) (da_cons (de_var 1) da_nil))))) (dss_one ds_never) dss_nil))
theorem sc_first : FnScope ["plan", "found", "cell", "seat"] ["plan"] (defScope st_first) := ⟨rfl, rfl, rfl, by decide +kernel, rfl, by decide +kernel, by decide +kernel⟩
theorem d_first (T : Txt K w cn mg) (C_spot_of : CallOk P w K mg base cn "spot_of" 1 ["plan", "cell"] sp_spot_of) (C_code : CallOk P w K mg base cn "code" 1 ["owner", "mover"] sp_code) {f : Addr} {cdv : Value} {A : Around} {outer : List Env} {s : Shared} {H : LHp} {E : XK} (hr : Room 1 (A.deeper (envOfC "first" (defScope st_first) s.heap.objs.size f cdv))) :
    DSs (cxOf (L2.CX P w) P w K mg base ["plan", "found", "cell", "seat"] "first" (defScope st_first) f cdv A outer s H E) cn (fun cls d _ H => E cls d H) (defBody st_first) r_first := by
  have nd : (cxOf (L2.CX P w) P w K mg base ["plan", "found", "cell", "seat"] "first" (defScope st_first) f cdv A outer s H E).N.Nodup := sc_first.nd
  have tk : Takes (cxOf (L2.CX P w) P w K mg base ["plan", "found", "cell", "seat"] "first" (defScope st_first) f cdv A outer s H E) (fun cls d _ H => E cls d H) := takes_of rfl rfl rfl rfl
  have po := passes_of (X := cxOf (L2.CX P w) P w K mg base ["plan", "found", "cell", "seat"] "first" (defScope st_first) f cdv A outer s H E) rfl
  exact (dss_cons (ds_set (i := 1) nd rfl (Or.inl rfl) (de_bin db_mul (de_lst (da_cons (de_gc T.c_FREE rfl) da_nil)) (de_bin db_mul (de_ix (hu1 hr) (de_var 0) de_int (fun _ _ => rfl)) (de_ix (hu1 hr) (de_var 0) de_int (fun _ _ => rfl))))) (dss_cons (ds_for po rfl (di_seq (de_ix (hu1 hr) (de_var 0) de_int (fun _ _ => rfl))) (dg_name (i := 2) nd rfl (Or.inl rfl)) (dss_one (ds_asg (de_gc T.c_BLOCK rfl) (dg_sub (hu1 hr) (de_var 1) (de_call C_spot_of hr (by decide) rfl tk (da_cons (de_var 0) (da_cons (de_var 2) da_nil))))))) (dss_cons (ds_for po rfl (di_enum rfl T.b_enumerate (de_ix (hu1 hr) (de_var 0) de_int (fun _ _ => rfl))) (dg_tup rfl (dgs_cons (dg_name (i := 3) nd rfl (Or.inl rfl)) (dgs_cons (dg_name (i := 2) nd rfl (Or.inl rfl)) dgs_nil))) (dss_one (ds_asg (de_call C_code hr (by decide) rfl tk (da_cons (de_var 3) (da_cons (de_var 3) da_nil))) (dg_sub (hu1 hr) (de_var 1) (de_call C_spot_of hr (by decide) rfl tk (da_cons (de_var 0) (da_cons (de_var 2) da_nil))))))) (dss_one (ds_ret (de_ty dc_tuple rfl T.b_tuple (by decide +kernel) (da_cons (de_var 1) da_nil)))))))
theorem sc_begun : FnScope ["plan"] ["plan"] (defScope st_begun) := ⟨rfl, rfl, rfl, by decide +kernel, rfl, by decide +kernel, by decide +kernel⟩
theorem d_begun (T : Txt K w cn mg) (C_need_plan : CallOk P w K mg base cn "need_plan" 3 ["plan"] sp_need_plan) (C_first : CallOk P w K mg base cn "first" 2 ["plan"] sp_first) {f : Addr} {cdv : Value} {A : Around} {outer : List Env} {s : Shared} {H : LHp} {E : XK} (hr : Room 3 (A.deeper (envOfC "begun" (defScope st_begun) s.heap.objs.size f cdv))) :
    DSs (cxOf (L2.CX P w) P w K mg base ["plan"] "begun" (defScope st_begun) f cdv A outer s H E) cn (fun cls d _ H => E cls d H) (defBody st_begun) r_begun := by
  have nd : (cxOf (L2.CX P w) P w K mg base ["plan"] "begun" (defScope st_begun) f cdv A outer s H E).N.Nodup := sc_begun.nd
  have tk : Takes (cxOf (L2.CX P w) P w K mg base ["plan"] "begun" (defScope st_begun) f cdv A outer s H E) (fun cls d _ H => E cls d H) := takes_of rfl rfl rfl rfl
  exact (dss_cons (ds_expr (de_call C_need_plan hr (by decide) rfl tk (da_cons (de_var 0) da_nil))) (dss_one (ds_ret (de_call C_first hr (by decide) rfl tk (da_cons (de_var 0) da_nil)))))
theorem sc_place_of : FnScope ["cells", "seat", "number", "part"] ["cells", "seat"] (defScope st_place_of) := ⟨rfl, rfl, rfl, by decide +kernel, rfl, by decide +kernel, by decide +kernel⟩
theorem d_place_of (T : Txt K w cn mg) (C_mover_of : CallOk P w K mg base cn "mover_of" 1 ["number"] sp_mover_of) {f : Addr} {cdv : Value} {A : Around} {outer : List Env} {s : Shared} {H : LHp} {E : XK} (hr : Room 1 (A.deeper (envOfC "place_of" (defScope st_place_of) s.heap.objs.size f cdv))) :
    DSs (cxOf (L2.CX P w) P w K mg base ["cells", "seat", "number", "part"] "place_of" (defScope st_place_of) f cdv A outer s H E) cn (fun cls d _ H => E cls d H) (defBody st_place_of) r_place_of := by
  have nd : (cxOf (L2.CX P w) P w K mg base ["cells", "seat", "number", "part"] "place_of" (defScope st_place_of) f cdv A outer s H E).N.Nodup := sc_place_of.nd
  have tk : Takes (cxOf (L2.CX P w) P w K mg base ["cells", "seat", "number", "part"] "place_of" (defScope st_place_of) f cdv A outer s H E) (fun cls d _ H => E cls d H) := takes_of rfl rfl rfl rfl
  exact (dss_one (ds_ret (de_ix (hu1 hr) (de_lc (own := [(("number" : Str), 2), (("part" : Str), 3)]) (te := (eVar 2)) rfl nd (di_enum rfl T.b_enumerate (de_var 0)) (blkOk_by (N := ["cells", "seat", "number", "part"]) (sc := defScope st_place_of) (by decide +kernel)) (cg_two (i := 2) (j := 3) (by decide) (by decide)) (fun _ _ _ _ _ => pg_tup rfl (pgs_cons (pg_name (i := 2) nd rfl (Or.inl rfl)) (pgs_cons (pg_name (i := 3) nd rfl (Or.inl rfl)) pgs_nil))) (fun _ _ _ _ _ => (dts_one (dw_pt (dw_and (dt_cmp (db_ne (hu64 hr)) (de_var 3) (de_gc T.c_BLOCK rfl) (nomark _)) (dw_and1 (dt_cmp (db_eq (hu64 hr)) (de_call C_mover_of hr (by decide) rfl takes_no (da_cons (de_var 3) da_nil)) (de_var 1) (nomark _))))))) (fun _ _ _ _ _ => (de_var 2))) de_int (fun _ _ => rfl))))
theorem sc_beside : FnScope ["plan", "number", "way", "cell", "x", "y"] ["plan", "number", "way"] (defScope st_beside) := ⟨rfl, rfl, rfl, by decide +kernel, rfl, by decide +kernel, by decide +kernel⟩
theorem d_beside (T : Txt K w cn mg) (C_cell_of : CallOk P w K mg base cn "cell_of" 1 ["plan", "number"] sp_cell_of) (C_is_cell : CallOk P w K mg base cn "is_cell" 2 ["part", "wide", "high"] sp_is_cell) (C_spot_of : CallOk P w K mg base cn "spot_of" 1 ["plan", "cell"] sp_spot_of) {f : Addr} {cdv : Value} {A : Around} {outer : List Env} {s : Shared} {H : LHp} {E : XK} (hr : Room 2 (A.deeper (envOfC "beside" (defScope st_beside) s.heap.objs.size f cdv))) :
    DSs (cxOf (L2.CX P w) P w K mg base ["plan", "number", "way", "cell", "x", "y"] "beside" (defScope st_beside) f cdv A outer s H E) cn (fun cls d _ H => E cls d H) (defBody st_beside) r_beside := by
  have nd : (cxOf (L2.CX P w) P w K mg base ["plan", "number", "way", "cell", "x", "y"] "beside" (defScope st_beside) f cdv A outer s H E).N.Nodup := sc_beside.nd
  have tk : Takes (cxOf (L2.CX P w) P w K mg base ["plan", "number", "way", "cell", "x", "y"] "beside" (defScope st_beside) f cdv A outer s H E) (fun cls d _ H => E cls d H) := takes_of rfl rfl rfl rfl
  exact (dss_cons (ds_asg (de_call C_cell_of hr (by decide) rfl tk (da_cons (de_var 0) (da_cons (de_var 1) da_nil))) (dg_tup rfl (dgs_cons (dg_name (i := 4) nd rfl (Or.inl rfl)) (dgs_cons (dg_name (i := 5) nd rfl (Or.inl rfl)) dgs_nil)))) (dss_cons (ds_set (i := 3) nd rfl (Or.inl rfl) (de_tup (da_cons (de_bin db_add (de_var 4) (de_ix (hu1 hr) (de_ix (hu1 hr) (de_gc T.c_WAYS rfl) (de_var 2) (fun _ _ => rfl)) de_int (fun _ _ => rfl))) (da_cons (de_bin db_add (de_var 5) (de_ix (hu1 hr) (de_ix (hu1 hr) (de_gc T.c_WAYS rfl) (de_var 2) (fun _ _ => rfl)) de_int (fun _ _ => rfl))) da_nil)))) (dss_one (ds_ret (de_if (dt_val (de_call C_is_cell hr (by decide) rfl tk (da_cons (de_var 3) (da_cons (de_ix (hu1 hr) (de_var 0) de_int (fun _ _ => rfl)) (da_cons (de_ix (hu1 hr) (de_var 0) de_int (fun _ _ => rfl)) da_nil))))) (de_call C_spot_of hr (by decide) rfl tk (da_cons (de_var 0) (da_cons (de_var 3) da_nil))) de_non)))))
theorem sc_is_open : FnScope ["cells", "number"] ["cells", "number"] (defScope st_is_open) := ⟨rfl, rfl, rfl, by decide +kernel, rfl, by decide +kernel, by decide +kernel⟩
theorem d_is_open (T : Txt K w cn mg) (C_mover_of : CallOk P w K mg base cn "mover_of" 1 ["number"] sp_mover_of) {f : Addr} {cdv : Value} {A : Around} {outer : List Env} {s : Shared} {H : LHp} {E : XK} (hr : Room 1 (A.deeper (envOfC "is_open" (defScope st_is_open) s.heap.objs.size f cdv))) :
    DSs (cxOf (L2.CX P w) P w K mg base ["cells", "number"] "is_open" (defScope st_is_open) f cdv A outer s H E) cn (fun cls d _ H => E cls d H) (defBody st_is_open) r_is_open := by
  have nd : (cxOf (L2.CX P w) P w K mg base ["cells", "number"] "is_open" (defScope st_is_open) f cdv A outer s H E).N.Nodup := sc_is_open.nd
  have tk : Takes (cxOf (L2.CX P w) P w K mg base ["cells", "number"] "is_open" (defScope st_is_open) f cdv A outer s H E) (fun cls d _ H => E cls d H) := takes_of rfl rfl rfl rfl
  exact (dss_one (ds_ret (de_and (de_notN (de_var 1)) (de_and (de_cmp (db_ne (hu64 hr)) (de_ix (hu1 hr) (de_var 0) (de_var 1) (fun _ _ => rfl)) (de_gc T.c_BLOCK rfl) (nomark _)) (de_one (de_cmp db_lt (de_call C_mover_of hr (by decide) rfl tk (da_cons (de_ix (hu1 hr) (de_var 0) (de_var 1) (fun _ _ => rfl)) da_nil)) de_int (nomark _)))))))
theorem sc_step : FnScope ["plan", "cells", "seat", "way", "here", "there"] ["plan", "cells", "seat", "way"] (defScope st_step) := ⟨rfl, rfl, rfl, by decide +kernel, rfl, by decide +kernel, by decide +kernel⟩
theorem d_step (T : Txt K w cn mg) (C_place_of : CallOk P w K mg base cn "place_of" 2 ["cells", "seat"] sp_place_of) (C_beside : CallOk P w K mg base cn "beside" 3 ["plan", "number", "way"] sp_beside) (C_is_open : CallOk P w K mg base cn "is_open" 2 ["cells", "number"] sp_is_open) (C_owner_of : CallOk P w K mg base cn "owner_of" 1 ["number"] sp_owner_of) (C_code : CallOk P w K mg base cn "code" 1 ["owner", "mover"] sp_code) {f : Addr} {cdv : Value} {A : Around} {outer : List Env} {s : Shared} {H : LHp} {E : XK} (hr : Room 3 (A.deeper (envOfC "step" (defScope st_step) s.heap.objs.size f cdv))) :
    DSs (cxOf (L2.CX P w) P w K mg base ["plan", "cells", "seat", "way", "here", "there"] "step" (defScope st_step) f cdv A outer s H E) cn (fun cls d _ H => E cls d H) (defBody st_step) r_step := by
  have nd : (cxOf (L2.CX P w) P w K mg base ["plan", "cells", "seat", "way", "here", "there"] "step" (defScope st_step) f cdv A outer s H E).N.Nodup := sc_step.nd
  have tk : Takes (cxOf (L2.CX P w) P w K mg base ["plan", "cells", "seat", "way", "here", "there"] "step" (defScope st_step) f cdv A outer s H E) (fun cls d _ H => E cls d H) := takes_of rfl rfl rfl rfl
  exact (dss_cons (ds_set (i := 4) nd rfl (Or.inl rfl) (de_call C_place_of hr (by decide) rfl tk (da_cons (de_var 1) (da_cons (de_var 2) da_nil)))) (dss_cons (ds_set (i := 5) nd rfl (Or.inl rfl) (de_call C_beside hr (by decide) rfl tk (da_cons (de_var 0) (da_cons (de_var 4) (da_cons (de_var 3) da_nil))))) (dss_one (ds_if (dt_val (de_call C_is_open hr (by decide) rfl tk (da_cons (de_var 1) (da_cons (de_var 5) da_nil)))) (dss_cons (ds_asg (de_call C_code hr (by decide) rfl tk (da_cons (de_call C_owner_of hr (by decide) rfl tk (da_cons (de_ix (hu1 hr) (de_var 1) (de_var 4) (fun _ _ => rfl)) da_nil)) (da_cons (de_neg de_int) da_nil))) (dg_sub (hu1 hr) (de_var 1) (de_var 4))) (dss_one (ds_asg (de_call C_code hr (by decide) rfl tk (da_cons (de_var 2) (da_cons (de_var 2) da_nil))) (dg_sub (hu1 hr) (de_var 1) (de_var 5))))) dss_nil))))
theorem sc_mark : FnScope ["plan", "cells", "seat", "here", "way", "there"] ["plan", "cells", "seat"] (defScope st_mark) := ⟨rfl, rfl, rfl, by decide +kernel, rfl, by decide +kernel, by decide +kernel⟩
theorem d_mark (T : Txt K w cn mg) (C_place_of : CallOk P w K mg base cn "place_of" 2 ["cells", "seat"] sp_place_of) (C_beside : CallOk P w K mg base cn "beside" 3 ["plan", "number", "way"] sp_beside) (C_is_open : CallOk P w K mg base cn "is_open" 2 ["cells", "number"] sp_is_open) (C_code : CallOk P w K mg base cn "code" 1 ["owner", "mover"] sp_code) {f : Addr} {cdv : Value} {A : Around} {outer : List Env} {s : Shared} {H : LHp} {E : XK} (hr : Room 3 (A.deeper (envOfC "mark" (defScope st_mark) s.heap.objs.size f cdv))) :
    DSs (cxOf (L2.CX P w) P w K mg base ["plan", "cells", "seat", "here", "way", "there"] "mark" (defScope st_mark) f cdv A outer s H E) cn (fun cls d _ H => E cls d H) (defBody st_mark) r_mark := by
  have nd : (cxOf (L2.CX P w) P w K mg base ["plan", "cells", "seat", "here", "way", "there"] "mark" (defScope st_mark) f cdv A outer s H E).N.Nodup := sc_mark.nd
  have tk : Takes (cxOf (L2.CX P w) P w K mg base ["plan", "cells", "seat", "here", "way", "there"] "mark" (defScope st_mark) f cdv A outer s H E) (fun cls d _ H => E cls d H) := takes_of rfl rfl rfl rfl
  have po := passes_of (X := cxOf (L2.CX P w) P w K mg base ["plan", "cells", "seat", "here", "way", "there"] "mark" (defScope st_mark) f cdv A outer s H E) rfl
  exact (dss_cons (ds_set (i := 3) nd rfl (Or.inl rfl) (de_call C_place_of hr (by decide) rfl tk (da_cons (de_var 1) (da_cons (de_var 2) da_nil)))) (dss_one (ds_for po rfl (di_seq (de_gc T.c_WAYS rfl)) (dg_name (i := 4) nd rfl (Or.inl rfl)) (dss_cons (ds_set (i := 5) nd rfl (Or.inl rfl) (de_call C_beside hr (by decide) rfl tk (da_cons (de_var 0) (da_cons (de_var 3) (da_cons (de_var 4) da_nil))))) (dss_one (ds_if (dt_val (de_call C_is_open hr (by decide) rfl tk (da_cons (de_var 1) (da_cons (de_var 5) da_nil)))) (dss_one (ds_asg (de_call C_code hr (by decide) rfl tk (da_cons (de_var 2) (da_cons (de_neg de_int) da_nil))) (dg_sub (hu1 hr) (de_var 1) (de_var 5)))) dss_nil))))))
theorem sc_gone_on : FnScope ["plan", "picture", "tick", "hands", "turn", "cells", "many", "seat"] ["plan", "picture", "tick", "hands"] (defScope st_gone_on) := ⟨rfl, rfl, rfl, by decide +kernel, rfl, by decide +kernel, by decide +kernel⟩
theorem d_gone_on (T : Txt K w cn mg) (C_many_of : CallOk P w K mg base cn "many_of" 1 ["plan"] sp_many_of) (C_mark : CallOk P w K mg base cn "mark" 4 ["plan", "cells", "seat"] sp_mark) (C_step : CallOk P w K mg base cn "step" 4 ["plan", "cells", "seat", "way"] sp_step) {f : Addr} {cdv : Value} {A : Around} {outer : List Env} {s : Shared} {H : LHp} {E : XK} (hr : Room 4 (A.deeper (envOfC "gone_on" (defScope st_gone_on) s.heap.objs.size f cdv))) :
    DSs (cxOf (L2.CX P w) P w K mg base ["plan", "picture", "tick", "hands", "turn", "cells", "many", "seat"] "gone_on" (defScope st_gone_on) f cdv A outer s H E) cn (fun cls d _ H => E cls d H) (defBody st_gone_on) r_gone_on := by
  have nd : (cxOf (L2.CX P w) P w K mg base ["plan", "picture", "tick", "hands", "turn", "cells", "many", "seat"] "gone_on" (defScope st_gone_on) f cdv A outer s H E).N.Nodup := sc_gone_on.nd
  have tk : Takes (cxOf (L2.CX P w) P w K mg base ["plan", "picture", "tick", "hands", "turn", "cells", "many", "seat"] "gone_on" (defScope st_gone_on) f cdv A outer s H E) (fun cls d _ H => E cls d H) := takes_of rfl rfl rfl rfl
  have po := passes_of (X := cxOf (L2.CX P w) P w K mg base ["plan", "picture", "tick", "hands", "turn", "cells", "many", "seat"] "gone_on" (defScope st_gone_on) f cdv A outer s H E) rfl
  exact (dss_cons (ds_par (i := 5) (j := 6) rfl nd rfl rfl (by decide) rfl rfl (da_cons (de_ty dc_list rfl T.b_list (by decide +kernel) (da_cons (de_var 1) da_nil)) (da_cons (de_call C_many_of hr (by decide) rfl tk (da_cons (de_var 0) da_nil)) da_nil))) (dss_cons (ds_for po rfl (di_rng1 rfl T.b_range (de_var 6)) (dg_name (i := 4) nd rfl (Or.inl rfl)) (dss_cons (ds_set (i := 7) nd rfl (Or.inl rfl) (de_bin db_mod (de_bin db_add (de_var 2) (de_var 4)) (de_var 6))) (dss_one (ds_if (dt_cmp (db_eq (hu64 hr)) (de_ix (hu1 hr) (de_var 3) (de_var 7) (fun _ _ => rfl)) (de_gc T.c_MARK rfl) (nomark _)) (dss_one (ds_expr (de_call C_mark hr (by decide) rfl tk (da_cons (de_var 0) (da_cons (de_var 5) (da_cons (de_var 7) da_nil)))))) (dss_one (ds_if (dt_cmp (db_in (hu70 hr)) (de_ix (hu1 hr) (de_var 3) (de_var 7) (fun _ _ => rfl)) (de_gc T.c_WAYS rfl) rfl) (dss_one (ds_expr (de_call C_step hr (by decide) rfl tk (da_cons (de_var 0) (da_cons (de_var 5) (da_cons (de_var 7) (da_cons (de_ix (hu1 hr) (de_var 3) (de_var 7) (fun _ _ => rfl)) da_nil))))))) dss_nil)))))) (dss_one (ds_ret (de_ty dc_tuple rfl T.b_tuple (by decide +kernel) (da_cons (de_var 5) da_nil))))))
theorem sc_need_hands : FnScope ["plan", "hands", "hand"] ["plan", "hands"] (defScope st_need_hands) := ⟨rfl, rfl, rfl, by decide +kernel, rfl, by decide +kernel, by decide +kernel⟩
theorem d_need_hands (T : Txt K w cn mg) (C_many_of : CallOk P w K mg base cn "many_of" 1 ["plan"] sp_many_of) (C_need_hand : CallOk P w K mg base cn "need_hand" 1 ["hand"] sp_need_hand) {f : Addr} {cdv : Value} {A : Around} {outer : List Env} {s : Shared} {H : LHp} {E : XK} (hr : Room 1 (A.deeper (envOfC "need_hands" (defScope st_need_hands) s.heap.objs.size f cdv))) :
    DSs (cxOf (L2.CX P w) P w K mg base ["plan", "hands", "hand"] "need_hands" (defScope st_need_hands) f cdv A outer s H E) cn (fun cls d _ H => E cls d H) (defBody st_need_hands) r_need_hands := by
  have nd : (cxOf (L2.CX P w) P w K mg base ["plan", "hands", "hand"] "need_hands" (defScope st_need_hands) f cdv A outer s H E).N.Nodup := sc_need_hands.nd
  have tk : Takes (cxOf (L2.CX P w) P w K mg base ["plan", "hands", "hand"] "need_hands" (defScope st_need_hands) f cdv A outer s H E) (fun cls d _ H => E cls d H) := takes_of rfl rfl rfl rfl
  have po := passes_of (X := cxOf (L2.CX P w) P w K mg base ["plan", "hands", "hand"] "need_hands" (defScope st_need_hands) f cdv A outer s H E) rfl
  exact (dss_cons (ds_if (dw_pt (dw_or (dt_not (dt_val (de_isA (n := "tuple") .tuple (de_var 1) rfl T.b_isinstance rfl T.b_tuple (by decide +kernel)))) (dw_or1 (dt_cmp (db_ne (hu64 hr)) (de_cb (dc_len) rfl T.b_len (by decide +kernel) (da_cons (de_var 1) da_nil)) (de_call C_many_of hr (by decide) rfl tk (da_cons (de_var 0) da_nil)) (nomark _))))) (dss_one ds_never) dss_nil) (dss_one (ds_for po rfl (di_seq (de_var 1)) (dg_name (i := 2) nd rfl (Or.inl rfl)) (dss_one (ds_expr (de_call C_need_hand hr (by decide) rfl tk (da_cons (de_var 2) da_nil)))))))
theorem sc_after : FnScope ["plan", "picture", "tick", "hands"] ["plan", "picture", "tick", "hands"] (defScope st_after) := ⟨rfl, rfl, rfl, by decide +kernel, rfl, by decide +kernel, by decide +kernel⟩
theorem d_after (T : Txt K w cn mg) (C_need_plan : CallOk P w K mg base cn "need_plan" 3 ["plan"] sp_need_plan) (C_need_picture : CallOk P w K mg base cn "need_picture" 3 ["plan", "picture"] sp_need_picture) (C_need_count : CallOk P w K mg base cn "need_count" 2 ["part", "low", "high"] sp_need_count) (C_need_hands : CallOk P w K mg base cn "need_hands" 2 ["plan", "hands"] sp_need_hands) (C_gone_on : CallOk P w K mg base cn "gone_on" 5 ["plan", "picture", "tick", "hands"] sp_gone_on) {f : Addr} {cdv : Value} {A : Around} {outer : List Env} {s : Shared} {H : LHp} {E : XK} (hr : Room 5 (A.deeper (envOfC "after" (defScope st_after) s.heap.objs.size f cdv))) :
    DSs (cxOf (L2.CX P w) P w K mg base ["plan", "picture", "tick", "hands"] "after" (defScope st_after) f cdv A outer s H E) cn (fun cls d _ H => E cls d H) (defBody st_after) r_after := by
  have nd : (cxOf (L2.CX P w) P w K mg base ["plan", "picture", "tick", "hands"] "after" (defScope st_after) f cdv A outer s H E).N.Nodup := sc_after.nd
  have tk : Takes (cxOf (L2.CX P w) P w K mg base ["plan", "picture", "tick", "hands"] "after" (defScope st_after) f cdv A outer s H E) (fun cls d _ H => E cls d H) := takes_of rfl rfl rfl rfl
  exact (dss_cons (ds_expr (de_call C_need_plan hr (by decide) rfl tk (da_cons (de_var 0) da_nil))) (dss_cons (ds_expr (de_call C_need_picture hr (by decide) rfl tk (da_cons (de_var 0) (da_cons (de_var 1) da_nil)))) (dss_cons (ds_expr (de_call C_need_count hr (by decide) rfl tk (da_cons (de_var 2) (da_cons de_int (da_cons (de_gc T.c_MOST_TICK rfl) da_nil))))) (dss_cons (ds_expr (de_call C_need_hands hr (by decide) rfl tk (da_cons (de_var 0) (da_cons (de_var 3) da_nil)))) (dss_one (ds_ret (de_call C_gone_on hr (by decide) rfl tk (da_cons (de_var 0) (da_cons (de_var 1) (da_cons (de_var 2) (da_cons (de_var 3) da_nil)))))))))))
theorem sc_points : FnScope ["plan", "picture", "some", "part", "seat"] ["plan", "picture"] (defScope st_points) := ⟨rfl, rfl, rfl, by decide +kernel, rfl, by decide +kernel, by decide +kernel⟩
theorem d_points (T : Txt K w cn mg) (C_need_plan : CallOk P w K mg base cn "need_plan" 3 ["plan"] sp_need_plan) (C_need_picture : CallOk P w K mg base cn "need_picture" 3 ["plan", "picture"] sp_need_picture) (C_owner_of : CallOk P w K mg base cn "owner_of" 1 ["number"] sp_owner_of) (C_many_of : CallOk P w K mg base cn "many_of" 1 ["plan"] sp_many_of) {f : Addr} {cdv : Value} {A : Around} {outer : List Env} {s : Shared} {H : LHp} {E : XK} (hr : Room 3 (A.deeper (envOfC "points" (defScope st_points) s.heap.objs.size f cdv))) :
    DSs (cxOf (L2.CX P w) P w K mg base ["plan", "picture", "some", "part", "seat"] "points" (defScope st_points) f cdv A outer s H E) cn (fun cls d _ H => E cls d H) (defBody st_points) r_points := by
  have nd : (cxOf (L2.CX P w) P w K mg base ["plan", "picture", "some", "part", "seat"] "points" (defScope st_points) f cdv A outer s H E).N.Nodup := sc_points.nd
  have tk : Takes (cxOf (L2.CX P w) P w K mg base ["plan", "picture", "some", "part", "seat"] "points" (defScope st_points) f cdv A outer s H E) (fun cls d _ H => E cls d H) := takes_of rfl rfl rfl rfl
  exact (dss_cons (ds_expr (de_call C_need_plan hr (by decide) rfl tk (da_cons (de_var 0) da_nil))) (dss_cons (ds_expr (de_call C_need_picture hr (by decide) rfl tk (da_cons (de_var 0) (da_cons (de_var 1) da_nil)))) (dss_cons (ds_set (i := 2) nd rfl (Or.inr rfl) (de_lc (own := [(("part" : Str), 3)]) (te := (eCall sp_owner_of (aCons (eVar 3) aNil))) rfl nd (di_seq (de_var 1)) (blkOk_by (N := ["plan", "picture", "some", "part", "seat"]) (sc := defScope st_points) (by decide +kernel)) (cg_name (j := 3) (by decide)) (fun _ _ _ _ _ => pg_name (i := 3) nd rfl (Or.inl rfl)) (fun _ _ _ _ _ => (dts_one (dt_cmp (db_ne (hu64 hr)) (de_var 3) (de_gc T.c_BLOCK rfl) (nomark _)))) (fun _ _ _ _ _ => (de_call C_owner_of hr (by decide) rfl takes_no (da_cons (de_var 3) da_nil))))) (dss_one (ds_ret (de_ty dc_tuple rfl T.b_tuple (by decide +kernel) (da_cons (de_lc (own := [(("seat" : Str), 4)]) (te := (eBM rCount (eVar 2) (aCons (eVar 4) aNil))) rfl nd (di_rng1 rfl T.b_range (de_call C_many_of hr (by decide) rfl tk (da_cons (de_var 0) da_nil))) (blkOk_by (N := ["plan", "picture", "some", "part", "seat"]) (sc := defScope st_points) (by decide +kernel)) (cg_name (j := 4) (by decide)) (fun _ _ _ _ _ => pg_name (i := 4) nd rfl (Or.inl rfl)) (fun _ _ _ _ _ => dts_nil) (fun _ _ _ _ _ => (de_bm PySem.F.plainAttrs_list PySem.F.slot_list_count PySem.F.type_list_count dm_count (de_var 2) (da_cons (de_var 4) da_nil)))) da_nil)))))))
theorem sc_law_begun : FnScope ["_law_script", "_law_stirred", "_law_cell"] ["_law_script"] (defScope st_law_begun) := ⟨rfl, rfl, rfl, by decide +kernel, rfl, by decide +kernel, by decide +kernel⟩
theorem d_law_begun (T : Txt K w cn mg)  {f : Addr} {cdv : Value} {A : Around} {outer : List Env} {s : Shared} {H : LHp} {E : XK} (hr : Room 0 (A.deeper (envOfC "_law_begun" (defScope st_law_begun) s.heap.objs.size f cdv))) :
    DSs (cxOf (L2.CX P w) P w K mg base ["_law_script", "_law_stirred", "_law_cell"] "_law_begun" (defScope st_law_begun) f cdv A outer s H E) cn (fun cls d _ H => E cls d H) (defBody st_law_begun) r_law_begun := by
  have nd : (cxOf (L2.CX P w) P w K mg base ["_law_script", "_law_stirred", "_law_cell"] "_law_begun" (defScope st_law_begun) f cdv A outer s H E).N.Nodup := sc_law_begun.nd
  have tk : Takes (cxOf (L2.CX P w) P w K mg base ["_law_script", "_law_stirred", "_law_cell"] "_law_begun" (defScope st_law_begun) f cdv A outer s H E) (fun cls d _ H => E cls d H) := takes_of rfl rfl rfl rfl
  have po := passes_of (X := cxOf (L2.CX P w) P w K mg base ["_law_script", "_law_stirred", "_law_cell"] "_law_begun" (defScope st_law_begun) f cdv A outer s H E) rfl
  exact (dss_cons (ds_set (i := 1) nd rfl (Or.inl rfl) de_int) (dss_cons (ds_for po rfl (di_seq (de_var 0)) (dg_name (i := 2) nd rfl (Or.inl rfl)) (dss_one (ds_set (i := 1) nd rfl (Or.inl rfl) (de_bin db_mod (de_bin db_add (de_bin db_add (de_bin db_mul (de_var 1) de_int) (de_bin db_mul (de_var 2) de_int)) de_int) de_int)))) (dss_one (ds_ret (de_lst (da_cons (de_ty dc_list rfl T.b_list (by decide +kernel) (da_cons (de_var 0) da_nil)) (da_cons (de_bin db_mul (de_var 1) (de_ty dc_int rfl T.b_int (by decide +kernel) (da_cons (de_cmp db_gt (de_cb (dc_len) rfl T.b_len (by decide +kernel) (da_cons (de_var 0) da_nil)) de_int (nomark _)) da_nil))) da_nil)))))))
theorem sc_law_take : FnScope ["_law_box", "_law_many", "_law_drawn"] ["_law_box", "_law_many"] (defScope st_law_take) := ⟨rfl, rfl, rfl, by decide +kernel, rfl, by decide +kernel, by decide +kernel⟩
theorem d_law_take (T : Txt K w cn mg)  {f : Addr} {cdv : Value} {A : Around} {outer : List Env} {s : Shared} {H : LHp} {E : XK} (hr : Room 0 (A.deeper (envOfC "_law_take" (defScope st_law_take) s.heap.objs.size f cdv))) :
    DSs (cxOf (L2.CX P w) P w K mg base ["_law_box", "_law_many", "_law_drawn"] "_law_take" (defScope st_law_take) f cdv A outer s H E) cn (fun cls d _ H => E cls d H) (defBody st_law_take) r_law_take := by
  have nd : (cxOf (L2.CX P w) P w K mg base ["_law_box", "_law_many", "_law_drawn"] "_law_take" (defScope st_law_take) f cdv A outer s H E).N.Nodup := sc_law_take.nd
  have tk : Takes (cxOf (L2.CX P w) P w K mg base ["_law_box", "_law_many", "_law_drawn"] "_law_take" (defScope st_law_take) f cdv A outer s H E) (fun cls d _ H => E cls d H) := takes_of rfl rfl rfl rfl
  exact (dss_cons (ds_if (dt_cmp (db_eq (hu64 hr)) (de_ix (hu1 hr) (de_var 0) de_int (fun _ _ => rfl)) (de_lst da_nil) (nomark _)) (dss_cons (ds_asg (de_bin db_mod (de_bin db_mul (de_ix (hu1 hr) (de_var 0) de_int (fun _ _ => rfl)) de_int) de_int) (dg_sub (hu1 hr) (de_var 0) de_int)) (dss_one (ds_ret (de_bin db_mod (de_bin db_div (de_ix (hu1 hr) (de_var 0) de_int (fun _ _ => rfl)) de_int) (de_var 1))))) dss_nil) (dss_cons (ds_set (i := 2) nd rfl (Or.inl rfl) (de_ix (hu1 hr) (de_ix (hu1 hr) (de_var 0) de_int (fun _ _ => rfl)) de_int (fun _ _ => rfl))) (dss_cons (ds_asg (de_bin db_div (de_var 2) (de_var 1)) (dg_sub (hu1 hr) (de_ix (hu1 hr) (de_var 0) de_int (fun _ _ => rfl)) de_int)) (dss_cons (ds_if (dw_pt (dw_or (dt_cmp (db_eq (hu64 hr)) (de_ix (hu1 hr) (de_ix (hu1 hr) (de_var 0) de_int (fun _ _ => rfl)) de_int (fun _ _ => rfl)) de_int (nomark _)) (dw_or1 (dt_cmp (db_eq (hu64 hr)) (de_ix (hu1 hr) (de_ix (hu1 hr) (de_var 0) de_int (fun _ _ => rfl)) de_int (fun _ _ => rfl)) (de_neg de_int) (nomark _))))) (dss_one (ds_expr (de_bm PySem.F.plainAttrs_list PySem.F.slot_list_pop PySem.F.type_list_pop dm_popAt (de_ix (hu1 hr) (de_var 0) de_int (fun _ _ => rfl)) (da_cons de_int da_nil)))) dss_nil) (dss_one (ds_ret (de_bin db_mod (de_var 2) (de_var 1))))))))
theorem sc_law_alike : FnScope ["_law_found", "_law_due", "_law_k"] ["_law_found", "_law_due"] (defScope st_law_alike) := ⟨rfl, rfl, rfl, by decide +kernel, rfl, by decide +kernel, by decide +kernel⟩
theorem d_law_alike (T : Txt K w cn mg) {kR : Nat} {spR : Sp} (C_law_alike : CallOk P w K mg base cn "_law_alike" kR ["_law_found", "_law_due"] spR) {f : Addr} {cdv : Value} {A : Around} {outer : List Env} {s : Shared} {H : LHp} {E : XK} (hr : Room kR (A.deeper (envOfC "_law_alike" (defScope st_law_alike) s.heap.objs.size f cdv))) :
    DSs (cxOf (L2.CX P w) P w K mg base ["_law_found", "_law_due", "_law_k"] "_law_alike" (defScope st_law_alike) f cdv A outer s H E) cn (fun cls d _ H => E cls d H) (defBody st_law_alike) (r_law_alike spR) := by
  have nd : (cxOf (L2.CX P w) P w K mg base ["_law_found", "_law_due", "_law_k"] "_law_alike" (defScope st_law_alike) f cdv A outer s H E).N.Nodup := sc_law_alike.nd
  have tk : Takes (cxOf (L2.CX P w) P w K mg base ["_law_found", "_law_due", "_law_k"] "_law_alike" (defScope st_law_alike) f cdv A outer s H E) (fun cls d _ H => E cls d H) := takes_of rfl rfl rfl rfl
  have po := passes_of (X := cxOf (L2.CX P w) P w K mg base ["_law_found", "_law_due", "_law_k"] "_law_alike" (defScope st_law_alike) f cdv A outer s H E) rfl
  exact (dss_cons (ds_if (dt_isN (de_var 1)) (dss_one (ds_ret (de_isN (de_var 0)))) dss_nil) (dss_cons (ds_if (dt_val (de_isA (n := "bool") .bool (de_var 1) rfl T.b_isinstance rfl T.b_bool (by decide +kernel))) (dss_one (ds_ret (de_and (de_isA (n := "bool") .bool (de_var 0) rfl T.b_isinstance rfl T.b_bool (by decide +kernel)) (de_one (de_cmp (db_eq (hu64 hr)) (de_var 0) (de_var 1) (nomark _)))))) dss_nil) (dss_cons (ds_if (dt_val (de_isA (n := "int") .int (de_var 1) rfl T.b_isinstance rfl T.b_int (by decide +kernel))) (dss_one (ds_ret (de_and (de_isA (n := "int") .int (de_var 0) rfl T.b_isinstance rfl T.b_int (by decide +kernel)) (de_and (de_not (de_isA (n := "bool") .bool (de_var 0) rfl T.b_isinstance rfl T.b_bool (by decide +kernel))) (de_one (de_cmp (db_eq (hu64 hr)) (de_var 0) (de_var 1) (nomark _))))))) dss_nil) (dss_cons (ds_if (dt_val (de_isA (n := "str") .str (de_var 1) rfl T.b_isinstance rfl T.b_str (by decide +kernel))) (dss_one (ds_ret (de_and (de_isA (n := "str") .str (de_var 0) rfl T.b_isinstance rfl T.b_str (by decide +kernel)) (de_one (de_cmp (db_eq (hu64 hr)) (de_var 0) (de_var 1) (nomark _)))))) dss_nil) (dss_cons (ds_if (dw_pt (dw_or (dt_cmp (db_ne (hu64 hr)) (de_isA (n := "tuple") .tuple (de_var 1) rfl T.b_isinstance rfl T.b_tuple (by decide +kernel)) (de_isA (n := "tuple") .tuple (de_var 0) rfl T.b_isinstance rfl T.b_tuple (by decide +kernel)) (nomark _)) (dw_or1 (dt_cmp (db_ne (hu64 hr)) (de_isA (n := "list") .list (de_var 1) rfl T.b_isinstance rfl T.b_list (by decide +kernel)) (de_isA (n := "list") .list (de_var 0) rfl T.b_isinstance rfl T.b_list (by decide +kernel)) (nomark _))))) (dss_one (ds_ret de_bl)) dss_nil) (dss_cons (ds_if (dt_cmp (db_ne (hu64 hr)) (de_cb (dc_len) rfl T.b_len (by decide +kernel) (da_cons (de_var 0) da_nil)) (de_cb (dc_len) rfl T.b_len (by decide +kernel) (da_cons (de_var 1) da_nil)) (nomark _)) (dss_one (ds_ret de_bl)) dss_nil) (dss_cons (ds_for po rfl (di_rng1 rfl T.b_range (de_cb (dc_len) rfl T.b_len (by decide +kernel) (da_cons (de_var 1) da_nil))) (dg_name (i := 2) nd rfl (Or.inl rfl)) (dss_one (ds_if (dt_not (dt_val (de_call C_law_alike hr (Nat.le_refl _) rfl tk (da_cons (de_ix (hu1 hr) (de_var 0) (de_var 2) (fun _ _ => rfl)) (da_cons (de_ix (hu1 hr) (de_var 1) (de_var 2) (fun _ _ => rfl)) da_nil))))) (dss_one (ds_ret de_bl)) dss_nil))) (dss_one (ds_ret de_bl)))))))))
theorem sc_law_plan : FnScope ["_law_box", "_law_cells", "_law_starts", "_law_seat", "_law_blocks", "_law_turn", "_law_wide", "_law_high", "_law_k"] ["_law_box"] (defScope st_law_plan) := ⟨rfl, rfl, rfl, by decide +kernel, rfl, by decide +kernel, by decide +kernel⟩
theorem d_law_plan (T : Txt K w cn mg) (C_law_take : CallOk P w K mg base cn "_law_take" 1 ["_law_box", "_law_many"] sp_law_take) {f : Addr} {cdv : Value} {A : Around} {outer : List Env} {s : Shared} {H : LHp} {E : XK} (hr : Room 1 (A.deeper (envOfC "_law_plan" (defScope st_law_plan) s.heap.objs.size f cdv))) :
    DSs (cxOf (L2.CX P w) P w K mg base ["_law_box", "_law_cells", "_law_starts", "_law_seat", "_law_blocks", "_law_turn", "_law_wide", "_law_high", "_law_k"] "_law_plan" (defScope st_law_plan) f cdv A outer s H E) cn (fun cls d _ H => E cls d H) (defBody st_law_plan) r_law_plan := by
  have nd : (cxOf (L2.CX P w) P w K mg base ["_law_box", "_law_cells", "_law_starts", "_law_seat", "_law_blocks", "_law_turn", "_law_wide", "_law_high", "_law_k"] "_law_plan" (defScope st_law_plan) f cdv A outer s H E).N.Nodup := sc_law_plan.nd
  have tk : Takes (cxOf (L2.CX P w) P w K mg base ["_law_box", "_law_cells", "_law_starts", "_law_seat", "_law_blocks", "_law_turn", "_law_wide", "_law_high", "_law_k"] "_law_plan" (defScope st_law_plan) f cdv A outer s H E) (fun cls d _ H => E cls d H) := takes_of rfl rfl rfl rfl
  have po := passes_of (X := cxOf (L2.CX P w) P w K mg base ["_law_box", "_law_cells", "_law_starts", "_law_seat", "_law_blocks", "_law_turn", "_law_wide", "_law_high", "_law_k"] "_law_plan" (defScope st_law_plan) f cdv A outer s H E) rfl
  exact (dss_cons (ds_asg (de_tup (da_cons (de_bin db_add de_int (de_call C_law_take hr (by decide) rfl tk (da_cons (de_var 0) (da_cons de_int da_nil)))) (da_cons (de_bin db_add de_int (de_call C_law_take hr (by decide) rfl tk (da_cons (de_var 0) (da_cons de_int da_nil)))) da_nil))) (dg_tup rfl (dgs_cons (dg_name (i := 6) nd rfl (Or.inr rfl)) (dgs_cons (dg_name (i := 7) nd rfl (Or.inl rfl)) dgs_nil)))) (dss_cons (ds_setLc (i := 1) (own := [(("_law_k" : Str), 8)]) (te := (eTup (aCons (eBin rMod (eVar 8) (eVar 6)) (aCons (eBin rDiv (eVar 8) (eVar 6)) aNil)))) rfl nd rfl rfl (sw_true rfl rfl rfl (by decide +kernel)) (di_rng1 rfl T.b_range (de_bin db_mul (de_var 6) (de_var 7))) (blkOk_by (N := ["_law_box", "_law_cells", "_law_starts", "_law_seat", "_law_blocks", "_law_turn", "_law_wide", "_law_high", "_law_k"]) (sc := defScope st_law_plan) (by decide +kernel)) (cg_name (j := 8) (by decide)) (fun _ _ _ _ _ => pg_name (i := 8) nd rfl (Or.inl rfl)) (fun _ _ _ _ _ => dts_nil) (fun _ _ _ _ _ => (de_tup (da_cons (de_bin db_mod (de_var 8) (de_var 6)) (da_cons (de_bin db_div (de_var 8) (de_var 6)) da_nil))))) (dss_cons (ds_set (i := 2) nd rfl (Or.inl rfl) (de_lst da_nil)) (dss_cons (ds_for po rfl (di_rng1 rfl T.b_range (de_bin db_add de_int (de_call C_law_take hr (by decide) rfl tk (da_cons (de_var 0) (da_cons (de_ix (hu1 hr) (de_lst (da_cons de_int (da_cons de_int da_nil))) (de_call C_law_take hr (by decide) rfl tk (da_cons (de_var 0) (da_cons de_int da_nil))) (fun _ _ => rfl)) da_nil))))) (dg_name (i := 3) nd rfl (Or.inl rfl)) (dss_one (ds_expr (de_bm PySem.F.plainAttrs_list PySem.F.slot_list_append PySem.F.type_list_append dm_append (de_var 2) (da_cons (de_bm PySem.F.plainAttrs_list PySem.F.slot_list_pop PySem.F.type_list_pop dm_popAt (de_var 1) (da_cons (de_call C_law_take hr (by decide) rfl tk (da_cons (de_var 0) (da_cons (de_cb (dc_len) rfl T.b_len (by decide +kernel) (da_cons (de_var 1) da_nil)) da_nil))) da_nil)) da_nil))))) (dss_cons (ds_set (i := 4) nd rfl (Or.inl rfl) (de_lst da_nil)) (dss_cons (ds_for po rfl (di_rng1 rfl T.b_range (de_call C_law_take hr (by decide) rfl tk (da_cons (de_var 0) (da_cons de_int da_nil)))) (dg_name (i := 5) nd rfl (Or.inl rfl)) (dss_one (ds_if (dt_cmp db_gt (de_cb (dc_len) rfl T.b_len (by decide +kernel) (da_cons (de_var 1) da_nil)) de_int (nomark _)) (dss_one (ds_expr (de_bm PySem.F.plainAttrs_list PySem.F.slot_list_append PySem.F.type_list_append dm_append (de_var 4) (da_cons (de_bm PySem.F.plainAttrs_list PySem.F.slot_list_pop PySem.F.type_list_pop dm_popAt (de_var 1) (da_cons (de_call C_law_take hr (by decide) rfl tk (da_cons (de_var 0) (da_cons (de_cb (dc_len) rfl T.b_len (by decide +kernel) (da_cons (de_var 1) da_nil)) da_nil))) da_nil)) da_nil)))) dss_nil))) (dss_one (ds_ret (de_tup (da_cons (de_var 6) (da_cons (de_var 7) (da_cons (de_ty dc_tuple rfl T.b_tuple (by decide +kernel) (da_cons (de_var 2) da_nil)) (da_cons (de_ty dc_tuple rfl T.b_tuple (by decide +kernel) (da_cons (de_var 4) da_nil)) da_nil)))))))))))))
theorem sc_law_hand : FnScope ["_law_box"] ["_law_box"] (defScope st_law_hand) := ⟨rfl, rfl, rfl, by decide +kernel, rfl, by decide +kernel, by decide +kernel⟩
theorem d_law_hand (T : Txt K w cn mg) (C_law_take : CallOk P w K mg base cn "_law_take" 1 ["_law_box", "_law_many"] sp_law_take) {f : Addr} {cdv : Value} {A : Around} {outer : List Env} {s : Shared} {H : LHp} {E : XK} (hr : Room 1 (A.deeper (envOfC "_law_hand" (defScope st_law_hand) s.heap.objs.size f cdv))) :
    DSs (cxOf (L2.CX P w) P w K mg base ["_law_box"] "_law_hand" (defScope st_law_hand) f cdv A outer s H E) cn (fun cls d _ H => E cls d H) (defBody st_law_hand) r_law_hand := by
  have nd : (cxOf (L2.CX P w) P w K mg base ["_law_box"] "_law_hand" (defScope st_law_hand) f cdv A outer s H E).N.Nodup := sc_law_hand.nd
  have tk : Takes (cxOf (L2.CX P w) P w K mg base ["_law_box"] "_law_hand" (defScope st_law_hand) f cdv A outer s H E) (fun cls d _ H => E cls d H) := takes_of rfl rfl rfl rfl
  exact (dss_one (ds_ret (de_ix (hu1 hr) (de_lst (da_cons de_str (da_cons de_str (da_cons de_str (da_cons de_str (da_cons de_str (da_cons de_str da_nil))))))) (de_call C_law_take hr (by decide) rfl tk (da_cons (de_var 0) (da_cons de_int da_nil))) (fun _ _ => rfl))))
theorem sc_law_first : FnScope ["_law_plan_here", "_law_found", "_law_seat", "_law_x", "_law_y"] ["_law_plan_here"] (defScope st_law_first) := ⟨rfl, rfl, rfl, by decide +kernel, rfl, by decide +kernel, by decide +kernel⟩
theorem d_law_first (T : Txt K w cn mg)  {f : Addr} {cdv : Value} {A : Around} {outer : List Env} {s : Shared} {H : LHp} {E : XK} (hr : Room 0 (A.deeper (envOfC "_law_first" (defScope st_law_first) s.heap.objs.size f cdv))) :
    DSs (cxOf (L2.CX P w) P w K mg base ["_law_plan_here", "_law_found", "_law_seat", "_law_x", "_law_y"] "_law_first" (defScope st_law_first) f cdv A outer s H E) cn (fun cls d _ H => E cls d H) (defBody st_law_first) r_law_first := by
  have nd : (cxOf (L2.CX P w) P w K mg base ["_law_plan_here", "_law_found", "_law_seat", "_law_x", "_law_y"] "_law_first" (defScope st_law_first) f cdv A outer s H E).N.Nodup := sc_law_first.nd
  have tk : Takes (cxOf (L2.CX P w) P w K mg base ["_law_plan_here", "_law_found", "_law_seat", "_law_x", "_law_y"] "_law_first" (defScope st_law_first) f cdv A outer s H E) (fun cls d _ H => E cls d H) := takes_of rfl rfl rfl rfl
  have po := passes_of (X := cxOf (L2.CX P w) P w K mg base ["_law_plan_here", "_law_found", "_law_seat", "_law_x", "_law_y"] "_law_first" (defScope st_law_first) f cdv A outer s H E) rfl
  exact (dss_cons (ds_set (i := 1) nd rfl (Or.inl rfl) (de_bin db_mul (de_lst (da_cons de_int da_nil)) (de_bin db_mul (de_ix (hu1 hr) (de_var 0) de_int (fun _ _ => rfl)) (de_ix (hu1 hr) (de_var 0) de_int (fun _ _ => rfl))))) (dss_cons (ds_for po rfl (di_seq (de_ix (hu1 hr) (de_var 0) de_int (fun _ _ => rfl))) (dg_tup rfl (dgs_cons (dg_name (i := 3) nd rfl (Or.inl rfl)) (dgs_cons (dg_name (i := 4) nd rfl (Or.inl rfl)) dgs_nil))) (dss_one (ds_asg (de_neg de_int) (dg_sub (hu1 hr) (de_var 1) (de_bin db_add (de_bin db_mul (de_var 4) (de_ix (hu1 hr) (de_var 0) de_int (fun _ _ => rfl))) (de_var 3)))))) (dss_cons (ds_for po rfl (di_rng1 rfl T.b_range (de_cb (dc_len) rfl T.b_len (by decide +kernel) (da_cons (de_ix (hu1 hr) (de_var 0) de_int (fun _ _ => rfl)) da_nil))) (dg_name (i := 2) nd rfl (Or.inl rfl)) (dss_cons (ds_asg (de_ix (hu1 hr) (de_ix (hu1 hr) (de_var 0) de_int (fun _ _ => rfl)) (de_var 2) (fun _ _ => rfl)) (dg_tup rfl (dgs_cons (dg_name (i := 3) nd rfl (Or.inl rfl)) (dgs_cons (dg_name (i := 4) nd rfl (Or.inl rfl)) dgs_nil)))) (dss_one (ds_asg (de_bin db_add (de_bin db_mul de_int (de_var 2)) de_int) (dg_sub (hu1 hr) (de_var 1) (de_bin db_add (de_bin db_mul (de_var 4) (de_ix (hu1 hr) (de_var 0) de_int (fun _ _ => rfl))) (de_var 3))))))) (dss_one (ds_ret (de_ty dc_tuple rfl T.b_tuple (by decide +kernel) (da_cons (de_var 1) da_nil)))))))
theorem sc_law_beside : FnScope ["_law_plan_here", "_law_place", "_law_found", "_law_x", "_law_y", "_law_way", "_law_cell"] ["_law_plan_here", "_law_place"] (defScope st_law_beside) := ⟨rfl, rfl, rfl, by decide +kernel, rfl, by decide +kernel, by decide +kernel⟩
theorem d_law_beside (T : Txt K w cn mg)  {f : Addr} {cdv : Value} {A : Around} {outer : List Env} {s : Shared} {H : LHp} {E : XK} (hr : Room 0 (A.deeper (envOfC "_law_beside" (defScope st_law_beside) s.heap.objs.size f cdv))) :
    DSs (cxOf (L2.CX P w) P w K mg base ["_law_plan_here", "_law_place", "_law_found", "_law_x", "_law_y", "_law_way", "_law_cell"] "_law_beside" (defScope st_law_beside) f cdv A outer s H E) cn (fun cls d _ H => E cls d H) (defBody st_law_beside) r_law_beside := by
  have nd : (cxOf (L2.CX P w) P w K mg base ["_law_plan_here", "_law_place", "_law_found", "_law_x", "_law_y", "_law_way", "_law_cell"] "_law_beside" (defScope st_law_beside) f cdv A outer s H E).N.Nodup := sc_law_beside.nd
  have tk : Takes (cxOf (L2.CX P w) P w K mg base ["_law_plan_here", "_law_place", "_law_found", "_law_x", "_law_y", "_law_way", "_law_cell"] "_law_beside" (defScope st_law_beside) f cdv A outer s H E) (fun cls d _ H => E cls d H) := takes_of rfl rfl rfl rfl
  have po := passes_of (X := cxOf (L2.CX P w) P w K mg base ["_law_plan_here", "_law_place", "_law_found", "_law_x", "_law_y", "_law_way", "_law_cell"] "_law_beside" (defScope st_law_beside) f cdv A outer s H E) rfl
  exact (dss_cons (ds_asg (de_var 1) (dg_tup rfl (dgs_cons (dg_name (i := 3) nd rfl (Or.inl rfl)) (dgs_cons (dg_name (i := 4) nd rfl (Or.inl rfl)) dgs_nil)))) (dss_cons (ds_set (i := 2) nd rfl (Or.inl rfl) de_dK) (dss_cons (ds_for po rfl (di_seq (de_tup (da_cons (de_tup (da_cons de_str (da_cons (de_tup (da_cons (de_var 3) (da_cons (de_bin db_sub (de_var 4) de_int) da_nil))) da_nil))) (da_cons (de_tup (da_cons de_str (da_cons (de_tup (da_cons (de_bin db_add (de_var 3) de_int) (da_cons (de_var 4) da_nil))) da_nil))) (da_cons (de_tup (da_cons de_str (da_cons (de_tup (da_cons (de_var 3) (da_cons (de_bin db_add (de_var 4) de_int) da_nil))) da_nil))) (da_cons (de_tup (da_cons de_str (da_cons (de_tup (da_cons (de_bin db_sub (de_var 3) de_int) (da_cons (de_var 4) da_nil))) da_nil))) da_nil)))))) (dg_tup rfl (dgs_cons (dg_name (i := 5) nd rfl (Or.inl rfl)) (dgs_cons (dg_name (i := 6) nd rfl (Or.inl rfl)) dgs_nil))) (dss_one (ds_if (dw_pt (dw_and (dt_chain db_le db_lt de_int (de_ix (hu1 hr) (de_var 6) de_int (fun _ _ => rfl)) (de_ix (hu1 hr) (de_var 0) de_int (fun _ _ => rfl))) (dw_and (dt_chain db_le db_lt de_int (de_ix (hu1 hr) (de_var 6) de_int (fun _ _ => rfl)) (de_ix (hu1 hr) (de_var 0) de_int (fun _ _ => rfl))) (dw_and1 (dt_cmp (db_notIn (hu70 hr)) (de_var 6) (de_ix (hu1 hr) (de_var 0) de_int (fun _ _ => rfl)) rfl))))) (dss_one (ds_asg (de_var 6) (dg_sub (hu1 hr) (de_var 2) (de_var 5)))) dss_nil))) (dss_one (ds_ret (de_var 2))))))
theorem sc_law_gone : FnScope ["_law_plan_here", "_law_picture", "_law_tick", "_law_hands", "_law_k", "_law_many", "_law_seat", "_law_found", "_law_owners", "_law_places", "_law_x", "_law_y", "_law_stands", "_law_some", "_law_taken", "_law_cell"] ["_law_plan_here", "_law_picture", "_law_tick", "_law_hands"] (defScope st_law_gone) := ⟨rfl, rfl, rfl, by decide +kernel, rfl, by decide +kernel, by decide +kernel⟩
theorem d_law_gone (T : Txt K w cn mg) (C_law_beside : CallOk P w K mg base cn "_law_beside" 1 ["_law_plan_here", "_law_place"] sp_law_beside) {f : Addr} {cdv : Value} {A : Around} {outer : List Env} {s : Shared} {H : LHp} {E : XK} (hr : Room 1 (A.deeper (envOfC "_law_gone" (defScope st_law_gone) s.heap.objs.size f cdv))) :
    DSs (cxOf (L2.CX P w) P w K mg base ["_law_plan_here", "_law_picture", "_law_tick", "_law_hands", "_law_k", "_law_many", "_law_seat", "_law_found", "_law_owners", "_law_places", "_law_x", "_law_y", "_law_stands", "_law_some", "_law_taken", "_law_cell"] "_law_gone" (defScope st_law_gone) f cdv A outer s H E) cn (fun cls d _ H => E cls d H) (defBody st_law_gone) r_law_gone := by
  have nd : (cxOf (L2.CX P w) P w K mg base ["_law_plan_here", "_law_picture", "_law_tick", "_law_hands", "_law_k", "_law_many", "_law_seat", "_law_found", "_law_owners", "_law_places", "_law_x", "_law_y", "_law_stands", "_law_some", "_law_taken", "_law_cell"] "_law_gone" (defScope st_law_gone) f cdv A outer s H E).N.Nodup := sc_law_gone.nd
  have tk : Takes (cxOf (L2.CX P w) P w K mg base ["_law_plan_here", "_law_picture", "_law_tick", "_law_hands", "_law_k", "_law_many", "_law_seat", "_law_found", "_law_owners", "_law_places", "_law_x", "_law_y", "_law_stands", "_law_some", "_law_taken", "_law_cell"] "_law_gone" (defScope st_law_gone) f cdv A outer s H E) (fun cls d _ H => E cls d H) := takes_of rfl rfl rfl rfl
  have po := passes_of (X := cxOf (L2.CX P w) P w K mg base ["_law_plan_here", "_law_picture", "_law_tick", "_law_hands", "_law_k", "_law_many", "_law_seat", "_law_found", "_law_owners", "_law_places", "_law_x", "_law_y", "_law_stands", "_law_some", "_law_taken", "_law_cell"] "_law_gone" (defScope st_law_gone) f cdv A outer s H E) rfl
  exact (dss_cons (ds_asg (de_tup (da_cons de_dT (da_cons de_dK da_nil))) (dg_tup rfl (dgs_cons (dg_name (i := 8) nd rfl (Or.inl rfl)) (dgs_cons (dg_name (i := 9) nd rfl (Or.inr rfl)) dgs_nil)))) (dss_cons (ds_for po rfl (di_rng1 rfl T.b_range (de_cb (dc_len) rfl T.b_len (by decide +kernel) (da_cons (de_var 1) da_nil))) (dg_name (i := 4) nd rfl (Or.inl rfl)) (dss_one (ds_if (dt_cmp db_ge (de_ix (hu1 hr) (de_var 1) (de_var 4) (fun _ _ => rfl)) de_int (nomark _)) (dss_cons (ds_asg (de_bin db_div (de_ix (hu1 hr) (de_var 1) (de_var 4) (fun _ _ => rfl)) de_int) (dg_sub (hu1 hr) (de_var 8) (de_tup (da_cons (de_bin db_mod (de_var 4) (de_ix (hu1 hr) (de_var 0) de_int (fun _ _ => rfl))) (da_cons (de_bin db_div (de_var 4) (de_ix (hu1 hr) (de_var 0) de_int (fun _ _ => rfl))) da_nil))))) (dss_one (ds_if (dt_cmp db_gt (de_bin db_mod (de_ix (hu1 hr) (de_var 1) (de_var 4) (fun _ _ => rfl)) de_int) de_int (nomark _)) (dss_one (ds_asg (de_tup (da_cons (de_bin db_mod (de_var 4) (de_ix (hu1 hr) (de_var 0) de_int (fun _ _ => rfl))) (da_cons (de_bin db_div (de_var 4) (de_ix (hu1 hr) (de_var 0) de_int (fun _ _ => rfl))) da_nil))) (dg_sub (hu1 hr) (de_var 9) (de_bin db_sub (de_bin db_mod (de_ix (hu1 hr) (de_var 1) (de_var 4) (fun _ _ => rfl)) de_int) de_int)))) dss_nil))) dss_nil))) (dss_cons (ds_set (i := 5) nd rfl (Or.inr rfl) (de_cb (dc_len) rfl T.b_len (by decide +kernel) (da_cons (de_var 9) da_nil))) (dss_cons (ds_for po rfl (di_seq (de_lc (own := [(("_law_k" : Str), 4)]) (te := (eBin rMod (eVar 4) (eVar 5))) rfl nd (di_rng2 rfl T.b_range (de_bin db_mod (de_var 2) (de_var 5)) (de_bin db_add (de_bin db_mod (de_var 2) (de_var 5)) (de_var 5))) (blkOk_by (N := ["_law_plan_here", "_law_picture", "_law_tick", "_law_hands", "_law_k", "_law_many", "_law_seat", "_law_found", "_law_owners", "_law_places", "_law_x", "_law_y", "_law_stands", "_law_some", "_law_taken", "_law_cell"]) (sc := defScope st_law_gone) (by decide +kernel)) (cg_name (j := 4) (by decide)) (fun _ _ _ _ _ => pg_name (i := 4) nd rfl (Or.inl rfl)) (fun _ _ _ _ _ => dts_nil) (fun _ _ _ _ _ => (de_bin db_mod (de_var 4) (de_var 5))))) (dg_name (i := 6) nd rfl (Or.inl rfl)) (dss_cons (ds_asg (de_tup (da_cons (de_call C_law_beside hr (by decide) rfl tk (da_cons (de_var 0) (da_cons (de_ix (hu1 hr) (de_var 9) (de_var 6) (fun _ _ => rfl)) da_nil))) (da_cons (de_listVals rfl (de_var 9) rfl T.b_list) da_nil))) (dg_tup rfl (dgs_cons (dg_name (i := 13) nd rfl (Or.inl rfl)) (dgs_cons (dg_name (i := 14) nd rfl (Or.inr rfl)) dgs_nil)))) (dss_one (ds_if (dt_cmp (db_eq (hu64 hr)) (de_ix (hu1 hr) (de_var 3) (de_var 6) (fun _ _ => rfl)) de_str (nomark _)) (dss_one (ds_for po rfl (di_seq (de_lock (i := 13) (de_lc (own := [(("_law_cell" : Str), 15)]) (te := (eVar 15)) rfl nd (di_vals (de_var 13)) (blkOk_by (N := ["_law_plan_here", "_law_picture", "_law_tick", "_law_hands", "_law_k", "_law_many", "_law_seat", "_law_found", "_law_owners", "_law_places", "_law_x", "_law_y", "_law_stands", "_law_some", "_law_taken", "_law_cell"]) (sc := defScope st_law_gone) (by decide +kernel)) (cg_name (j := 15) (by decide)) (fun _ _ _ _ _ => pg_name (i := 15) nd rfl (Or.inl rfl)) (fun _ _ _ _ _ => (dts_one (dt_cmp (db_notIn (hu70 hr)) (de_var 15) (de_var 14) rfl))) (fun _ _ _ _ _ => (de_var 15))))) (dg_name (i := 15) nd rfl (Or.inl rfl)) (dss_one (ds_asg (de_bin db_add (de_var 6) de_int) (dg_sub (hu1 hr) (de_var 8) (de_var 15)))))) (dss_one (ds_if (dt_cmp (db_notIn (hu70 hr)) (de_get2 (hu1 hr) (de_var 13) (de_ix (hu1 hr) (de_var 3) (de_var 6) (fun _ _ => rfl)) (de_ix (hu1 hr) (de_var 9) (de_var 6) (fun _ _ => rfl)) ⟨rfl, rfl, rfl, rfl⟩) (de_var 14) rfl) (dss_cons (ds_asg (de_ix (hu1 hr) (de_var 13) (de_ix (hu1 hr) (de_var 3) (de_var 6) (fun _ _ => rfl)) (fun _ _ => rfl)) (dg_sub (hu1 hr) (de_var 9) (de_var 6))) (dss_one (ds_asg (de_bin db_add (de_var 6) de_int) (dg_sub (hu1 hr) (de_var 8) (de_ix (hu1 hr) (de_var 9) (de_var 6) (fun _ _ => rfl)))))) dss_nil)))))) (dss_cons (ds_set (i := 7) nd rfl (Or.inl rfl) (de_ty dc_list rfl T.b_list (by decide +kernel) (da_cons (de_var 1) da_nil))) (dss_cons (ds_lock (i := 8) (ds_for po rfl (di_seq (de_var 8)) (dg_tup rfl (dgs_cons (dg_name (i := 10) nd rfl (Or.inr rfl)) (dgs_cons (dg_name (i := 11) nd rfl (Or.inr rfl)) dgs_nil))) (dss_cons (ds_lock (i := 9) (ds_setLc (i := 12) (own := [(("_law_seat" : Str), 6)]) (te := (eBin rAdd (eVar 6) (eC (.int 1)))) rfl nd rfl rfl (sw_true rfl rfl rfl (by decide +kernel)) (di_seq (de_var 9)) (blkOk_by (N := ["_law_plan_here", "_law_picture", "_law_tick", "_law_hands", "_law_k", "_law_many", "_law_seat", "_law_found", "_law_owners", "_law_places", "_law_x", "_law_y", "_law_stands", "_law_some", "_law_taken", "_law_cell"]) (sc := defScope st_law_gone) (by decide +kernel)) (cg_name (j := 6) (by decide)) (fun _ _ _ _ _ => pg_name (i := 6) nd rfl (Or.inl rfl)) (fun _ _ _ _ _ => (dts_one (dt_cmp (db_eq (hu64 hr)) (de_ix (hu1 hr) (de_var 9) (de_var 6) (fun _ _ => rfl)) (de_tup (da_cons (de_var 10) (da_cons (de_var 11) da_nil))) (nomark _)))) (fun _ _ _ _ _ => (de_bin db_add (de_var 6) de_int)))) (dss_one (ds_asg (de_bin db_add (de_bin db_mul de_int (de_ix (hu1 hr) (de_var 8) (de_tup (da_cons (de_var 10) (da_cons (de_var 11) da_nil))) (fun _ _ => rfl))) (de_cb (dc_sum rfl) rfl T.b_sum (by decide +kernel) (da_cons (de_var 12) da_nil))) (dg_sub (hu1 hr) (de_var 7) (de_bin db_add (de_bin db_mul (de_var 11) (de_ix (hu1 hr) (de_var 0) de_int (fun _ _ => rfl))) (de_var 10)))))))) (dss_one (ds_ret (de_ty dc_tuple rfl T.b_tuple (by decide +kernel) (da_cons (de_var 7) da_nil))))))))))
theorem sc_law_made_up : FnScope ["_law_box", "_law_plan_here", "_law_found", "_law_k", "_law_cells", "_law_seat", "_law_is_block"] ["_law_box", "_law_plan_here"] (defScope st_law_made_up) := ⟨rfl, rfl, rfl, by decide +kernel, rfl, by decide +kernel, by decide +kernel⟩
theorem d_law_made_up (T : Txt K w cn mg) (C_law_take : CallOk P w K mg base cn "_law_take" 1 ["_law_box", "_law_many"] sp_law_take) {f : Addr} {cdv : Value} {A : Around} {outer : List Env} {s : Shared} {H : LHp} {E : XK} (hr : Room 1 (A.deeper (envOfC "_law_made_up" (defScope st_law_made_up) s.heap.objs.size f cdv))) :
    DSs (cxOf (L2.CX P w) P w K mg base ["_law_box", "_law_plan_here", "_law_found", "_law_k", "_law_cells", "_law_seat", "_law_is_block"] "_law_made_up" (defScope st_law_made_up) f cdv A outer s H E) cn (fun cls d _ H => E cls d H) (defBody st_law_made_up) r_law_made_up := by
  have nd : (cxOf (L2.CX P w) P w K mg base ["_law_box", "_law_plan_here", "_law_found", "_law_k", "_law_cells", "_law_seat", "_law_is_block"] "_law_made_up" (defScope st_law_made_up) f cdv A outer s H E).N.Nodup := sc_law_made_up.nd
  have tk : Takes (cxOf (L2.CX P w) P w K mg base ["_law_box", "_law_plan_here", "_law_found", "_law_k", "_law_cells", "_law_seat", "_law_is_block"] "_law_made_up" (defScope st_law_made_up) f cdv A outer s H E) (fun cls d _ H => E cls d H) := takes_of rfl rfl rfl rfl
  have po := passes_of (X := cxOf (L2.CX P w) P w K mg base ["_law_box", "_law_plan_here", "_law_found", "_law_k", "_law_cells", "_law_seat", "_law_is_block"] "_law_made_up" (defScope st_law_made_up) f cdv A outer s H E) rfl
  exact (dss_cons (ds_set (i := 2) nd rfl (Or.inr rfl) (de_lst da_nil)) (dss_cons (ds_for po rfl (di_rng1 rfl T.b_range (de_bin db_mul (de_ix (hu1 hr) (de_var 1) de_int (fun _ _ => rfl)) (de_ix (hu1 hr) (de_var 1) de_int (fun _ _ => rfl)))) (dg_name (i := 3) nd rfl (Or.inl rfl)) (dss_cons (ds_set (i := 6) nd rfl (Or.inl rfl) (de_cmp (db_in (hu70 hr)) (de_tup (da_cons (de_bin db_mod (de_var 3) (de_ix (hu1 hr) (de_var 1) de_int (fun _ _ => rfl))) (da_cons (de_bin db_div (de_var 3) (de_ix (hu1 hr) (de_var 1) de_int (fun _ _ => rfl))) da_nil))) (de_ix (hu1 hr) (de_var 1) de_int (fun _ _ => rfl)) rfl)) (dss_one (ds_expr (de_bm PySem.F.plainAttrs_list PySem.F.slot_list_append PySem.F.type_list_append dm_append (de_var 2) (da_cons (de_if (dt_val (de_var 6)) (de_neg de_int) (de_bin db_mul de_int (de_call C_law_take hr (by decide) rfl tk (da_cons (de_var 0) (da_cons (de_bin db_add (de_cb (dc_len) rfl T.b_len (by decide +kernel) (da_cons (de_ix (hu1 hr) (de_var 1) de_int (fun _ _ => rfl)) da_nil)) de_int) da_nil))))) da_nil)))))) (dss_cons (ds_setLc (i := 4) (own := [(("_law_k" : Str), 3)]) (te := (eVar 3)) rfl nd rfl rfl (sw_true rfl rfl rfl (by decide +kernel)) (di_rng1 rfl T.b_range (de_cb (dc_len) rfl T.b_len (by decide +kernel) (da_cons (de_var 2) da_nil))) (blkOk_by (N := ["_law_box", "_law_plan_here", "_law_found", "_law_k", "_law_cells", "_law_seat", "_law_is_block"]) (sc := defScope st_law_made_up) (by decide +kernel)) (cg_name (j := 3) (by decide)) (fun _ _ _ _ _ => pg_name (i := 3) nd rfl (Or.inl rfl)) (fun _ _ _ _ _ => (dts_one (dt_cmp db_ge (de_ix (hu1 hr) (de_var 2) (de_var 3) (fun _ _ => rfl)) de_int (nomark _)))) (fun _ _ _ _ _ => (de_var 3))) (dss_cons (ds_for po rfl (di_rng1 rfl T.b_range (de_cb (dc_len) rfl T.b_len (by decide +kernel) (da_cons (de_ix (hu1 hr) (de_var 1) de_int (fun _ _ => rfl)) da_nil))) (dg_name (i := 5) nd rfl (Or.inl rfl)) (dss_cons (ds_set (i := 3) nd rfl (Or.inl rfl) (de_bm PySem.F.plainAttrs_list PySem.F.slot_list_pop PySem.F.type_list_pop dm_popAt (de_var 4) (da_cons (de_call C_law_take hr (by decide) rfl tk (da_cons (de_var 0) (da_cons (de_cb (dc_len) rfl T.b_len (by decide +kernel) (da_cons (de_var 4) da_nil)) da_nil))) da_nil))) (dss_one (ds_asg (de_bin db_add (de_bin db_add (de_ix (hu1 hr) (de_var 2) (de_var 3) (fun _ _ => rfl)) (de_var 5)) de_int) (dg_sub (hu1 hr) (de_var 2) (de_var 3)))))) (dss_one (ds_ret (de_ty dc_tuple rfl T.b_tuple (by decide +kernel) (da_cons (de_var 2) da_nil))))))))
theorem sc_law : FnScope ["_law_script", "_law_box", "_law_turn", "_law_plan_here", "_law_picture", "_law_tick", "_law_later", "_law_hands", "_law_due", "_law_again", "_law_owned", "_law_part", "_law_seat"] ["_law_script"] (defScope st_law) := ⟨rfl, rfl, rfl, by decide +kernel, rfl, by decide +kernel, by decide +kernel⟩
theorem d_law (T : Txt K w cn mg) (C_law_begun : CallOk P w K mg base cn "_law_begun" 1 ["_law_script"] sp_law_begun) (C_law_plan : CallOk P w K mg base cn "_law_plan" 2 ["_law_box"] sp_law_plan) (C_law_first : CallOk P w K mg base cn "_law_first" 1 ["_law_plan_here"] sp_law_first) (C_begun : CallOk P w K mg base cn "begun" 4 ["plan"] sp_begun) (C_law_alike : CallOk P w K mg base cn "_law_alike" 4 ["_law_found", "_law_due"] sp_law_alike) (C_law_take : CallOk P w K mg base cn "_law_take" 1 ["_law_box", "_law_many"] sp_law_take) (C_law_made_up : CallOk P w K mg base cn "_law_made_up" 2 ["_law_box", "_law_plan_here"] sp_law_made_up) (C_law_hand : CallOk P w K mg base cn "_law_hand" 2 ["_law_box"] sp_law_hand) (C_law_gone : CallOk P w K mg base cn "_law_gone" 2 ["_law_plan_here", "_law_picture", "_law_tick", "_law_hands"] sp_law_gone) (C_after : CallOk P w K mg base cn "after" 6 ["plan", "picture", "tick", "hands"] sp_after) (C_points : CallOk P w K mg base cn "points" 4 ["plan", "picture"] sp_points) {f : Addr} {cdv : Value} {A : Around} {outer : List Env} {s : Shared} {H : LHp} {E : XK} (hr : Room 6 (A.deeper (envOfC "law" (defScope st_law) s.heap.objs.size f cdv))) :
    DSs (cxOf (L2.CX P w) P w K mg base ["_law_script", "_law_box", "_law_turn", "_law_plan_here", "_law_picture", "_law_tick", "_law_later", "_law_hands", "_law_due", "_law_again", "_law_owned", "_law_part", "_law_seat"] "law" (defScope st_law) f cdv A outer s H E) cn (fun cls d _ H => E cls d H) (defBody st_law) r_law := by
  have nd : (cxOf (L2.CX P w) P w K mg base ["_law_script", "_law_box", "_law_turn", "_law_plan_here", "_law_picture", "_law_tick", "_law_later", "_law_hands", "_law_due", "_law_again", "_law_owned", "_law_part", "_law_seat"] "law" (defScope st_law) f cdv A outer s H E).N.Nodup := sc_law.nd
  have tk : Takes (cxOf (L2.CX P w) P w K mg base ["_law_script", "_law_box", "_law_turn", "_law_plan_here", "_law_picture", "_law_tick", "_law_later", "_law_hands", "_law_due", "_law_again", "_law_owned", "_law_part", "_law_seat"] "law" (defScope st_law) f cdv A outer s H E) (fun cls d _ H => E cls d H) := takes_of rfl rfl rfl rfl
  have po := passes_of (X := cxOf (L2.CX P w) P w K mg base ["_law_script", "_law_box", "_law_turn", "_law_plan_here", "_law_picture", "_law_tick", "_law_later", "_law_hands", "_law_due", "_law_again", "_law_owned", "_law_part", "_law_seat"] "law" (defScope st_law) f cdv A outer s H E) rfl
  exact (dss_cons (ds_set (i := 1) nd rfl (Or.inr rfl) (de_call C_law_begun hr (by decide) rfl tk (da_cons (de_var 0) da_nil))) (dss_cons (ds_for po rfl (di_rng1 rfl T.b_range de_int) (dg_name (i := 2) nd rfl (Or.inl rfl)) (dss_cons (ds_set (i := 3) nd rfl (Or.inl rfl) (de_call C_law_plan hr (by decide) rfl tk (da_cons (de_var 1) da_nil))) (dss_cons (ds_set (i := 4) nd rfl (Or.inl rfl) (de_call C_law_first hr (by decide) rfl tk (da_cons (de_var 3) da_nil))) (dss_cons (ds_if (dt_not (dt_val (de_call C_law_alike hr (by decide) rfl tk (da_cons (de_call C_begun hr (by decide) rfl tk (da_cons (de_var 3) da_nil)) (da_cons (de_var 4) da_nil))))) (dss_one (ds_ret de_bl)) dss_nil) (dss_cons (ds_if (dt_cmp (db_eq (hu64 hr)) (de_call C_law_take hr (by decide) rfl tk (da_cons (de_var 1) (da_cons de_int da_nil))) de_int (nomark _)) (dss_one (ds_set (i := 4) nd rfl (Or.inl rfl) (de_call C_law_made_up hr (by decide) rfl tk (da_cons (de_var 1) (da_cons (de_var 3) da_nil))))) dss_nil) (dss_cons (ds_set (i := 5) nd rfl (Or.inl rfl) (de_ix (hu1 hr) (de_lst (da_cons de_int (da_cons (de_bin db_add de_int (de_call C_law_take hr (by decide) rfl tk (da_cons (de_var 1) (da_cons de_int da_nil)))) da_nil))) (de_call C_law_take hr (by decide) rfl tk (da_cons (de_var 1) (da_cons de_int da_nil))) (fun _ _ => rfl))) (dss_one (ds_for po rfl (di_rng2 rfl T.b_range (de_var 5) (de_bin db_add (de_var 5) (de_call C_law_take hr (by decide) rfl tk (da_cons (de_var 1) (da_cons de_int da_nil))))) (dg_name (i := 6) nd rfl (Or.inl rfl)) (dss_cons (ds_set (i := 7) nd rfl (Or.inl rfl) (de_ty dc_tuple rfl T.b_tuple (by decide +kernel) (da_cons (de_lc (own := [(("_law_seat" : Str), 12)]) (te := (eCall sp_law_hand (aCons (eVar 1) aNil))) rfl nd (di_seq (de_ix (hu1 hr) (de_var 3) de_int (fun _ _ => rfl))) (blkOk_by (N := ["_law_script", "_law_box", "_law_turn", "_law_plan_here", "_law_picture", "_law_tick", "_law_later", "_law_hands", "_law_due", "_law_again", "_law_owned", "_law_part", "_law_seat"]) (sc := defScope st_law) (by decide +kernel)) (cg_name (j := 12) (by decide)) (fun _ _ _ _ _ => pg_name (i := 12) nd rfl (Or.inl rfl)) (fun _ _ _ _ _ => dts_nil) (fun _ _ _ _ _ => (de_call C_law_hand hr (by decide) rfl takes_no (da_cons (de_var 1) da_nil)))) da_nil))) (dss_cons (ds_set (i := 8) nd rfl (Or.inl rfl) (de_call C_law_gone hr (by decide) rfl tk (da_cons (de_var 3) (da_cons (de_var 4) (da_cons (de_var 6) (da_cons (de_var 7) da_nil)))))) (dss_cons (ds_for po rfl (di_rng1 rfl T.b_range de_int) (dg_name (i := 9) nd rfl (Or.inl rfl)) (dss_one (ds_if (dt_not (dt_val (de_call C_law_alike hr (by decide) rfl tk (da_cons (de_call C_after hr (by decide) rfl tk (da_cons (de_var 3) (da_cons (de_var 4) (da_cons (de_var 6) (da_cons (de_var 7) da_nil))))) (da_cons (de_var 8) da_nil))))) (dss_one (ds_ret de_bl)) dss_nil))) (dss_cons (ds_set (i := 4) nd rfl (Or.inl rfl) (de_var 8)) (dss_cons (ds_set (i := 10) nd rfl (Or.inr rfl) (de_lc (own := [(("_law_part" : Str), 11)]) (te := (eBin rSub (eBin rDiv (eVar 11) (eC (.int 10))) (eC (.int 1)))) rfl nd (di_seq (de_var 4)) (blkOk_by (N := ["_law_script", "_law_box", "_law_turn", "_law_plan_here", "_law_picture", "_law_tick", "_law_later", "_law_hands", "_law_due", "_law_again", "_law_owned", "_law_part", "_law_seat"]) (sc := defScope st_law) (by decide +kernel)) (cg_name (j := 11) (by decide)) (fun _ _ _ _ _ => pg_name (i := 11) nd rfl (Or.inl rfl)) (fun _ _ _ _ _ => (dts_one (dt_cmp db_ge (de_var 11) de_int (nomark _)))) (fun _ _ _ _ _ => (de_bin db_sub (de_bin db_div (de_var 11) de_int) de_int)))) (dss_one (ds_if (dt_not (dt_val (de_call C_law_alike hr (by decide) rfl tk (da_cons (de_call C_points hr (by decide) rfl tk (da_cons (de_var 3) (da_cons (de_var 4) da_nil))) (da_cons (de_ty dc_tuple rfl T.b_tuple (by decide +kernel) (da_cons (de_lc (own := [(("_law_seat" : Str), 12)]) (te := (eBM rCount (eVar 10) (aCons (eVar 12) aNil))) rfl nd (di_rng1 rfl T.b_range (de_cb (dc_len) rfl T.b_len (by decide +kernel) (da_cons (de_ix (hu1 hr) (de_var 3) de_int (fun _ _ => rfl)) da_nil))) (blkOk_by (N := ["_law_script", "_law_box", "_law_turn", "_law_plan_here", "_law_picture", "_law_tick", "_law_later", "_law_hands", "_law_due", "_law_again", "_law_owned", "_law_part", "_law_seat"]) (sc := defScope st_law) (by decide +kernel)) (cg_name (j := 12) (by decide)) (fun _ _ _ _ _ => pg_name (i := 12) nd rfl (Or.inl rfl)) (fun _ _ _ _ _ => dts_nil) (fun _ _ _ _ _ => (de_bm PySem.F.plainAttrs_list PySem.F.slot_list_count PySem.F.type_list_count dm_count (de_var 10) (da_cons (de_var 12) da_nil)))) da_nil)) da_nil))))) (dss_one (ds_ret de_bl)) dss_nil))))))))))))))) (dss_one (ds_ret de_bl))))
end
theorem ar_is_number : ∀ ds h Q E, sp_is_number ds h Q E → ds.length = 3 := by
  intro ds h Q E q
  first | (obtain ⟨_, rfl, _⟩ := q; rfl) | (obtain ⟨_, _, rfl, _⟩ := q; rfl) | (obtain ⟨_, _, _, rfl, _⟩ := q; rfl) | (obtain ⟨_, _, _, _, rfl, _⟩ := q; rfl) | (obtain ⟨_, _, _, _, _, rfl, _⟩ := q; rfl) | (obtain ⟨_, _, _, _, _, _, rfl, _⟩ := q; rfl) | (unfold sp_is_number at q; split at q <;> first | rfl | exact q.elim)
theorem ar_need_count : ∀ ds h Q E, sp_need_count ds h Q E → ds.length = 3 := by
  intro ds h Q E q
  first | (obtain ⟨_, rfl, _⟩ := q; rfl) | (obtain ⟨_, _, rfl, _⟩ := q; rfl) | (obtain ⟨_, _, _, rfl, _⟩ := q; rfl) | (obtain ⟨_, _, _, _, rfl, _⟩ := q; rfl) | (obtain ⟨_, _, _, _, _, rfl, _⟩ := q; rfl) | (obtain ⟨_, _, _, _, _, _, rfl, _⟩ := q; rfl) | (unfold sp_need_count at q; split at q <;> first | rfl | exact q.elim)
theorem ar_need_hand : ∀ ds h Q E, sp_need_hand ds h Q E → ds.length = 1 := by
  intro ds h Q E q
  first | (obtain ⟨_, rfl, _⟩ := q; rfl) | (obtain ⟨_, _, rfl, _⟩ := q; rfl) | (obtain ⟨_, _, _, rfl, _⟩ := q; rfl) | (obtain ⟨_, _, _, _, rfl, _⟩ := q; rfl) | (obtain ⟨_, _, _, _, _, rfl, _⟩ := q; rfl) | (obtain ⟨_, _, _, _, _, _, rfl, _⟩ := q; rfl) | (unfold sp_need_hand at q; split at q <;> first | rfl | exact q.elim)
theorem ar_is_cell : ∀ ds h Q E, sp_is_cell ds h Q E → ds.length = 3 := by
  intro ds h Q E q
  first | (obtain ⟨_, rfl, _⟩ := q; rfl) | (obtain ⟨_, _, rfl, _⟩ := q; rfl) | (obtain ⟨_, _, _, rfl, _⟩ := q; rfl) | (obtain ⟨_, _, _, _, rfl, _⟩ := q; rfl) | (obtain ⟨_, _, _, _, _, rfl, _⟩ := q; rfl) | (obtain ⟨_, _, _, _, _, _, rfl, _⟩ := q; rfl) | (unfold sp_is_cell at q; split at q <;> first | rfl | exact q.elim)
theorem ar_need_plan : ∀ ds h Q E, sp_need_plan ds h Q E → ds.length = 1 := by
  intro ds h Q E q
  first | (obtain ⟨_, rfl, _⟩ := q; rfl) | (obtain ⟨_, _, rfl, _⟩ := q; rfl) | (obtain ⟨_, _, _, rfl, _⟩ := q; rfl) | (obtain ⟨_, _, _, _, rfl, _⟩ := q; rfl) | (obtain ⟨_, _, _, _, _, rfl, _⟩ := q; rfl) | (obtain ⟨_, _, _, _, _, _, rfl, _⟩ := q; rfl) | (unfold sp_need_plan at q; split at q <;> first | rfl | exact q.elim)
theorem ar_many_of : ∀ ds h Q E, sp_many_of ds h Q E → ds.length = 1 := by
  intro ds h Q E q
  first | (obtain ⟨_, rfl, _⟩ := q; rfl) | (obtain ⟨_, _, rfl, _⟩ := q; rfl) | (obtain ⟨_, _, _, rfl, _⟩ := q; rfl) | (obtain ⟨_, _, _, _, rfl, _⟩ := q; rfl) | (obtain ⟨_, _, _, _, _, rfl, _⟩ := q; rfl) | (obtain ⟨_, _, _, _, _, _, rfl, _⟩ := q; rfl) | (unfold sp_many_of at q; split at q <;> first | rfl | exact q.elim)
theorem ar_spot_of : ∀ ds h Q E, sp_spot_of ds h Q E → ds.length = 2 := by
  intro ds h Q E q
  first | (obtain ⟨_, rfl, _⟩ := q; rfl) | (obtain ⟨_, _, rfl, _⟩ := q; rfl) | (obtain ⟨_, _, _, rfl, _⟩ := q; rfl) | (obtain ⟨_, _, _, _, rfl, _⟩ := q; rfl) | (obtain ⟨_, _, _, _, _, rfl, _⟩ := q; rfl) | (obtain ⟨_, _, _, _, _, _, rfl, _⟩ := q; rfl) | (unfold sp_spot_of at q; split at q <;> first | rfl | exact q.elim)
theorem ar_cell_of : ∀ ds h Q E, sp_cell_of ds h Q E → ds.length = 2 := by
  intro ds h Q E q
  first | (obtain ⟨_, rfl, _⟩ := q; rfl) | (obtain ⟨_, _, rfl, _⟩ := q; rfl) | (obtain ⟨_, _, _, rfl, _⟩ := q; rfl) | (obtain ⟨_, _, _, _, rfl, _⟩ := q; rfl) | (obtain ⟨_, _, _, _, _, rfl, _⟩ := q; rfl) | (obtain ⟨_, _, _, _, _, _, rfl, _⟩ := q; rfl) | (unfold sp_cell_of at q; split at q <;> first | rfl | exact q.elim)
theorem ar_code : ∀ ds h Q E, sp_code ds h Q E → ds.length = 2 := by
  intro ds h Q E q
  first | (obtain ⟨_, rfl, _⟩ := q; rfl) | (obtain ⟨_, _, rfl, _⟩ := q; rfl) | (obtain ⟨_, _, _, rfl, _⟩ := q; rfl) | (obtain ⟨_, _, _, _, rfl, _⟩ := q; rfl) | (obtain ⟨_, _, _, _, _, rfl, _⟩ := q; rfl) | (obtain ⟨_, _, _, _, _, _, rfl, _⟩ := q; rfl) | (unfold sp_code at q; split at q <;> first | rfl | exact q.elim)
theorem ar_owner_of : ∀ ds h Q E, sp_owner_of ds h Q E → ds.length = 1 := by
  intro ds h Q E q
  first | (obtain ⟨_, rfl, _⟩ := q; rfl) | (obtain ⟨_, _, rfl, _⟩ := q; rfl) | (obtain ⟨_, _, _, rfl, _⟩ := q; rfl) | (obtain ⟨_, _, _, _, rfl, _⟩ := q; rfl) | (obtain ⟨_, _, _, _, _, rfl, _⟩ := q; rfl) | (obtain ⟨_, _, _, _, _, _, rfl, _⟩ := q; rfl) | (unfold sp_owner_of at q; split at q <;> first | rfl | exact q.elim)
theorem ar_mover_of : ∀ ds h Q E, sp_mover_of ds h Q E → ds.length = 1 := by
  intro ds h Q E q
  first | (obtain ⟨_, rfl, _⟩ := q; rfl) | (obtain ⟨_, _, rfl, _⟩ := q; rfl) | (obtain ⟨_, _, _, rfl, _⟩ := q; rfl) | (obtain ⟨_, _, _, _, rfl, _⟩ := q; rfl) | (obtain ⟨_, _, _, _, _, rfl, _⟩ := q; rfl) | (obtain ⟨_, _, _, _, _, _, rfl, _⟩ := q; rfl) | (unfold sp_mover_of at q; split at q <;> first | rfl | exact q.elim)
theorem ar_is_picture : ∀ ds h Q E, sp_is_picture ds h Q E → ds.length = 2 := by
  intro ds h Q E q
  first | (obtain ⟨_, rfl, _⟩ := q; rfl) | (obtain ⟨_, _, rfl, _⟩ := q; rfl) | (obtain ⟨_, _, _, rfl, _⟩ := q; rfl) | (obtain ⟨_, _, _, _, rfl, _⟩ := q; rfl) | (obtain ⟨_, _, _, _, _, rfl, _⟩ := q; rfl) | (obtain ⟨_, _, _, _, _, _, rfl, _⟩ := q; rfl) | (unfold sp_is_picture at q; split at q <;> first | rfl | exact q.elim)
theorem ar_need_picture : ∀ ds h Q E, sp_need_picture ds h Q E → ds.length = 2 := by
  intro ds h Q E q
  first | (obtain ⟨_, rfl, _⟩ := q; rfl) | (obtain ⟨_, _, rfl, _⟩ := q; rfl) | (obtain ⟨_, _, _, rfl, _⟩ := q; rfl) | (obtain ⟨_, _, _, _, rfl, _⟩ := q; rfl) | (obtain ⟨_, _, _, _, _, rfl, _⟩ := q; rfl) | (obtain ⟨_, _, _, _, _, _, rfl, _⟩ := q; rfl) | (unfold sp_need_picture at q; split at q <;> first | rfl | exact q.elim)
theorem ar_first : ∀ ds h Q E, sp_first ds h Q E → ds.length = 1 := by
  intro ds h Q E q
  first | (obtain ⟨_, rfl, _⟩ := q; rfl) | (obtain ⟨_, _, rfl, _⟩ := q; rfl) | (obtain ⟨_, _, _, rfl, _⟩ := q; rfl) | (obtain ⟨_, _, _, _, rfl, _⟩ := q; rfl) | (obtain ⟨_, _, _, _, _, rfl, _⟩ := q; rfl) | (obtain ⟨_, _, _, _, _, _, rfl, _⟩ := q; rfl) | (unfold sp_first at q; split at q <;> first | rfl | exact q.elim)
theorem ar_begun : ∀ ds h Q E, sp_begun ds h Q E → ds.length = 1 := by
  intro ds h Q E q
  first | (obtain ⟨_, rfl, _⟩ := q; rfl) | (obtain ⟨_, _, rfl, _⟩ := q; rfl) | (obtain ⟨_, _, _, rfl, _⟩ := q; rfl) | (obtain ⟨_, _, _, _, rfl, _⟩ := q; rfl) | (obtain ⟨_, _, _, _, _, rfl, _⟩ := q; rfl) | (obtain ⟨_, _, _, _, _, _, rfl, _⟩ := q; rfl) | (unfold sp_begun at q; split at q <;> first | rfl | exact q.elim)
theorem ar_place_of : ∀ ds h Q E, sp_place_of ds h Q E → ds.length = 2 := by
  intro ds h Q E q
  first | (obtain ⟨_, rfl, _⟩ := q; rfl) | (obtain ⟨_, _, rfl, _⟩ := q; rfl) | (obtain ⟨_, _, _, rfl, _⟩ := q; rfl) | (obtain ⟨_, _, _, _, rfl, _⟩ := q; rfl) | (obtain ⟨_, _, _, _, _, rfl, _⟩ := q; rfl) | (obtain ⟨_, _, _, _, _, _, rfl, _⟩ := q; rfl) | (unfold sp_place_of at q; split at q <;> first | rfl | exact q.elim)
theorem ar_beside : ∀ ds h Q E, sp_beside ds h Q E → ds.length = 3 := by
  intro ds h Q E q
  first | (obtain ⟨_, rfl, _⟩ := q; rfl) | (obtain ⟨_, _, rfl, _⟩ := q; rfl) | (obtain ⟨_, _, _, rfl, _⟩ := q; rfl) | (obtain ⟨_, _, _, _, rfl, _⟩ := q; rfl) | (obtain ⟨_, _, _, _, _, rfl, _⟩ := q; rfl) | (obtain ⟨_, _, _, _, _, _, rfl, _⟩ := q; rfl) | (unfold sp_beside at q; split at q <;> first | rfl | exact q.elim)
theorem ar_is_open : ∀ ds h Q E, sp_is_open ds h Q E → ds.length = 2 := by
  intro ds h Q E q
  first | (obtain ⟨_, rfl, _⟩ := q; rfl) | (obtain ⟨_, _, rfl, _⟩ := q; rfl) | (obtain ⟨_, _, _, rfl, _⟩ := q; rfl) | (obtain ⟨_, _, _, _, rfl, _⟩ := q; rfl) | (obtain ⟨_, _, _, _, _, rfl, _⟩ := q; rfl) | (obtain ⟨_, _, _, _, _, _, rfl, _⟩ := q; rfl) | (unfold sp_is_open at q; split at q <;> first | rfl | exact q.elim)
theorem ar_step : ∀ ds h Q E, sp_step ds h Q E → ds.length = 4 := by
  intro ds h Q E q
  first | (obtain ⟨_, rfl, _⟩ := q; rfl) | (obtain ⟨_, _, rfl, _⟩ := q; rfl) | (obtain ⟨_, _, _, rfl, _⟩ := q; rfl) | (obtain ⟨_, _, _, _, rfl, _⟩ := q; rfl) | (obtain ⟨_, _, _, _, _, rfl, _⟩ := q; rfl) | (obtain ⟨_, _, _, _, _, _, rfl, _⟩ := q; rfl) | (unfold sp_step at q; split at q <;> first | rfl | exact q.elim)
theorem ar_mark : ∀ ds h Q E, sp_mark ds h Q E → ds.length = 3 := by
  intro ds h Q E q
  first | (obtain ⟨_, rfl, _⟩ := q; rfl) | (obtain ⟨_, _, rfl, _⟩ := q; rfl) | (obtain ⟨_, _, _, rfl, _⟩ := q; rfl) | (obtain ⟨_, _, _, _, rfl, _⟩ := q; rfl) | (obtain ⟨_, _, _, _, _, rfl, _⟩ := q; rfl) | (obtain ⟨_, _, _, _, _, _, rfl, _⟩ := q; rfl) | (unfold sp_mark at q; split at q <;> first | rfl | exact q.elim)
theorem ar_gone_on : ∀ ds h Q E, sp_gone_on ds h Q E → ds.length = 4 := by
  intro ds h Q E q
  first | (obtain ⟨_, rfl, _⟩ := q; rfl) | (obtain ⟨_, _, rfl, _⟩ := q; rfl) | (obtain ⟨_, _, _, rfl, _⟩ := q; rfl) | (obtain ⟨_, _, _, _, rfl, _⟩ := q; rfl) | (obtain ⟨_, _, _, _, _, rfl, _⟩ := q; rfl) | (obtain ⟨_, _, _, _, _, _, rfl, _⟩ := q; rfl) | (unfold sp_gone_on at q; split at q <;> first | rfl | exact q.elim)
theorem ar_need_hands : ∀ ds h Q E, sp_need_hands ds h Q E → ds.length = 2 := by
  intro ds h Q E q
  first | (obtain ⟨_, rfl, _⟩ := q; rfl) | (obtain ⟨_, _, rfl, _⟩ := q; rfl) | (obtain ⟨_, _, _, rfl, _⟩ := q; rfl) | (obtain ⟨_, _, _, _, rfl, _⟩ := q; rfl) | (obtain ⟨_, _, _, _, _, rfl, _⟩ := q; rfl) | (obtain ⟨_, _, _, _, _, _, rfl, _⟩ := q; rfl) | (unfold sp_need_hands at q; split at q <;> first | rfl | exact q.elim)
theorem ar_after : ∀ ds h Q E, sp_after ds h Q E → ds.length = 4 := by
  intro ds h Q E q
  first | (obtain ⟨_, rfl, _⟩ := q; rfl) | (obtain ⟨_, _, rfl, _⟩ := q; rfl) | (obtain ⟨_, _, _, rfl, _⟩ := q; rfl) | (obtain ⟨_, _, _, _, rfl, _⟩ := q; rfl) | (obtain ⟨_, _, _, _, _, rfl, _⟩ := q; rfl) | (obtain ⟨_, _, _, _, _, _, rfl, _⟩ := q; rfl) | (unfold sp_after at q; split at q <;> first | rfl | exact q.elim)
theorem ar_points : ∀ ds h Q E, sp_points ds h Q E → ds.length = 2 := by
  intro ds h Q E q
  first | (obtain ⟨_, rfl, _⟩ := q; rfl) | (obtain ⟨_, _, rfl, _⟩ := q; rfl) | (obtain ⟨_, _, _, rfl, _⟩ := q; rfl) | (obtain ⟨_, _, _, _, rfl, _⟩ := q; rfl) | (obtain ⟨_, _, _, _, _, rfl, _⟩ := q; rfl) | (obtain ⟨_, _, _, _, _, _, rfl, _⟩ := q; rfl) | (unfold sp_points at q; split at q <;> first | rfl | exact q.elim)
theorem ar_law_begun : ∀ ds h Q E, sp_law_begun ds h Q E → ds.length = 1 := by
  intro ds h Q E q
  first | (obtain ⟨_, rfl, _⟩ := q; rfl) | (obtain ⟨_, _, rfl, _⟩ := q; rfl) | (obtain ⟨_, _, _, rfl, _⟩ := q; rfl) | (obtain ⟨_, _, _, _, rfl, _⟩ := q; rfl) | (obtain ⟨_, _, _, _, _, rfl, _⟩ := q; rfl) | (obtain ⟨_, _, _, _, _, _, rfl, _⟩ := q; rfl) | (unfold sp_law_begun at q; split at q <;> first | rfl | exact q.elim)
theorem ar_law_take : ∀ ds h Q E, sp_law_take ds h Q E → ds.length = 2 := by
  intro ds h Q E q
  first | (obtain ⟨_, rfl, _⟩ := q; rfl) | (obtain ⟨_, _, rfl, _⟩ := q; rfl) | (obtain ⟨_, _, _, rfl, _⟩ := q; rfl) | (obtain ⟨_, _, _, _, rfl, _⟩ := q; rfl) | (obtain ⟨_, _, _, _, _, rfl, _⟩ := q; rfl) | (obtain ⟨_, _, _, _, _, _, rfl, _⟩ := q; rfl) | (unfold sp_law_take at q; split at q <;> first | rfl | exact q.elim)
theorem ar_law_plan : ∀ ds h Q E, sp_law_plan ds h Q E → ds.length = 1 := by
  intro ds h Q E q
  first | (obtain ⟨_, rfl, _⟩ := q; rfl) | (obtain ⟨_, _, rfl, _⟩ := q; rfl) | (obtain ⟨_, _, _, rfl, _⟩ := q; rfl) | (obtain ⟨_, _, _, _, rfl, _⟩ := q; rfl) | (obtain ⟨_, _, _, _, _, rfl, _⟩ := q; rfl) | (obtain ⟨_, _, _, _, _, _, rfl, _⟩ := q; rfl) | (unfold sp_law_plan at q; split at q <;> first | rfl | exact q.elim)
theorem ar_law_hand : ∀ ds h Q E, sp_law_hand ds h Q E → ds.length = 1 := by
  intro ds h Q E q
  first | (obtain ⟨_, rfl, _⟩ := q; rfl) | (obtain ⟨_, _, rfl, _⟩ := q; rfl) | (obtain ⟨_, _, _, rfl, _⟩ := q; rfl) | (obtain ⟨_, _, _, _, rfl, _⟩ := q; rfl) | (obtain ⟨_, _, _, _, _, rfl, _⟩ := q; rfl) | (obtain ⟨_, _, _, _, _, _, rfl, _⟩ := q; rfl) | (unfold sp_law_hand at q; split at q <;> first | rfl | exact q.elim)
theorem ar_law_first : ∀ ds h Q E, sp_law_first ds h Q E → ds.length = 1 := by
  intro ds h Q E q
  first | (obtain ⟨_, rfl, _⟩ := q; rfl) | (obtain ⟨_, _, rfl, _⟩ := q; rfl) | (obtain ⟨_, _, _, rfl, _⟩ := q; rfl) | (obtain ⟨_, _, _, _, rfl, _⟩ := q; rfl) | (obtain ⟨_, _, _, _, _, rfl, _⟩ := q; rfl) | (obtain ⟨_, _, _, _, _, _, rfl, _⟩ := q; rfl) | (unfold sp_law_first at q; split at q <;> first | rfl | exact q.elim)
theorem ar_law_beside : ∀ ds h Q E, sp_law_beside ds h Q E → ds.length = 2 := by
  intro ds h Q E q
  first | (obtain ⟨_, rfl, _⟩ := q; rfl) | (obtain ⟨_, _, rfl, _⟩ := q; rfl) | (obtain ⟨_, _, _, rfl, _⟩ := q; rfl) | (obtain ⟨_, _, _, _, rfl, _⟩ := q; rfl) | (obtain ⟨_, _, _, _, _, rfl, _⟩ := q; rfl) | (obtain ⟨_, _, _, _, _, _, rfl, _⟩ := q; rfl) | (unfold sp_law_beside at q; split at q <;> first | rfl | exact q.elim)
theorem ar_law_gone : ∀ ds h Q E, sp_law_gone ds h Q E → ds.length = 4 := by
  intro ds h Q E q
  first | (obtain ⟨_, rfl, _⟩ := q; rfl) | (obtain ⟨_, _, rfl, _⟩ := q; rfl) | (obtain ⟨_, _, _, rfl, _⟩ := q; rfl) | (obtain ⟨_, _, _, _, rfl, _⟩ := q; rfl) | (obtain ⟨_, _, _, _, _, rfl, _⟩ := q; rfl) | (obtain ⟨_, _, _, _, _, _, rfl, _⟩ := q; rfl) | (unfold sp_law_gone at q; split at q <;> first | rfl | exact q.elim)
theorem ar_law_made_up : ∀ ds h Q E, sp_law_made_up ds h Q E → ds.length = 2 := by
  intro ds h Q E q
  first | (obtain ⟨_, rfl, _⟩ := q; rfl) | (obtain ⟨_, _, rfl, _⟩ := q; rfl) | (obtain ⟨_, _, _, rfl, _⟩ := q; rfl) | (obtain ⟨_, _, _, _, rfl, _⟩ := q; rfl) | (obtain ⟨_, _, _, _, _, rfl, _⟩ := q; rfl) | (obtain ⟨_, _, _, _, _, _, rfl, _⟩ := q; rfl) | (unfold sp_law_made_up at q; split at q <;> first | rfl | exact q.elim)
theorem ar_law : ∀ ds h Q E, spLaw ds h Q E → ds.length = 1 := by
  intro ds h Q E q
  first | (obtain ⟨_, rfl, _⟩ := q; rfl) | (obtain ⟨_, _, rfl, _⟩ := q; rfl) | (obtain ⟨_, _, _, rfl, _⟩ := q; rfl) | (obtain ⟨_, _, _, _, rfl, _⟩ := q; rfl) | (obtain ⟨_, _, _, _, _, rfl, _⟩ := q; rfl) | (obtain ⟨_, _, _, _, _, _, rfl, _⟩ := q; rfl) | (unfold spLaw at q; split at q <;> first | rfl | exact q.elim)
theorem no_call {P : Program} {w : World} {K : PySem.W.Frag} {mg : Str → Option Value} {base : Heap} {cn : Cn} {x : Str} {f : Addr} {fd : FuncData} {ps : List Str} (hm : mg x = some (.ref f)) (kp : PySem.W.keepIn K (.ref f) = true) (hb : Binds K fd ps []) : CallOk P w K mg base cn x 0 ps (fun _ _ _ _ => False) :=
  ⟨f, fd, ⟨fun vs H Q E h => by obtain ⟨_, _, _, _, _, _, z, _⟩ := h; exact z.elim, fun A outer s H args us vs Q E _ _ _ _ h => by obtain ⟨_, _, _, _, _, _, z, _⟩ := h; exact z.elim⟩, hm, kp, hb⟩
theorem ar_alikeN {n : Nat} : ∀ ds h Q E, sp_alikeN n ds h Q E → ds.length = 2 := by
  rintro ds h Q E ⟨x, y, P, rfl, _⟩
  rfl
theorem c_law_alikeN {P : Program} {w : World} {K : PySem.W.Frag} {mg : Str → Option Value} {base : Heap} {cn : Cn} (T : Txt K w cn mg) {f : Addr} {fd : FuncData} (F : Fun K "_law_alike" "_law_alike" st_law_alike f fd) (hm : mg "_law_alike" = some (.ref f)) (hb : Binds K fd ["_law_found", "_law_due"] []) :
    ∀ n, CallOk P w K mg base cn "_law_alike" (n + 1) ["_law_found", "_law_due"] (sp_alikeN n)
  | 0 => ⟨f, fd, fn_ok F sc_law_alike ar_alikeN (fun cdv A outer s H E hr => d_law_alike T (no_call hm F.kp hb) hr) (ok_alikeN 0 fun m e => by cases e), hm, F.kp, hb⟩
  | n + 1 => ⟨f, fd, fn_ok F sc_law_alike ar_alikeN (fun cdv A outer s H E hr => d_law_alike T (c_law_alikeN T F hm hb n) hr) (ok_alikeN (n + 1) fun m e => by cases e; rfl), hm, F.kp, hb⟩
theorem c_law_alike {P : Program} {w : World} {K : PySem.W.Frag} {mg : Str → Option Value} {base : Heap} {cn : Cn} (T : Txt K w cn mg) {f : Addr} {fd : FuncData} (F : Fun K "_law_alike" "_law_alike" st_law_alike f fd) (hm : mg "_law_alike" = some (.ref f)) (hb : Binds K fd ["_law_found", "_law_due"] []) : CallOk P w K mg base cn "_law_alike" 4 ["_law_found", "_law_due"] sp_law_alike := c_law_alikeN T F hm hb 3
section
variable {P : Program} {w : World} {K : PySem.W.Frag} {mg : Str → Option Value} {base : Heap} {cn : Cn}
theorem c_is_number (T : Txt K w cn mg)  {f : Addr} {fd : FuncData} (F : Fun K "is_number" "is_number" st_is_number f fd) (hm : mg "is_number" = some (.ref f)) (hb : Binds K fd ["part", "low", "high"] []) : CallOk P w K mg base cn "is_number" 1 ["part", "low", "high"] sp_is_number :=
  ⟨f, fd, fn_ok F sc_is_number ar_is_number (fun cdv A outer s H E hr => d_is_number T  hr) ok_is_number, hm, F.kp, hb⟩
theorem c_need_count (T : Txt K w cn mg) (C_is_number : CallOk P w K mg base cn "is_number" 1 ["part", "low", "high"] sp_is_number) {f : Addr} {fd : FuncData} (F : Fun K "need_count" "need_count" st_need_count f fd) (hm : mg "need_count" = some (.ref f)) (hb : Binds K fd ["part", "low", "high"] []) : CallOk P w K mg base cn "need_count" 2 ["part", "low", "high"] sp_need_count :=
  ⟨f, fd, fn_ok F sc_need_count ar_need_count (fun cdv A outer s H E hr => d_need_count T C_is_number hr) ok_need_count, hm, F.kp, hb⟩
theorem c_need_hand (T : Txt K w cn mg)  {f : Addr} {fd : FuncData} (F : Fun K "need_hand" "need_hand" st_need_hand f fd) (hm : mg "need_hand" = some (.ref f)) (hb : Binds K fd ["hand"] []) : CallOk P w K mg base cn "need_hand" 1 ["hand"] sp_need_hand :=
  ⟨f, fd, fn_ok F sc_need_hand ar_need_hand (fun cdv A outer s H E hr => d_need_hand T  hr) ok_need_hand, hm, F.kp, hb⟩
theorem c_is_cell (T : Txt K w cn mg) (C_is_number : CallOk P w K mg base cn "is_number" 1 ["part", "low", "high"] sp_is_number) {f : Addr} {fd : FuncData} (F : Fun K "is_cell" "is_cell" st_is_cell f fd) (hm : mg "is_cell" = some (.ref f)) (hb : Binds K fd ["part", "wide", "high"] []) : CallOk P w K mg base cn "is_cell" 2 ["part", "wide", "high"] sp_is_cell :=
  ⟨f, fd, fn_ok F sc_is_cell ar_is_cell (fun cdv A outer s H E hr => d_is_cell T C_is_number hr) ok_is_cell, hm, F.kp, hb⟩
theorem c_need_plan (T : Txt K w cn mg) (C_is_number : CallOk P w K mg base cn "is_number" 1 ["part", "low", "high"] sp_is_number) (C_is_cell : CallOk P w K mg base cn "is_cell" 2 ["part", "wide", "high"] sp_is_cell) {f : Addr} {fd : FuncData} (F : Fun K "need_plan" "need_plan" st_need_plan f fd) (hm : mg "need_plan" = some (.ref f)) (hb : Binds K fd ["plan"] []) : CallOk P w K mg base cn "need_plan" 3 ["plan"] sp_need_plan :=
  ⟨f, fd, fn_ok F sc_need_plan ar_need_plan (fun cdv A outer s H E hr => d_need_plan T C_is_number C_is_cell hr) ok_need_plan, hm, F.kp, hb⟩
theorem c_many_of (T : Txt K w cn mg)  {f : Addr} {fd : FuncData} (F : Fun K "many_of" "many_of" st_many_of f fd) (hm : mg "many_of" = some (.ref f)) (hb : Binds K fd ["plan"] []) : CallOk P w K mg base cn "many_of" 1 ["plan"] sp_many_of :=
  ⟨f, fd, fn_ok F sc_many_of ar_many_of (fun cdv A outer s H E hr => d_many_of T  hr) ok_many_of, hm, F.kp, hb⟩
theorem c_spot_of (T : Txt K w cn mg)  {f : Addr} {fd : FuncData} (F : Fun K "spot_of" "spot_of" st_spot_of f fd) (hm : mg "spot_of" = some (.ref f)) (hb : Binds K fd ["plan", "cell"] []) : CallOk P w K mg base cn "spot_of" 1 ["plan", "cell"] sp_spot_of :=
  ⟨f, fd, fn_ok F sc_spot_of ar_spot_of (fun cdv A outer s H E hr => d_spot_of T  hr) ok_spot_of, hm, F.kp, hb⟩
theorem c_cell_of (T : Txt K w cn mg)  {f : Addr} {fd : FuncData} (F : Fun K "cell_of" "cell_of" st_cell_of f fd) (hm : mg "cell_of" = some (.ref f)) (hb : Binds K fd ["plan", "number"] []) : CallOk P w K mg base cn "cell_of" 1 ["plan", "number"] sp_cell_of :=
  ⟨f, fd, fn_ok F sc_cell_of ar_cell_of (fun cdv A outer s H E hr => d_cell_of T  hr) ok_cell_of, hm, F.kp, hb⟩
theorem c_code (T : Txt K w cn mg)  {f : Addr} {fd : FuncData} (F : Fun K "code" "code" st_code f fd) (hm : mg "code" = some (.ref f)) (hb : Binds K fd ["owner", "mover"] []) : CallOk P w K mg base cn "code" 1 ["owner", "mover"] sp_code :=
  ⟨f, fd, fn_ok F sc_code ar_code (fun cdv A outer s H E hr => d_code T  hr) ok_code, hm, F.kp, hb⟩
theorem c_owner_of (T : Txt K w cn mg)  {f : Addr} {fd : FuncData} (F : Fun K "owner_of" "owner_of" st_owner_of f fd) (hm : mg "owner_of" = some (.ref f)) (hb : Binds K fd ["number"] []) : CallOk P w K mg base cn "owner_of" 1 ["number"] sp_owner_of :=
  ⟨f, fd, fn_ok F sc_owner_of ar_owner_of (fun cdv A outer s H E hr => d_owner_of T  hr) ok_owner_of, hm, F.kp, hb⟩
theorem c_mover_of (T : Txt K w cn mg)  {f : Addr} {fd : FuncData} (F : Fun K "mover_of" "mover_of" st_mover_of f fd) (hm : mg "mover_of" = some (.ref f)) (hb : Binds K fd ["number"] []) : CallOk P w K mg base cn "mover_of" 1 ["number"] sp_mover_of :=
  ⟨f, fd, fn_ok F sc_mover_of ar_mover_of (fun cdv A outer s H E hr => d_mover_of T  hr) ok_mover_of, hm, F.kp, hb⟩
theorem c_is_picture (T : Txt K w cn mg) (C_many_of : CallOk P w K mg base cn "many_of" 1 ["plan"] sp_many_of) (C_spot_of : CallOk P w K mg base cn "spot_of" 1 ["plan", "cell"] sp_spot_of) (C_is_number : CallOk P w K mg base cn "is_number" 1 ["part", "low", "high"] sp_is_number) (C_code : CallOk P w K mg base cn "code" 1 ["owner", "mover"] sp_code) (C_mover_of : CallOk P w K mg base cn "mover_of" 1 ["number"] sp_mover_of) {f : Addr} {fd : FuncData} (F : Fun K "is_picture" "is_picture" st_is_picture f fd) (hm : mg "is_picture" = some (.ref f)) (hb : Binds K fd ["plan", "picture"] []) : CallOk P w K mg base cn "is_picture" 2 ["plan", "picture"] sp_is_picture :=
  ⟨f, fd, fn_ok F sc_is_picture ar_is_picture (fun cdv A outer s H E hr => d_is_picture T C_many_of C_spot_of C_is_number C_code C_mover_of hr) ok_is_picture, hm, F.kp, hb⟩
theorem c_need_picture (T : Txt K w cn mg) (C_is_picture : CallOk P w K mg base cn "is_picture" 2 ["plan", "picture"] sp_is_picture) {f : Addr} {fd : FuncData} (F : Fun K "need_picture" "need_picture" st_need_picture f fd) (hm : mg "need_picture" = some (.ref f)) (hb : Binds K fd ["plan", "picture"] []) : CallOk P w K mg base cn "need_picture" 3 ["plan", "picture"] sp_need_picture :=
  ⟨f, fd, fn_ok F sc_need_picture ar_need_picture (fun cdv A outer s H E hr => d_need_picture T C_is_picture hr) ok_need_picture, hm, F.kp, hb⟩
theorem c_first (T : Txt K w cn mg) (C_spot_of : CallOk P w K mg base cn "spot_of" 1 ["plan", "cell"] sp_spot_of) (C_code : CallOk P w K mg base cn "code" 1 ["owner", "mover"] sp_code) {f : Addr} {fd : FuncData} (F : Fun K "first" "first" st_first f fd) (hm : mg "first" = some (.ref f)) (hb : Binds K fd ["plan"] []) : CallOk P w K mg base cn "first" 2 ["plan"] sp_first :=
  ⟨f, fd, fn_ok F sc_first ar_first (fun cdv A outer s H E hr => d_first T C_spot_of C_code hr) ok_first, hm, F.kp, hb⟩
theorem c_begun (T : Txt K w cn mg) (C_need_plan : CallOk P w K mg base cn "need_plan" 3 ["plan"] sp_need_plan) (C_first : CallOk P w K mg base cn "first" 2 ["plan"] sp_first) {f : Addr} {fd : FuncData} (F : Fun K "begun" "begun" st_begun f fd) (hm : mg "begun" = some (.ref f)) (hb : Binds K fd ["plan"] []) : CallOk P w K mg base cn "begun" 4 ["plan"] sp_begun :=
  ⟨f, fd, fn_ok F sc_begun ar_begun (fun cdv A outer s H E hr => d_begun T C_need_plan C_first hr) ok_begun, hm, F.kp, hb⟩
theorem c_place_of (T : Txt K w cn mg) (C_mover_of : CallOk P w K mg base cn "mover_of" 1 ["number"] sp_mover_of) {f : Addr} {fd : FuncData} (F : Fun K "place_of" "place_of" st_place_of f fd) (hm : mg "place_of" = some (.ref f)) (hb : Binds K fd ["cells", "seat"] []) : CallOk P w K mg base cn "place_of" 2 ["cells", "seat"] sp_place_of :=
  ⟨f, fd, fn_ok F sc_place_of ar_place_of (fun cdv A outer s H E hr => d_place_of T C_mover_of hr) ok_place_of, hm, F.kp, hb⟩
theorem c_beside (T : Txt K w cn mg) (C_cell_of : CallOk P w K mg base cn "cell_of" 1 ["plan", "number"] sp_cell_of) (C_is_cell : CallOk P w K mg base cn "is_cell" 2 ["part", "wide", "high"] sp_is_cell) (C_spot_of : CallOk P w K mg base cn "spot_of" 1 ["plan", "cell"] sp_spot_of) {f : Addr} {fd : FuncData} (F : Fun K "beside" "beside" st_beside f fd) (hm : mg "beside" = some (.ref f)) (hb : Binds K fd ["plan", "number", "way"] []) : CallOk P w K mg base cn "beside" 3 ["plan", "number", "way"] sp_beside :=
  ⟨f, fd, fn_ok F sc_beside ar_beside (fun cdv A outer s H E hr => d_beside T C_cell_of C_is_cell C_spot_of hr) ok_beside, hm, F.kp, hb⟩
theorem c_is_open (T : Txt K w cn mg) (C_mover_of : CallOk P w K mg base cn "mover_of" 1 ["number"] sp_mover_of) {f : Addr} {fd : FuncData} (F : Fun K "is_open" "is_open" st_is_open f fd) (hm : mg "is_open" = some (.ref f)) (hb : Binds K fd ["cells", "number"] []) : CallOk P w K mg base cn "is_open" 2 ["cells", "number"] sp_is_open :=
  ⟨f, fd, fn_ok F sc_is_open ar_is_open (fun cdv A outer s H E hr => d_is_open T C_mover_of hr) ok_is_open, hm, F.kp, hb⟩
theorem c_step (T : Txt K w cn mg) (C_place_of : CallOk P w K mg base cn "place_of" 2 ["cells", "seat"] sp_place_of) (C_beside : CallOk P w K mg base cn "beside" 3 ["plan", "number", "way"] sp_beside) (C_is_open : CallOk P w K mg base cn "is_open" 2 ["cells", "number"] sp_is_open) (C_owner_of : CallOk P w K mg base cn "owner_of" 1 ["number"] sp_owner_of) (C_code : CallOk P w K mg base cn "code" 1 ["owner", "mover"] sp_code) {f : Addr} {fd : FuncData} (F : Fun K "step" "step" st_step f fd) (hm : mg "step" = some (.ref f)) (hb : Binds K fd ["plan", "cells", "seat", "way"] []) : CallOk P w K mg base cn "step" 4 ["plan", "cells", "seat", "way"] sp_step :=
  ⟨f, fd, fn_ok F sc_step ar_step (fun cdv A outer s H E hr => d_step T C_place_of C_beside C_is_open C_owner_of C_code hr) ok_step, hm, F.kp, hb⟩
theorem c_mark (T : Txt K w cn mg) (C_place_of : CallOk P w K mg base cn "place_of" 2 ["cells", "seat"] sp_place_of) (C_beside : CallOk P w K mg base cn "beside" 3 ["plan", "number", "way"] sp_beside) (C_is_open : CallOk P w K mg base cn "is_open" 2 ["cells", "number"] sp_is_open) (C_code : CallOk P w K mg base cn "code" 1 ["owner", "mover"] sp_code) {f : Addr} {fd : FuncData} (F : Fun K "mark" "mark" st_mark f fd) (hm : mg "mark" = some (.ref f)) (hb : Binds K fd ["plan", "cells", "seat"] []) : CallOk P w K mg base cn "mark" 4 ["plan", "cells", "seat"] sp_mark :=
  ⟨f, fd, fn_ok F sc_mark ar_mark (fun cdv A outer s H E hr => d_mark T C_place_of C_beside C_is_open C_code hr) ok_mark, hm, F.kp, hb⟩
theorem c_gone_on (T : Txt K w cn mg) (C_many_of : CallOk P w K mg base cn "many_of" 1 ["plan"] sp_many_of) (C_mark : CallOk P w K mg base cn "mark" 4 ["plan", "cells", "seat"] sp_mark) (C_step : CallOk P w K mg base cn "step" 4 ["plan", "cells", "seat", "way"] sp_step) {f : Addr} {fd : FuncData} (F : Fun K "gone_on" "gone_on" st_gone_on f fd) (hm : mg "gone_on" = some (.ref f)) (hb : Binds K fd ["plan", "picture", "tick", "hands"] []) : CallOk P w K mg base cn "gone_on" 5 ["plan", "picture", "tick", "hands"] sp_gone_on :=
  ⟨f, fd, fn_ok F sc_gone_on ar_gone_on (fun cdv A outer s H E hr => d_gone_on T C_many_of C_mark C_step hr) ok_gone_on, hm, F.kp, hb⟩
theorem c_need_hands (T : Txt K w cn mg) (C_many_of : CallOk P w K mg base cn "many_of" 1 ["plan"] sp_many_of) (C_need_hand : CallOk P w K mg base cn "need_hand" 1 ["hand"] sp_need_hand) {f : Addr} {fd : FuncData} (F : Fun K "need_hands" "need_hands" st_need_hands f fd) (hm : mg "need_hands" = some (.ref f)) (hb : Binds K fd ["plan", "hands"] []) : CallOk P w K mg base cn "need_hands" 2 ["plan", "hands"] sp_need_hands :=
  ⟨f, fd, fn_ok F sc_need_hands ar_need_hands (fun cdv A outer s H E hr => d_need_hands T C_many_of C_need_hand hr) ok_need_hands, hm, F.kp, hb⟩
theorem c_after (T : Txt K w cn mg) (C_need_plan : CallOk P w K mg base cn "need_plan" 3 ["plan"] sp_need_plan) (C_need_picture : CallOk P w K mg base cn "need_picture" 3 ["plan", "picture"] sp_need_picture) (C_need_count : CallOk P w K mg base cn "need_count" 2 ["part", "low", "high"] sp_need_count) (C_need_hands : CallOk P w K mg base cn "need_hands" 2 ["plan", "hands"] sp_need_hands) (C_gone_on : CallOk P w K mg base cn "gone_on" 5 ["plan", "picture", "tick", "hands"] sp_gone_on) {f : Addr} {fd : FuncData} (F : Fun K "after" "after" st_after f fd) (hm : mg "after" = some (.ref f)) (hb : Binds K fd ["plan", "picture", "tick", "hands"] []) : CallOk P w K mg base cn "after" 6 ["plan", "picture", "tick", "hands"] sp_after :=
  ⟨f, fd, fn_ok F sc_after ar_after (fun cdv A outer s H E hr => d_after T C_need_plan C_need_picture C_need_count C_need_hands C_gone_on hr) ok_after, hm, F.kp, hb⟩
theorem c_points (T : Txt K w cn mg) (C_need_plan : CallOk P w K mg base cn "need_plan" 3 ["plan"] sp_need_plan) (C_need_picture : CallOk P w K mg base cn "need_picture" 3 ["plan", "picture"] sp_need_picture) (C_owner_of : CallOk P w K mg base cn "owner_of" 1 ["number"] sp_owner_of) (C_many_of : CallOk P w K mg base cn "many_of" 1 ["plan"] sp_many_of) {f : Addr} {fd : FuncData} (F : Fun K "points" "points" st_points f fd) (hm : mg "points" = some (.ref f)) (hb : Binds K fd ["plan", "picture"] []) : CallOk P w K mg base cn "points" 4 ["plan", "picture"] sp_points :=
  ⟨f, fd, fn_ok F sc_points ar_points (fun cdv A outer s H E hr => d_points T C_need_plan C_need_picture C_owner_of C_many_of hr) ok_points, hm, F.kp, hb⟩
theorem c_law_begun (T : Txt K w cn mg)  {f : Addr} {fd : FuncData} (F : Fun K "_law_begun" "_law_begun" st_law_begun f fd) (hm : mg "_law_begun" = some (.ref f)) (hb : Binds K fd ["_law_script"] []) : CallOk P w K mg base cn "_law_begun" 1 ["_law_script"] sp_law_begun :=
  ⟨f, fd, fn_ok F sc_law_begun ar_law_begun (fun cdv A outer s H E hr => d_law_begun T  hr) ok_law_begun, hm, F.kp, hb⟩
theorem c_law_take (T : Txt K w cn mg)  {f : Addr} {fd : FuncData} (F : Fun K "_law_take" "_law_take" st_law_take f fd) (hm : mg "_law_take" = some (.ref f)) (hb : Binds K fd ["_law_box", "_law_many"] []) : CallOk P w K mg base cn "_law_take" 1 ["_law_box", "_law_many"] sp_law_take :=
  ⟨f, fd, fn_ok F sc_law_take ar_law_take (fun cdv A outer s H E hr => d_law_take T  hr) ok_law_take, hm, F.kp, hb⟩
theorem c_law_plan (T : Txt K w cn mg) (C_law_take : CallOk P w K mg base cn "_law_take" 1 ["_law_box", "_law_many"] sp_law_take) {f : Addr} {fd : FuncData} (F : Fun K "_law_plan" "_law_plan" st_law_plan f fd) (hm : mg "_law_plan" = some (.ref f)) (hb : Binds K fd ["_law_box"] []) : CallOk P w K mg base cn "_law_plan" 2 ["_law_box"] sp_law_plan :=
  ⟨f, fd, fn_ok F sc_law_plan ar_law_plan (fun cdv A outer s H E hr => d_law_plan T C_law_take hr) ok_law_plan, hm, F.kp, hb⟩
theorem c_law_hand (T : Txt K w cn mg) (C_law_take : CallOk P w K mg base cn "_law_take" 1 ["_law_box", "_law_many"] sp_law_take) {f : Addr} {fd : FuncData} (F : Fun K "_law_hand" "_law_hand" st_law_hand f fd) (hm : mg "_law_hand" = some (.ref f)) (hb : Binds K fd ["_law_box"] []) : CallOk P w K mg base cn "_law_hand" 2 ["_law_box"] sp_law_hand :=
  ⟨f, fd, fn_ok F sc_law_hand ar_law_hand (fun cdv A outer s H E hr => d_law_hand T C_law_take hr) ok_law_hand, hm, F.kp, hb⟩
theorem c_law_first (T : Txt K w cn mg)  {f : Addr} {fd : FuncData} (F : Fun K "_law_first" "_law_first" st_law_first f fd) (hm : mg "_law_first" = some (.ref f)) (hb : Binds K fd ["_law_plan_here"] []) : CallOk P w K mg base cn "_law_first" 1 ["_law_plan_here"] sp_law_first :=
  ⟨f, fd, fn_ok F sc_law_first ar_law_first (fun cdv A outer s H E hr => d_law_first T  hr) ok_law_first, hm, F.kp, hb⟩
theorem c_law_beside (T : Txt K w cn mg)  {f : Addr} {fd : FuncData} (F : Fun K "_law_beside" "_law_beside" st_law_beside f fd) (hm : mg "_law_beside" = some (.ref f)) (hb : Binds K fd ["_law_plan_here", "_law_place"] []) : CallOk P w K mg base cn "_law_beside" 1 ["_law_plan_here", "_law_place"] sp_law_beside :=
  ⟨f, fd, fn_ok F sc_law_beside ar_law_beside (fun cdv A outer s H E hr => d_law_beside T  hr) ok_law_beside, hm, F.kp, hb⟩
theorem c_law_gone (T : Txt K w cn mg) (C_law_beside : CallOk P w K mg base cn "_law_beside" 1 ["_law_plan_here", "_law_place"] sp_law_beside) {f : Addr} {fd : FuncData} (F : Fun K "_law_gone" "_law_gone" st_law_gone f fd) (hm : mg "_law_gone" = some (.ref f)) (hb : Binds K fd ["_law_plan_here", "_law_picture", "_law_tick", "_law_hands"] []) : CallOk P w K mg base cn "_law_gone" 2 ["_law_plan_here", "_law_picture", "_law_tick", "_law_hands"] sp_law_gone :=
  ⟨f, fd, fn_ok F sc_law_gone ar_law_gone (fun cdv A outer s H E hr => d_law_gone T C_law_beside hr) ok_law_gone, hm, F.kp, hb⟩
theorem c_law_made_up (T : Txt K w cn mg) (C_law_take : CallOk P w K mg base cn "_law_take" 1 ["_law_box", "_law_many"] sp_law_take) {f : Addr} {fd : FuncData} (F : Fun K "_law_made_up" "_law_made_up" st_law_made_up f fd) (hm : mg "_law_made_up" = some (.ref f)) (hb : Binds K fd ["_law_box", "_law_plan_here"] []) : CallOk P w K mg base cn "_law_made_up" 2 ["_law_box", "_law_plan_here"] sp_law_made_up :=
  ⟨f, fd, fn_ok F sc_law_made_up ar_law_made_up (fun cdv A outer s H E hr => d_law_made_up T C_law_take hr) ok_law_made_up, hm, F.kp, hb⟩
end
section
theorem all_mk {l : PySem.W.OpenLaw} {w : World} {K : PySem.W.Frag} {h : Heap} {mg : Str → Option Value} {fa : Addr} (X : K.In h) (G : h.Ns mainGlobals mg) (hfa : mg "law" = some (.ref fa))
    {f_is_number : Addr} {od_is_number an_is_number : Option Addr} {sl_is_number : Array (Option Value)} {oc_is_number kV_is_number dc_is_number pm_is_number cd_is_number ct_is_number : Value}
    {f_need_count : Addr} {od_need_count an_need_count : Option Addr} {sl_need_count : Array (Option Value)} {oc_need_count kV_need_count dc_need_count pm_need_count cd_need_count ct_need_count : Value}
    {f_need_hand : Addr} {od_need_hand an_need_hand : Option Addr} {sl_need_hand : Array (Option Value)} {oc_need_hand kV_need_hand dc_need_hand pm_need_hand cd_need_hand ct_need_hand : Value}
    {f_is_cell : Addr} {od_is_cell an_is_cell : Option Addr} {sl_is_cell : Array (Option Value)} {oc_is_cell kV_is_cell dc_is_cell pm_is_cell cd_is_cell ct_is_cell : Value}
    {f_need_plan : Addr} {od_need_plan an_need_plan : Option Addr} {sl_need_plan : Array (Option Value)} {oc_need_plan kV_need_plan dc_need_plan pm_need_plan cd_need_plan ct_need_plan : Value}
    {f_many_of : Addr} {od_many_of an_many_of : Option Addr} {sl_many_of : Array (Option Value)} {oc_many_of kV_many_of dc_many_of pm_many_of cd_many_of ct_many_of : Value}
    {f_spot_of : Addr} {od_spot_of an_spot_of : Option Addr} {sl_spot_of : Array (Option Value)} {oc_spot_of kV_spot_of dc_spot_of pm_spot_of cd_spot_of ct_spot_of : Value}
    {f_cell_of : Addr} {od_cell_of an_cell_of : Option Addr} {sl_cell_of : Array (Option Value)} {oc_cell_of kV_cell_of dc_cell_of pm_cell_of cd_cell_of ct_cell_of : Value}
    {f_code : Addr} {od_code an_code : Option Addr} {sl_code : Array (Option Value)} {oc_code kV_code dc_code pm_code cd_code ct_code : Value}
    {f_owner_of : Addr} {od_owner_of an_owner_of : Option Addr} {sl_owner_of : Array (Option Value)} {oc_owner_of kV_owner_of dc_owner_of pm_owner_of cd_owner_of ct_owner_of : Value}
    {f_mover_of : Addr} {od_mover_of an_mover_of : Option Addr} {sl_mover_of : Array (Option Value)} {oc_mover_of kV_mover_of dc_mover_of pm_mover_of cd_mover_of ct_mover_of : Value}
    {f_is_picture : Addr} {od_is_picture an_is_picture : Option Addr} {sl_is_picture : Array (Option Value)} {oc_is_picture kV_is_picture dc_is_picture pm_is_picture cd_is_picture ct_is_picture : Value}
    {f_need_picture : Addr} {od_need_picture an_need_picture : Option Addr} {sl_need_picture : Array (Option Value)} {oc_need_picture kV_need_picture dc_need_picture pm_need_picture cd_need_picture ct_need_picture : Value}
    {f_first : Addr} {od_first an_first : Option Addr} {sl_first : Array (Option Value)} {oc_first kV_first dc_first pm_first cd_first ct_first : Value}
    {f_begun : Addr} {od_begun an_begun : Option Addr} {sl_begun : Array (Option Value)} {oc_begun kV_begun dc_begun pm_begun cd_begun ct_begun : Value}
    {f_place_of : Addr} {od_place_of an_place_of : Option Addr} {sl_place_of : Array (Option Value)} {oc_place_of kV_place_of dc_place_of pm_place_of cd_place_of ct_place_of : Value}
    {f_beside : Addr} {od_beside an_beside : Option Addr} {sl_beside : Array (Option Value)} {oc_beside kV_beside dc_beside pm_beside cd_beside ct_beside : Value}
    {f_is_open : Addr} {od_is_open an_is_open : Option Addr} {sl_is_open : Array (Option Value)} {oc_is_open kV_is_open dc_is_open pm_is_open cd_is_open ct_is_open : Value}
    {f_step : Addr} {od_step an_step : Option Addr} {sl_step : Array (Option Value)} {oc_step kV_step dc_step pm_step cd_step ct_step : Value}
    {f_mark : Addr} {od_mark an_mark : Option Addr} {sl_mark : Array (Option Value)} {oc_mark kV_mark dc_mark pm_mark cd_mark ct_mark : Value}
    {f_gone_on : Addr} {od_gone_on an_gone_on : Option Addr} {sl_gone_on : Array (Option Value)} {oc_gone_on kV_gone_on dc_gone_on pm_gone_on cd_gone_on ct_gone_on : Value}
    {f_need_hands : Addr} {od_need_hands an_need_hands : Option Addr} {sl_need_hands : Array (Option Value)} {oc_need_hands kV_need_hands dc_need_hands pm_need_hands cd_need_hands ct_need_hands : Value}
    {f_after : Addr} {od_after an_after : Option Addr} {sl_after : Array (Option Value)} {oc_after kV_after dc_after pm_after cd_after ct_after : Value}
    {f_points : Addr} {od_points an_points : Option Addr} {sl_points : Array (Option Value)} {oc_points kV_points dc_points pm_points cd_points ct_points : Value}
    {f_law_begun : Addr} {od_law_begun an_law_begun : Option Addr} {sl_law_begun : Array (Option Value)} {oc_law_begun kV_law_begun dc_law_begun pm_law_begun cd_law_begun ct_law_begun : Value}
    {f_law_take : Addr} {od_law_take an_law_take : Option Addr} {sl_law_take : Array (Option Value)} {oc_law_take kV_law_take dc_law_take pm_law_take cd_law_take ct_law_take : Value}
    {f_law_alike : Addr} {od_law_alike an_law_alike : Option Addr} {sl_law_alike : Array (Option Value)} {oc_law_alike kV_law_alike dc_law_alike pm_law_alike cd_law_alike ct_law_alike : Value}
    {f_law_plan : Addr} {od_law_plan an_law_plan : Option Addr} {sl_law_plan : Array (Option Value)} {oc_law_plan kV_law_plan dc_law_plan pm_law_plan cd_law_plan ct_law_plan : Value}
    {f_law_hand : Addr} {od_law_hand an_law_hand : Option Addr} {sl_law_hand : Array (Option Value)} {oc_law_hand kV_law_hand dc_law_hand pm_law_hand cd_law_hand ct_law_hand : Value}
    {f_law_first : Addr} {od_law_first an_law_first : Option Addr} {sl_law_first : Array (Option Value)} {oc_law_first kV_law_first dc_law_first pm_law_first cd_law_first ct_law_first : Value}
    {f_law_beside : Addr} {od_law_beside an_law_beside : Option Addr} {sl_law_beside : Array (Option Value)} {oc_law_beside kV_law_beside dc_law_beside pm_law_beside cd_law_beside ct_law_beside : Value}
    {f_law_gone : Addr} {od_law_gone an_law_gone : Option Addr} {sl_law_gone : Array (Option Value)} {oc_law_gone kV_law_gone dc_law_gone pm_law_gone cd_law_gone ct_law_gone : Value}
    {f_law_made_up : Addr} {od_law_made_up an_law_made_up : Option Addr} {sl_law_made_up : Array (Option Value)} {oc_law_made_up kV_law_made_up dc_law_made_up pm_law_made_up cd_law_made_up ct_law_made_up : Value}
    {f_law : Addr} {od_law an_law : Option Addr} {sl_law : Array (Option Value)} {oc_law kV_law dc_law pm_law cd_law ct_law : Value}
    {tk_BLOCK : Tok}
    {tk_FREE : Tok}
    {ad_HANDS n_HANDS : Nat} {dd_HANDS : Option Addr} {sl_HANDS : Array (Option Value)} {t0_HANDS t1_HANDS t2_HANDS t3_HANDS t4_HANDS t5_HANDS : Tok}
    {tk_LEAST_SIDE : Tok}
    {tk_MARK : Tok}
    {tk_MOST_SEATS : Tok}
    {tk_MOST_SIDE : Tok}
    {tk_MOST_TICK : Tok}
    {tk_SHARE : Tok}
    {ad_WAYS n_WAYS : Nat} {es_WAYS : Array DictEntry}
    {ad0_WAYS n0_WAYS : Nat} {dd0_WAYS : Option Addr} {sl0_WAYS : Array (Option Value)} {u0_0_WAYS u0_1_WAYS : Tok}
    {ad1_WAYS n1_WAYS : Nat} {dd1_WAYS : Option Addr} {sl1_WAYS : Array (Option Value)} {u1_0_WAYS u1_1_WAYS : Tok}
    {ad2_WAYS n2_WAYS : Nat} {dd2_WAYS : Option Addr} {sl2_WAYS : Array (Option Value)} {u2_0_WAYS u2_1_WAYS : Tok}
    {ad3_WAYS n3_WAYS : Nat} {dd3_WAYS : Option Addr} {sl3_WAYS : Array (Option Value)} {u3_0_WAYS u3_1_WAYS : Tok}
    (a_is_number : PySem.W.nsIn K mainGlobals "is_number" = some (some (.ref f_is_number)))
    (l_is_number : K.lookup f_is_number = some ⟨oc_is_number, od_is_number, .func (PySem.W.fnOf "is_number" "is_number" (defArgs st_is_number) (defBody st_is_number) (defScope st_is_number) .none kV_is_number dc_is_number pm_is_number an_is_number cd_is_number ct_is_number), sl_is_number⟩)
    (e_is_number : PySem.W.codeIn K cd_is_number "is_number" = true)
    (k_is_number : PySem.W.keepIn K (.ref f_is_number) = true)
    (a_need_count : PySem.W.nsIn K mainGlobals "need_count" = some (some (.ref f_need_count)))
    (l_need_count : K.lookup f_need_count = some ⟨oc_need_count, od_need_count, .func (PySem.W.fnOf "need_count" "need_count" (defArgs st_need_count) (defBody st_need_count) (defScope st_need_count) .none kV_need_count dc_need_count pm_need_count an_need_count cd_need_count ct_need_count), sl_need_count⟩)
    (e_need_count : PySem.W.codeIn K cd_need_count "need_count" = true)
    (k_need_count : PySem.W.keepIn K (.ref f_need_count) = true)
    (a_need_hand : PySem.W.nsIn K mainGlobals "need_hand" = some (some (.ref f_need_hand)))
    (l_need_hand : K.lookup f_need_hand = some ⟨oc_need_hand, od_need_hand, .func (PySem.W.fnOf "need_hand" "need_hand" (defArgs st_need_hand) (defBody st_need_hand) (defScope st_need_hand) .none kV_need_hand dc_need_hand pm_need_hand an_need_hand cd_need_hand ct_need_hand), sl_need_hand⟩)
    (e_need_hand : PySem.W.codeIn K cd_need_hand "need_hand" = true)
    (k_need_hand : PySem.W.keepIn K (.ref f_need_hand) = true)
    (a_is_cell : PySem.W.nsIn K mainGlobals "is_cell" = some (some (.ref f_is_cell)))
    (l_is_cell : K.lookup f_is_cell = some ⟨oc_is_cell, od_is_cell, .func (PySem.W.fnOf "is_cell" "is_cell" (defArgs st_is_cell) (defBody st_is_cell) (defScope st_is_cell) .none kV_is_cell dc_is_cell pm_is_cell an_is_cell cd_is_cell ct_is_cell), sl_is_cell⟩)
    (e_is_cell : PySem.W.codeIn K cd_is_cell "is_cell" = true)
    (k_is_cell : PySem.W.keepIn K (.ref f_is_cell) = true)
    (a_need_plan : PySem.W.nsIn K mainGlobals "need_plan" = some (some (.ref f_need_plan)))
    (l_need_plan : K.lookup f_need_plan = some ⟨oc_need_plan, od_need_plan, .func (PySem.W.fnOf "need_plan" "need_plan" (defArgs st_need_plan) (defBody st_need_plan) (defScope st_need_plan) .none kV_need_plan dc_need_plan pm_need_plan an_need_plan cd_need_plan ct_need_plan), sl_need_plan⟩)
    (e_need_plan : PySem.W.codeIn K cd_need_plan "need_plan" = true)
    (k_need_plan : PySem.W.keepIn K (.ref f_need_plan) = true)
    (a_many_of : PySem.W.nsIn K mainGlobals "many_of" = some (some (.ref f_many_of)))
    (l_many_of : K.lookup f_many_of = some ⟨oc_many_of, od_many_of, .func (PySem.W.fnOf "many_of" "many_of" (defArgs st_many_of) (defBody st_many_of) (defScope st_many_of) .none kV_many_of dc_many_of pm_many_of an_many_of cd_many_of ct_many_of), sl_many_of⟩)
    (e_many_of : PySem.W.codeIn K cd_many_of "many_of" = true)
    (k_many_of : PySem.W.keepIn K (.ref f_many_of) = true)
    (a_spot_of : PySem.W.nsIn K mainGlobals "spot_of" = some (some (.ref f_spot_of)))
    (l_spot_of : K.lookup f_spot_of = some ⟨oc_spot_of, od_spot_of, .func (PySem.W.fnOf "spot_of" "spot_of" (defArgs st_spot_of) (defBody st_spot_of) (defScope st_spot_of) .none kV_spot_of dc_spot_of pm_spot_of an_spot_of cd_spot_of ct_spot_of), sl_spot_of⟩)
    (e_spot_of : PySem.W.codeIn K cd_spot_of "spot_of" = true)
    (k_spot_of : PySem.W.keepIn K (.ref f_spot_of) = true)
    (a_cell_of : PySem.W.nsIn K mainGlobals "cell_of" = some (some (.ref f_cell_of)))
    (l_cell_of : K.lookup f_cell_of = some ⟨oc_cell_of, od_cell_of, .func (PySem.W.fnOf "cell_of" "cell_of" (defArgs st_cell_of) (defBody st_cell_of) (defScope st_cell_of) .none kV_cell_of dc_cell_of pm_cell_of an_cell_of cd_cell_of ct_cell_of), sl_cell_of⟩)
    (e_cell_of : PySem.W.codeIn K cd_cell_of "cell_of" = true)
    (k_cell_of : PySem.W.keepIn K (.ref f_cell_of) = true)
    (a_code : PySem.W.nsIn K mainGlobals "code" = some (some (.ref f_code)))
    (l_code : K.lookup f_code = some ⟨oc_code, od_code, .func (PySem.W.fnOf "code" "code" (defArgs st_code) (defBody st_code) (defScope st_code) .none kV_code dc_code pm_code an_code cd_code ct_code), sl_code⟩)
    (e_code : PySem.W.codeIn K cd_code "code" = true)
    (k_code : PySem.W.keepIn K (.ref f_code) = true)
    (a_owner_of : PySem.W.nsIn K mainGlobals "owner_of" = some (some (.ref f_owner_of)))
    (l_owner_of : K.lookup f_owner_of = some ⟨oc_owner_of, od_owner_of, .func (PySem.W.fnOf "owner_of" "owner_of" (defArgs st_owner_of) (defBody st_owner_of) (defScope st_owner_of) .none kV_owner_of dc_owner_of pm_owner_of an_owner_of cd_owner_of ct_owner_of), sl_owner_of⟩)
    (e_owner_of : PySem.W.codeIn K cd_owner_of "owner_of" = true)
    (k_owner_of : PySem.W.keepIn K (.ref f_owner_of) = true)
    (a_mover_of : PySem.W.nsIn K mainGlobals "mover_of" = some (some (.ref f_mover_of)))
    (l_mover_of : K.lookup f_mover_of = some ⟨oc_mover_of, od_mover_of, .func (PySem.W.fnOf "mover_of" "mover_of" (defArgs st_mover_of) (defBody st_mover_of) (defScope st_mover_of) .none kV_mover_of dc_mover_of pm_mover_of an_mover_of cd_mover_of ct_mover_of), sl_mover_of⟩)
    (e_mover_of : PySem.W.codeIn K cd_mover_of "mover_of" = true)
    (k_mover_of : PySem.W.keepIn K (.ref f_mover_of) = true)
    (a_is_picture : PySem.W.nsIn K mainGlobals "is_picture" = some (some (.ref f_is_picture)))
    (l_is_picture : K.lookup f_is_picture = some ⟨oc_is_picture, od_is_picture, .func (PySem.W.fnOf "is_picture" "is_picture" (defArgs st_is_picture) (defBody st_is_picture) (defScope st_is_picture) .none kV_is_picture dc_is_picture pm_is_picture an_is_picture cd_is_picture ct_is_picture), sl_is_picture⟩)
    (e_is_picture : PySem.W.codeIn K cd_is_picture "is_picture" = true)
    (k_is_picture : PySem.W.keepIn K (.ref f_is_picture) = true)
    (a_need_picture : PySem.W.nsIn K mainGlobals "need_picture" = some (some (.ref f_need_picture)))
    (l_need_picture : K.lookup f_need_picture = some ⟨oc_need_picture, od_need_picture, .func (PySem.W.fnOf "need_picture" "need_picture" (defArgs st_need_picture) (defBody st_need_picture) (defScope st_need_picture) .none kV_need_picture dc_need_picture pm_need_picture an_need_picture cd_need_picture ct_need_picture), sl_need_picture⟩)
    (e_need_picture : PySem.W.codeIn K cd_need_picture "need_picture" = true)
    (k_need_picture : PySem.W.keepIn K (.ref f_need_picture) = true)
    (a_first : PySem.W.nsIn K mainGlobals "first" = some (some (.ref f_first)))
    (l_first : K.lookup f_first = some ⟨oc_first, od_first, .func (PySem.W.fnOf "first" "first" (defArgs st_first) (defBody st_first) (defScope st_first) .none kV_first dc_first pm_first an_first cd_first ct_first), sl_first⟩)
    (e_first : PySem.W.codeIn K cd_first "first" = true)
    (k_first : PySem.W.keepIn K (.ref f_first) = true)
    (a_begun : PySem.W.nsIn K mainGlobals "begun" = some (some (.ref f_begun)))
    (l_begun : K.lookup f_begun = some ⟨oc_begun, od_begun, .func (PySem.W.fnOf "begun" "begun" (defArgs st_begun) (defBody st_begun) (defScope st_begun) .none kV_begun dc_begun pm_begun an_begun cd_begun ct_begun), sl_begun⟩)
    (e_begun : PySem.W.codeIn K cd_begun "begun" = true)
    (k_begun : PySem.W.keepIn K (.ref f_begun) = true)
    (a_place_of : PySem.W.nsIn K mainGlobals "place_of" = some (some (.ref f_place_of)))
    (l_place_of : K.lookup f_place_of = some ⟨oc_place_of, od_place_of, .func (PySem.W.fnOf "place_of" "place_of" (defArgs st_place_of) (defBody st_place_of) (defScope st_place_of) .none kV_place_of dc_place_of pm_place_of an_place_of cd_place_of ct_place_of), sl_place_of⟩)
    (e_place_of : PySem.W.codeIn K cd_place_of "place_of" = true)
    (k_place_of : PySem.W.keepIn K (.ref f_place_of) = true)
    (a_beside : PySem.W.nsIn K mainGlobals "beside" = some (some (.ref f_beside)))
    (l_beside : K.lookup f_beside = some ⟨oc_beside, od_beside, .func (PySem.W.fnOf "beside" "beside" (defArgs st_beside) (defBody st_beside) (defScope st_beside) .none kV_beside dc_beside pm_beside an_beside cd_beside ct_beside), sl_beside⟩)
    (e_beside : PySem.W.codeIn K cd_beside "beside" = true)
    (k_beside : PySem.W.keepIn K (.ref f_beside) = true)
    (a_is_open : PySem.W.nsIn K mainGlobals "is_open" = some (some (.ref f_is_open)))
    (l_is_open : K.lookup f_is_open = some ⟨oc_is_open, od_is_open, .func (PySem.W.fnOf "is_open" "is_open" (defArgs st_is_open) (defBody st_is_open) (defScope st_is_open) .none kV_is_open dc_is_open pm_is_open an_is_open cd_is_open ct_is_open), sl_is_open⟩)
    (e_is_open : PySem.W.codeIn K cd_is_open "is_open" = true)
    (k_is_open : PySem.W.keepIn K (.ref f_is_open) = true)
    (a_step : PySem.W.nsIn K mainGlobals "step" = some (some (.ref f_step)))
    (l_step : K.lookup f_step = some ⟨oc_step, od_step, .func (PySem.W.fnOf "step" "step" (defArgs st_step) (defBody st_step) (defScope st_step) .none kV_step dc_step pm_step an_step cd_step ct_step), sl_step⟩)
    (e_step : PySem.W.codeIn K cd_step "step" = true)
    (k_step : PySem.W.keepIn K (.ref f_step) = true)
    (a_mark : PySem.W.nsIn K mainGlobals "mark" = some (some (.ref f_mark)))
    (l_mark : K.lookup f_mark = some ⟨oc_mark, od_mark, .func (PySem.W.fnOf "mark" "mark" (defArgs st_mark) (defBody st_mark) (defScope st_mark) .none kV_mark dc_mark pm_mark an_mark cd_mark ct_mark), sl_mark⟩)
    (e_mark : PySem.W.codeIn K cd_mark "mark" = true)
    (k_mark : PySem.W.keepIn K (.ref f_mark) = true)
    (a_gone_on : PySem.W.nsIn K mainGlobals "gone_on" = some (some (.ref f_gone_on)))
    (l_gone_on : K.lookup f_gone_on = some ⟨oc_gone_on, od_gone_on, .func (PySem.W.fnOf "gone_on" "gone_on" (defArgs st_gone_on) (defBody st_gone_on) (defScope st_gone_on) .none kV_gone_on dc_gone_on pm_gone_on an_gone_on cd_gone_on ct_gone_on), sl_gone_on⟩)
    (e_gone_on : PySem.W.codeIn K cd_gone_on "gone_on" = true)
    (k_gone_on : PySem.W.keepIn K (.ref f_gone_on) = true)
    (a_need_hands : PySem.W.nsIn K mainGlobals "need_hands" = some (some (.ref f_need_hands)))
    (l_need_hands : K.lookup f_need_hands = some ⟨oc_need_hands, od_need_hands, .func (PySem.W.fnOf "need_hands" "need_hands" (defArgs st_need_hands) (defBody st_need_hands) (defScope st_need_hands) .none kV_need_hands dc_need_hands pm_need_hands an_need_hands cd_need_hands ct_need_hands), sl_need_hands⟩)
    (e_need_hands : PySem.W.codeIn K cd_need_hands "need_hands" = true)
    (k_need_hands : PySem.W.keepIn K (.ref f_need_hands) = true)
    (a_after : PySem.W.nsIn K mainGlobals "after" = some (some (.ref f_after)))
    (l_after : K.lookup f_after = some ⟨oc_after, od_after, .func (PySem.W.fnOf "after" "after" (defArgs st_after) (defBody st_after) (defScope st_after) .none kV_after dc_after pm_after an_after cd_after ct_after), sl_after⟩)
    (e_after : PySem.W.codeIn K cd_after "after" = true)
    (k_after : PySem.W.keepIn K (.ref f_after) = true)
    (a_points : PySem.W.nsIn K mainGlobals "points" = some (some (.ref f_points)))
    (l_points : K.lookup f_points = some ⟨oc_points, od_points, .func (PySem.W.fnOf "points" "points" (defArgs st_points) (defBody st_points) (defScope st_points) .none kV_points dc_points pm_points an_points cd_points ct_points), sl_points⟩)
    (e_points : PySem.W.codeIn K cd_points "points" = true)
    (k_points : PySem.W.keepIn K (.ref f_points) = true)
    (a_law_begun : PySem.W.nsIn K mainGlobals "_law_begun" = some (some (.ref f_law_begun)))
    (l_law_begun : K.lookup f_law_begun = some ⟨oc_law_begun, od_law_begun, .func (PySem.W.fnOf "_law_begun" "_law_begun" (defArgs st_law_begun) (defBody st_law_begun) (defScope st_law_begun) .none kV_law_begun dc_law_begun pm_law_begun an_law_begun cd_law_begun ct_law_begun), sl_law_begun⟩)
    (e_law_begun : PySem.W.codeIn K cd_law_begun "_law_begun" = true)
    (k_law_begun : PySem.W.keepIn K (.ref f_law_begun) = true)
    (a_law_take : PySem.W.nsIn K mainGlobals "_law_take" = some (some (.ref f_law_take)))
    (l_law_take : K.lookup f_law_take = some ⟨oc_law_take, od_law_take, .func (PySem.W.fnOf "_law_take" "_law_take" (defArgs st_law_take) (defBody st_law_take) (defScope st_law_take) .none kV_law_take dc_law_take pm_law_take an_law_take cd_law_take ct_law_take), sl_law_take⟩)
    (e_law_take : PySem.W.codeIn K cd_law_take "_law_take" = true)
    (k_law_take : PySem.W.keepIn K (.ref f_law_take) = true)
    (a_law_alike : PySem.W.nsIn K mainGlobals "_law_alike" = some (some (.ref f_law_alike)))
    (l_law_alike : K.lookup f_law_alike = some ⟨oc_law_alike, od_law_alike, .func (PySem.W.fnOf "_law_alike" "_law_alike" (defArgs st_law_alike) (defBody st_law_alike) (defScope st_law_alike) .none kV_law_alike dc_law_alike pm_law_alike an_law_alike cd_law_alike ct_law_alike), sl_law_alike⟩)
    (e_law_alike : PySem.W.codeIn K cd_law_alike "_law_alike" = true)
    (k_law_alike : PySem.W.keepIn K (.ref f_law_alike) = true)
    (a_law_plan : PySem.W.nsIn K mainGlobals "_law_plan" = some (some (.ref f_law_plan)))
    (l_law_plan : K.lookup f_law_plan = some ⟨oc_law_plan, od_law_plan, .func (PySem.W.fnOf "_law_plan" "_law_plan" (defArgs st_law_plan) (defBody st_law_plan) (defScope st_law_plan) .none kV_law_plan dc_law_plan pm_law_plan an_law_plan cd_law_plan ct_law_plan), sl_law_plan⟩)
    (e_law_plan : PySem.W.codeIn K cd_law_plan "_law_plan" = true)
    (k_law_plan : PySem.W.keepIn K (.ref f_law_plan) = true)
    (a_law_hand : PySem.W.nsIn K mainGlobals "_law_hand" = some (some (.ref f_law_hand)))
    (l_law_hand : K.lookup f_law_hand = some ⟨oc_law_hand, od_law_hand, .func (PySem.W.fnOf "_law_hand" "_law_hand" (defArgs st_law_hand) (defBody st_law_hand) (defScope st_law_hand) .none kV_law_hand dc_law_hand pm_law_hand an_law_hand cd_law_hand ct_law_hand), sl_law_hand⟩)
    (e_law_hand : PySem.W.codeIn K cd_law_hand "_law_hand" = true)
    (k_law_hand : PySem.W.keepIn K (.ref f_law_hand) = true)
    (a_law_first : PySem.W.nsIn K mainGlobals "_law_first" = some (some (.ref f_law_first)))
    (l_law_first : K.lookup f_law_first = some ⟨oc_law_first, od_law_first, .func (PySem.W.fnOf "_law_first" "_law_first" (defArgs st_law_first) (defBody st_law_first) (defScope st_law_first) .none kV_law_first dc_law_first pm_law_first an_law_first cd_law_first ct_law_first), sl_law_first⟩)
    (e_law_first : PySem.W.codeIn K cd_law_first "_law_first" = true)
    (k_law_first : PySem.W.keepIn K (.ref f_law_first) = true)
    (a_law_beside : PySem.W.nsIn K mainGlobals "_law_beside" = some (some (.ref f_law_beside)))
    (l_law_beside : K.lookup f_law_beside = some ⟨oc_law_beside, od_law_beside, .func (PySem.W.fnOf "_law_beside" "_law_beside" (defArgs st_law_beside) (defBody st_law_beside) (defScope st_law_beside) .none kV_law_beside dc_law_beside pm_law_beside an_law_beside cd_law_beside ct_law_beside), sl_law_beside⟩)
    (e_law_beside : PySem.W.codeIn K cd_law_beside "_law_beside" = true)
    (k_law_beside : PySem.W.keepIn K (.ref f_law_beside) = true)
    (a_law_gone : PySem.W.nsIn K mainGlobals "_law_gone" = some (some (.ref f_law_gone)))
    (l_law_gone : K.lookup f_law_gone = some ⟨oc_law_gone, od_law_gone, .func (PySem.W.fnOf "_law_gone" "_law_gone" (defArgs st_law_gone) (defBody st_law_gone) (defScope st_law_gone) .none kV_law_gone dc_law_gone pm_law_gone an_law_gone cd_law_gone ct_law_gone), sl_law_gone⟩)
    (e_law_gone : PySem.W.codeIn K cd_law_gone "_law_gone" = true)
    (k_law_gone : PySem.W.keepIn K (.ref f_law_gone) = true)
    (a_law_made_up : PySem.W.nsIn K mainGlobals "_law_made_up" = some (some (.ref f_law_made_up)))
    (l_law_made_up : K.lookup f_law_made_up = some ⟨oc_law_made_up, od_law_made_up, .func (PySem.W.fnOf "_law_made_up" "_law_made_up" (defArgs st_law_made_up) (defBody st_law_made_up) (defScope st_law_made_up) .none kV_law_made_up dc_law_made_up pm_law_made_up an_law_made_up cd_law_made_up ct_law_made_up), sl_law_made_up⟩)
    (e_law_made_up : PySem.W.codeIn K cd_law_made_up "_law_made_up" = true)
    (k_law_made_up : PySem.W.keepIn K (.ref f_law_made_up) = true)
    (a_law : PySem.W.nsIn K mainGlobals "law" = some (some (.ref f_law)))
    (l_law : K.lookup f_law = some ⟨oc_law, od_law, .func (PySem.W.fnOf "law" "law" (defArgs st_law) (defBody st_law) (defScope st_law) .none kV_law dc_law pm_law an_law cd_law ct_law), sl_law⟩)
    (e_law : PySem.W.codeIn K cd_law "law" = true)
    (k_law : PySem.W.keepIn K (.ref f_law) = true)
    (g_BLOCK : PySem.W.nsIn K mainGlobals "BLOCK" = some (some (.int (-1) tk_BLOCK)))
    (g_FREE : PySem.W.nsIn K mainGlobals "FREE" = some (some (.int (0) tk_FREE)))
    (g_HANDS : PySem.W.nsIn K mainGlobals "HANDS" = some (some (.ref ad_HANDS)))
    (h_HANDS : K.lookup ad_HANDS = some ⟨.type "tuple", dd_HANDS, .seq #[(.str "n" t0_HANDS), (.str "e" t1_HANDS), (.str "s" t2_HANDS), (.str "w" t3_HANDS), (.str "mark" t4_HANDS), (.str "" t5_HANDS)] n_HANDS, sl_HANDS⟩)
    (g_LEAST_SIDE : PySem.W.nsIn K mainGlobals "LEAST_SIDE" = some (some (.int (2) tk_LEAST_SIDE)))
    (g_MARK : PySem.W.nsIn K mainGlobals "MARK" = some (some (.str "mark" tk_MARK)))
    (g_MOST_SEATS : PySem.W.nsIn K mainGlobals "MOST_SEATS" = some (some (.int (4) tk_MOST_SEATS)))
    (g_MOST_SIDE : PySem.W.nsIn K mainGlobals "MOST_SIDE" = some (some (.int (6) tk_MOST_SIDE)))
    (g_MOST_TICK : PySem.W.nsIn K mainGlobals "MOST_TICK" = some (some (.int (9999) tk_MOST_TICK)))
    (g_SHARE : PySem.W.nsIn K mainGlobals "SHARE" = some (some (.int (10) tk_SHARE)))
    (g_WAYS : PySem.W.nsIn K mainGlobals "WAYS" = some (some (.ref ad_WAYS)))
    (h_WAYS : K.lookup ad_WAYS = some ⟨.type "dict", none, .dict es_WAYS n_WAYS, #[]⟩)
    (h0_WAYS : K.lookup ad0_WAYS = some ⟨.type "tuple", dd0_WAYS, .seq #[(.int (0) u0_0_WAYS), (.int (-1) u0_1_WAYS)] n0_WAYS, sl0_WAYS⟩)
    (h1_WAYS : K.lookup ad1_WAYS = some ⟨.type "tuple", dd1_WAYS, .seq #[(.int (1) u1_0_WAYS), (.int (0) u1_1_WAYS)] n1_WAYS, sl1_WAYS⟩)
    (h2_WAYS : K.lookup ad2_WAYS = some ⟨.type "tuple", dd2_WAYS, .seq #[(.int (0) u2_0_WAYS), (.int (1) u2_1_WAYS)] n2_WAYS, sl2_WAYS⟩)
    (h3_WAYS : K.lookup ad3_WAYS = some ⟨.type "tuple", dd3_WAYS, .seq #[(.int (-1) u3_0_WAYS), (.int (0) u3_1_WAYS)] n3_WAYS, sl3_WAYS⟩)
    (w_WAYS : WdEs es_WAYS.toList [(("n" : Str), V.ref ad0_WAYS), (("e" : Str), V.ref ad1_WAYS), (("s" : Str), V.ref ad2_WAYS), (("w" : Str), V.ref ad3_WAYS)])
    (y_WAYS : PySem.W.KeysLit w.params es_WAYS.toList)
    (z_WAYS : (ad_WAYS == sysModules) = false)
    (b_all : PySem.W.nsIn K mainGlobals "all" = some none)
    (b_bool : PySem.W.nsIn K mainGlobals "bool" = some none)
    (b_enumerate : PySem.W.nsIn K mainGlobals "enumerate" = some none)
    (b_int : PySem.W.nsIn K mainGlobals "int" = some none)
    (b_isinstance : PySem.W.nsIn K mainGlobals "isinstance" = some none)
    (b_len : PySem.W.nsIn K mainGlobals "len" = some none)
    (b_list : PySem.W.nsIn K mainGlobals "list" = some none)
    (b_range : PySem.W.nsIn K mainGlobals "range" = some none)
    (b_str : PySem.W.nsIn K mainGlobals "str" = some none)
    (b_sum : PySem.W.nsIn K mainGlobals "sum" = some none)
    (b_tuple : PySem.W.nsIn K mainGlobals "tuple" = some none)
    : ∃ (fd : FuncData) (cn : Cn), (∀ (s : Shared) (u : Value), BindsTo s fd ⟨[u], []⟩ [("_law_script", u)]) ∧ ∀ base : Heap, K.In base → base.Ns mainGlobals mg → FnOk l.prog w K mg base (L2.CX l.prog w) 7 fa fd ["_law_script"] (liftSp ⟨K, w, cn⟩ spLaw) := by
  have e := hfa.symm.trans (PySem.W.mg_of X G a_law)
  cases e
  have T : Txt K w (fun _ => none) mg := ⟨⟨_, (.int (-1)), PySem.W.mg_of X G g_BLOCK, ⟨_, rfl⟩, fun H => .int _⟩,
    ⟨_, (.int (0)), PySem.W.mg_of X G g_FREE, ⟨_, rfl⟩, fun H => .int _⟩,
    ⟨_, .ref ad_HANDS, PySem.W.mg_of X G g_HANDS, rfl, fun H => .ct (vs := [(.str "n"), (.str "e"), (.str "s"), (.str "w"), (.str "mark"), (.str "")]) ⟨_, _, _, h_HANDS, rfl, rfl, Nat.le_of_ble_eq_true rfl, (.cons ⟨_, rfl⟩ (.cons ⟨_, rfl⟩ (.cons ⟨_, rfl⟩ (.cons ⟨_, rfl⟩ (.cons ⟨_, rfl⟩ (.cons ⟨_, rfl⟩ .nil))))))⟩ (.cons (.str _) (.cons (.str _) (.cons (.str _) (.cons (.str _) (.cons (.str _) (.cons (.str _) .nil))))))⟩,
    ⟨_, (.int (2)), PySem.W.mg_of X G g_LEAST_SIDE, ⟨_, rfl⟩, fun H => .int _⟩,
    ⟨_, (.str "mark"), PySem.W.mg_of X G g_MARK, ⟨_, rfl⟩, fun H => .str _⟩,
    ⟨_, (.int (4)), PySem.W.mg_of X G g_MOST_SEATS, ⟨_, rfl⟩, fun H => .int _⟩,
    ⟨_, (.int (6)), PySem.W.mg_of X G g_MOST_SIDE, ⟨_, rfl⟩, fun H => .int _⟩,
    ⟨_, (.int (9999)), PySem.W.mg_of X G g_MOST_TICK, ⟨_, rfl⟩, fun H => .int _⟩,
    ⟨_, (.int (10)), PySem.W.mg_of X G g_SHARE, ⟨_, rfl⟩, fun H => .int _⟩,
    ⟨_, .ref ad_WAYS, PySem.W.mg_of X G g_WAYS, rfl, fun H => .wd ⟨_, _, ⟨h_WAYS, y_WAYS, z_WAYS⟩, w_WAYS⟩ (.cons (.ct (vs := [(.int (0)), (.int (-1))]) ⟨_, _, _, h0_WAYS, rfl, rfl, Nat.le_of_ble_eq_true rfl, (.cons ⟨_, rfl⟩ (.cons ⟨_, rfl⟩ .nil))⟩ (.cons (.int _) (.cons (.int _) .nil))) (.cons (.ct (vs := [(.int (1)), (.int (0))]) ⟨_, _, _, h1_WAYS, rfl, rfl, Nat.le_of_ble_eq_true rfl, (.cons ⟨_, rfl⟩ (.cons ⟨_, rfl⟩ .nil))⟩ (.cons (.int _) (.cons (.int _) .nil))) (.cons (.ct (vs := [(.int (0)), (.int (1))]) ⟨_, _, _, h2_WAYS, rfl, rfl, Nat.le_of_ble_eq_true rfl, (.cons ⟨_, rfl⟩ (.cons ⟨_, rfl⟩ .nil))⟩ (.cons (.int _) (.cons (.int _) .nil))) (.cons (.ct (vs := [(.int (-1)), (.int (0))]) ⟨_, _, _, h3_WAYS, rfl, rfl, Nat.le_of_ble_eq_true rfl, (.cons ⟨_, rfl⟩ (.cons ⟨_, rfl⟩ .nil))⟩ (.cons (.int _) (.cons (.int _) .nil))) .nil))))⟩,
    PySem.W.mg_none_of X G b_all,
    PySem.W.mg_none_of X G b_bool,
    PySem.W.mg_none_of X G b_enumerate,
    PySem.W.mg_none_of X G b_int,
    PySem.W.mg_none_of X G b_isinstance,
    PySem.W.mg_none_of X G b_len,
    PySem.W.mg_none_of X G b_list,
    PySem.W.mg_none_of X G b_range,
    PySem.W.mg_none_of X G b_str,
    PySem.W.mg_none_of X G b_sum,
    PySem.W.mg_none_of X G b_tuple⟩
  have F_is_number := fun_mk (st := st_is_number) l_is_number e_is_number k_is_number
  have B_is_number := F_is_number.binds (ps := ["part", "low", "high"]) fun _ _ _ _ _ _ us hl => match us, hl with | [_, _, _], _ => rfl
  have F_need_count := fun_mk (st := st_need_count) l_need_count e_need_count k_need_count
  have B_need_count := F_need_count.binds (ps := ["part", "low", "high"]) fun _ _ _ _ _ _ us hl => match us, hl with | [_, _, _], _ => rfl
  have F_need_hand := fun_mk (st := st_need_hand) l_need_hand e_need_hand k_need_hand
  have B_need_hand := F_need_hand.binds (ps := ["hand"]) fun _ _ _ _ _ _ us hl => match us, hl with | [_], _ => rfl
  have F_is_cell := fun_mk (st := st_is_cell) l_is_cell e_is_cell k_is_cell
  have B_is_cell := F_is_cell.binds (ps := ["part", "wide", "high"]) fun _ _ _ _ _ _ us hl => match us, hl with | [_, _, _], _ => rfl
  have F_need_plan := fun_mk (st := st_need_plan) l_need_plan e_need_plan k_need_plan
  have B_need_plan := F_need_plan.binds (ps := ["plan"]) fun _ _ _ _ _ _ us hl => match us, hl with | [_], _ => rfl
  have F_many_of := fun_mk (st := st_many_of) l_many_of e_many_of k_many_of
  have B_many_of := F_many_of.binds (ps := ["plan"]) fun _ _ _ _ _ _ us hl => match us, hl with | [_], _ => rfl
  have F_spot_of := fun_mk (st := st_spot_of) l_spot_of e_spot_of k_spot_of
  have B_spot_of := F_spot_of.binds (ps := ["plan", "cell"]) fun _ _ _ _ _ _ us hl => match us, hl with | [_, _], _ => rfl
  have F_cell_of := fun_mk (st := st_cell_of) l_cell_of e_cell_of k_cell_of
  have B_cell_of := F_cell_of.binds (ps := ["plan", "number"]) fun _ _ _ _ _ _ us hl => match us, hl with | [_, _], _ => rfl
  have F_code := fun_mk (st := st_code) l_code e_code k_code
  have B_code := F_code.binds (ps := ["owner", "mover"]) fun _ _ _ _ _ _ us hl => match us, hl with | [_, _], _ => rfl
  have F_owner_of := fun_mk (st := st_owner_of) l_owner_of e_owner_of k_owner_of
  have B_owner_of := F_owner_of.binds (ps := ["number"]) fun _ _ _ _ _ _ us hl => match us, hl with | [_], _ => rfl
  have F_mover_of := fun_mk (st := st_mover_of) l_mover_of e_mover_of k_mover_of
  have B_mover_of := F_mover_of.binds (ps := ["number"]) fun _ _ _ _ _ _ us hl => match us, hl with | [_], _ => rfl
  have F_is_picture := fun_mk (st := st_is_picture) l_is_picture e_is_picture k_is_picture
  have B_is_picture := F_is_picture.binds (ps := ["plan", "picture"]) fun _ _ _ _ _ _ us hl => match us, hl with | [_, _], _ => rfl
  have F_need_picture := fun_mk (st := st_need_picture) l_need_picture e_need_picture k_need_picture
  have B_need_picture := F_need_picture.binds (ps := ["plan", "picture"]) fun _ _ _ _ _ _ us hl => match us, hl with | [_, _], _ => rfl
  have F_first := fun_mk (st := st_first) l_first e_first k_first
  have B_first := F_first.binds (ps := ["plan"]) fun _ _ _ _ _ _ us hl => match us, hl with | [_], _ => rfl
  have F_begun := fun_mk (st := st_begun) l_begun e_begun k_begun
  have B_begun := F_begun.binds (ps := ["plan"]) fun _ _ _ _ _ _ us hl => match us, hl with | [_], _ => rfl
  have F_place_of := fun_mk (st := st_place_of) l_place_of e_place_of k_place_of
  have B_place_of := F_place_of.binds (ps := ["cells", "seat"]) fun _ _ _ _ _ _ us hl => match us, hl with | [_, _], _ => rfl
  have F_beside := fun_mk (st := st_beside) l_beside e_beside k_beside
  have B_beside := F_beside.binds (ps := ["plan", "number", "way"]) fun _ _ _ _ _ _ us hl => match us, hl with | [_, _, _], _ => rfl
  have F_is_open := fun_mk (st := st_is_open) l_is_open e_is_open k_is_open
  have B_is_open := F_is_open.binds (ps := ["cells", "number"]) fun _ _ _ _ _ _ us hl => match us, hl with | [_, _], _ => rfl
  have F_step := fun_mk (st := st_step) l_step e_step k_step
  have B_step := F_step.binds (ps := ["plan", "cells", "seat", "way"]) fun _ _ _ _ _ _ us hl => match us, hl with | [_, _, _, _], _ => rfl
  have F_mark := fun_mk (st := st_mark) l_mark e_mark k_mark
  have B_mark := F_mark.binds (ps := ["plan", "cells", "seat"]) fun _ _ _ _ _ _ us hl => match us, hl with | [_, _, _], _ => rfl
  have F_gone_on := fun_mk (st := st_gone_on) l_gone_on e_gone_on k_gone_on
  have B_gone_on := F_gone_on.binds (ps := ["plan", "picture", "tick", "hands"]) fun _ _ _ _ _ _ us hl => match us, hl with | [_, _, _, _], _ => rfl
  have F_need_hands := fun_mk (st := st_need_hands) l_need_hands e_need_hands k_need_hands
  have B_need_hands := F_need_hands.binds (ps := ["plan", "hands"]) fun _ _ _ _ _ _ us hl => match us, hl with | [_, _], _ => rfl
  have F_after := fun_mk (st := st_after) l_after e_after k_after
  have B_after := F_after.binds (ps := ["plan", "picture", "tick", "hands"]) fun _ _ _ _ _ _ us hl => match us, hl with | [_, _, _, _], _ => rfl
  have F_points := fun_mk (st := st_points) l_points e_points k_points
  have B_points := F_points.binds (ps := ["plan", "picture"]) fun _ _ _ _ _ _ us hl => match us, hl with | [_, _], _ => rfl
  have F_law_begun := fun_mk (st := st_law_begun) l_law_begun e_law_begun k_law_begun
  have B_law_begun := F_law_begun.binds (ps := ["_law_script"]) fun _ _ _ _ _ _ us hl => match us, hl with | [_], _ => rfl
  have F_law_take := fun_mk (st := st_law_take) l_law_take e_law_take k_law_take
  have B_law_take := F_law_take.binds (ps := ["_law_box", "_law_many"]) fun _ _ _ _ _ _ us hl => match us, hl with | [_, _], _ => rfl
  have F_law_alike := fun_mk (st := st_law_alike) l_law_alike e_law_alike k_law_alike
  have B_law_alike := F_law_alike.binds (ps := ["_law_found", "_law_due"]) fun _ _ _ _ _ _ us hl => match us, hl with | [_, _], _ => rfl
  have F_law_plan := fun_mk (st := st_law_plan) l_law_plan e_law_plan k_law_plan
  have B_law_plan := F_law_plan.binds (ps := ["_law_box"]) fun _ _ _ _ _ _ us hl => match us, hl with | [_], _ => rfl
  have F_law_hand := fun_mk (st := st_law_hand) l_law_hand e_law_hand k_law_hand
  have B_law_hand := F_law_hand.binds (ps := ["_law_box"]) fun _ _ _ _ _ _ us hl => match us, hl with | [_], _ => rfl
  have F_law_first := fun_mk (st := st_law_first) l_law_first e_law_first k_law_first
  have B_law_first := F_law_first.binds (ps := ["_law_plan_here"]) fun _ _ _ _ _ _ us hl => match us, hl with | [_], _ => rfl
  have F_law_beside := fun_mk (st := st_law_beside) l_law_beside e_law_beside k_law_beside
  have B_law_beside := F_law_beside.binds (ps := ["_law_plan_here", "_law_place"]) fun _ _ _ _ _ _ us hl => match us, hl with | [_, _], _ => rfl
  have F_law_gone := fun_mk (st := st_law_gone) l_law_gone e_law_gone k_law_gone
  have B_law_gone := F_law_gone.binds (ps := ["_law_plan_here", "_law_picture", "_law_tick", "_law_hands"]) fun _ _ _ _ _ _ us hl => match us, hl with | [_, _, _, _], _ => rfl
  have F_law_made_up := fun_mk (st := st_law_made_up) l_law_made_up e_law_made_up k_law_made_up
  have B_law_made_up := F_law_made_up.binds (ps := ["_law_box", "_law_plan_here"]) fun _ _ _ _ _ _ us hl => match us, hl with | [_, _], _ => rfl
  have F_law := fun_mk (st := st_law) l_law e_law k_law
  have B_law := F_law.binds (ps := ["_law_script"]) fun _ _ _ _ _ _ us hl => match us, hl with | [_], _ => rfl
  refine ⟨PySem.W.fnOf "law" "law" (defArgs st_law) (defBody st_law) (defScope st_law) .none kV_law dc_law pm_law an_law cd_law ct_law, fun _ => none, fun s v => .of_eq rfl, fun base KB GB => ?_⟩
  have C_is_number := c_is_number (P := l.prog) (base := base) T  F_is_number (PySem.W.mg_of X G a_is_number) B_is_number
  have C_need_count := c_need_count (P := l.prog) (base := base) T C_is_number F_need_count (PySem.W.mg_of X G a_need_count) B_need_count
  have C_need_hand := c_need_hand (P := l.prog) (base := base) T  F_need_hand (PySem.W.mg_of X G a_need_hand) B_need_hand
  have C_is_cell := c_is_cell (P := l.prog) (base := base) T C_is_number F_is_cell (PySem.W.mg_of X G a_is_cell) B_is_cell
  have C_need_plan := c_need_plan (P := l.prog) (base := base) T C_is_number C_is_cell F_need_plan (PySem.W.mg_of X G a_need_plan) B_need_plan
  have C_many_of := c_many_of (P := l.prog) (base := base) T  F_many_of (PySem.W.mg_of X G a_many_of) B_many_of
  have C_spot_of := c_spot_of (P := l.prog) (base := base) T  F_spot_of (PySem.W.mg_of X G a_spot_of) B_spot_of
  have C_cell_of := c_cell_of (P := l.prog) (base := base) T  F_cell_of (PySem.W.mg_of X G a_cell_of) B_cell_of
  have C_code := c_code (P := l.prog) (base := base) T  F_code (PySem.W.mg_of X G a_code) B_code
  have C_owner_of := c_owner_of (P := l.prog) (base := base) T  F_owner_of (PySem.W.mg_of X G a_owner_of) B_owner_of
  have C_mover_of := c_mover_of (P := l.prog) (base := base) T  F_mover_of (PySem.W.mg_of X G a_mover_of) B_mover_of
  have C_is_picture := c_is_picture (P := l.prog) (base := base) T C_many_of C_spot_of C_is_number C_code C_mover_of F_is_picture (PySem.W.mg_of X G a_is_picture) B_is_picture
  have C_need_picture := c_need_picture (P := l.prog) (base := base) T C_is_picture F_need_picture (PySem.W.mg_of X G a_need_picture) B_need_picture
  have C_first := c_first (P := l.prog) (base := base) T C_spot_of C_code F_first (PySem.W.mg_of X G a_first) B_first
  have C_begun := c_begun (P := l.prog) (base := base) T C_need_plan C_first F_begun (PySem.W.mg_of X G a_begun) B_begun
  have C_place_of := c_place_of (P := l.prog) (base := base) T C_mover_of F_place_of (PySem.W.mg_of X G a_place_of) B_place_of
  have C_beside := c_beside (P := l.prog) (base := base) T C_cell_of C_is_cell C_spot_of F_beside (PySem.W.mg_of X G a_beside) B_beside
  have C_is_open := c_is_open (P := l.prog) (base := base) T C_mover_of F_is_open (PySem.W.mg_of X G a_is_open) B_is_open
  have C_step := c_step (P := l.prog) (base := base) T C_place_of C_beside C_is_open C_owner_of C_code F_step (PySem.W.mg_of X G a_step) B_step
  have C_mark := c_mark (P := l.prog) (base := base) T C_place_of C_beside C_is_open C_code F_mark (PySem.W.mg_of X G a_mark) B_mark
  have C_gone_on := c_gone_on (P := l.prog) (base := base) T C_many_of C_mark C_step F_gone_on (PySem.W.mg_of X G a_gone_on) B_gone_on
  have C_need_hands := c_need_hands (P := l.prog) (base := base) T C_many_of C_need_hand F_need_hands (PySem.W.mg_of X G a_need_hands) B_need_hands
  have C_after := c_after (P := l.prog) (base := base) T C_need_plan C_need_picture C_need_count C_need_hands C_gone_on F_after (PySem.W.mg_of X G a_after) B_after
  have C_points := c_points (P := l.prog) (base := base) T C_need_plan C_need_picture C_owner_of C_many_of F_points (PySem.W.mg_of X G a_points) B_points
  have C_law_begun := c_law_begun (P := l.prog) (base := base) T  F_law_begun (PySem.W.mg_of X G a_law_begun) B_law_begun
  have C_law_take := c_law_take (P := l.prog) (base := base) T  F_law_take (PySem.W.mg_of X G a_law_take) B_law_take
  have C_law_alike := c_law_alike (P := l.prog) (base := base) T  F_law_alike (PySem.W.mg_of X G a_law_alike) B_law_alike
  have C_law_plan := c_law_plan (P := l.prog) (base := base) T C_law_take F_law_plan (PySem.W.mg_of X G a_law_plan) B_law_plan
  have C_law_hand := c_law_hand (P := l.prog) (base := base) T C_law_take F_law_hand (PySem.W.mg_of X G a_law_hand) B_law_hand
  have C_law_first := c_law_first (P := l.prog) (base := base) T  F_law_first (PySem.W.mg_of X G a_law_first) B_law_first
  have C_law_beside := c_law_beside (P := l.prog) (base := base) T  F_law_beside (PySem.W.mg_of X G a_law_beside) B_law_beside
  have C_law_gone := c_law_gone (P := l.prog) (base := base) T C_law_beside F_law_gone (PySem.W.mg_of X G a_law_gone) B_law_gone
  have C_law_made_up := c_law_made_up (P := l.prog) (base := base) T C_law_take F_law_made_up (PySem.W.mg_of X G a_law_made_up) B_law_made_up
  exact fn_ok F_law sc_law ar_law (fun cdv A outer s H E hr => d_law T C_law_begun C_law_plan C_law_first C_begun C_law_alike C_law_take C_law_made_up C_law_hand C_law_gone C_after C_points hr) ok_law
end
end F
open PySem PySem.W PyProof.Rows
set_option maxRecDepth 100000 in
set_option maxHeartbeats 0 in
theorem PySem.Challenge.cw_farseats_k05_ticks_of_the_game_holds : PySem.Challenge.rw_farseats_k05_ticks_of_the_game.Holds := by
  w_on; o_law; k_head; (case hw => w_witness2)
  k_fill
  refine F.walk_end (l := PySem.Challenge.rw_farseats_k05_ticks_of_the_game) (k := 7) (x := "_law_script") rfl rfl ⟨rfl, by decide, by decide⟩ (fun w h Y => PySem.W.kIn_of Y) ?F
  case F =>
    intro w mg fa h KX G hmg
    refine' F.all_mk KX G hmg ?a_is_number ?l_is_number ?e_is_number ?k_is_number ?a_need_count ?l_need_count ?e_need_count ?k_need_count ?a_need_hand ?l_need_hand ?e_need_hand ?k_need_hand ?a_is_cell ?l_is_cell ?e_is_cell ?k_is_cell ?a_need_plan ?l_need_plan ?e_need_plan ?k_need_plan ?a_many_of ?l_many_of ?e_many_of ?k_many_of ?a_spot_of ?l_spot_of ?e_spot_of ?k_spot_of ?a_cell_of ?l_cell_of ?e_cell_of ?k_cell_of ?a_code ?l_code ?e_code ?k_code ?a_owner_of ?l_owner_of ?e_owner_of ?k_owner_of ?a_mover_of ?l_mover_of ?e_mover_of ?k_mover_of ?a_is_picture ?l_is_picture ?e_is_picture ?k_is_picture ?a_need_picture ?l_need_picture ?e_need_picture ?k_need_picture ?a_first ?l_first ?e_first ?k_first ?a_begun ?l_begun ?e_begun ?k_begun ?a_place_of ?l_place_of ?e_place_of ?k_place_of ?a_beside ?l_beside ?e_beside ?k_beside ?a_is_open ?l_is_open ?e_is_open ?k_is_open ?a_step ?l_step ?e_step ?k_step ?a_mark ?l_mark ?e_mark ?k_mark ?a_gone_on ?l_gone_on ?e_gone_on ?k_gone_on ?a_need_hands ?l_need_hands ?e_need_hands ?k_need_hands ?a_after ?l_after ?e_after ?k_after ?a_points ?l_points ?e_points ?k_points ?a_law_begun ?l_law_begun ?e_law_begun ?k_law_begun ?a_law_take ?l_law_take ?e_law_take ?k_law_take ?a_law_alike ?l_law_alike ?e_law_alike ?k_law_alike ?a_law_plan ?l_law_plan ?e_law_plan ?k_law_plan ?a_law_hand ?l_law_hand ?e_law_hand ?k_law_hand ?a_law_first ?l_law_first ?e_law_first ?k_law_first ?a_law_beside ?l_law_beside ?e_law_beside ?k_law_beside ?a_law_gone ?l_law_gone ?e_law_gone ?k_law_gone ?a_law_made_up ?l_law_made_up ?e_law_made_up ?k_law_made_up ?a_law ?l_law ?e_law ?k_law ?g_BLOCK ?g_FREE ?g_HANDS ?h_HANDS ?g_LEAST_SIDE ?g_MARK ?g_MOST_SEATS ?g_MOST_SIDE ?g_MOST_TICK ?g_SHARE ?g_WAYS ?h_WAYS ?h0_WAYS ?h1_WAYS ?h2_WAYS ?h3_WAYS ?w_WAYS ?y_WAYS ?z_WAYS ?b_all ?b_bool ?b_enumerate ?b_int ?b_isinstance ?b_len ?b_list ?b_range ?b_str ?b_sum ?b_tuple
    (case a_is_number => k_is)
    (case l_is_number => k_is)
    (case e_is_number => k_is)
    (case k_is_number => k_is)
    (case a_need_count => k_is)
    (case l_need_count => k_is)
    (case e_need_count => k_is)
    (case k_need_count => k_is)
    (case a_need_hand => k_is)
    (case l_need_hand => k_is)
    (case e_need_hand => k_is)
    (case k_need_hand => k_is)
    (case a_is_cell => k_is)
    (case l_is_cell => k_is)
    (case e_is_cell => k_is)
    (case k_is_cell => k_is)
    (case a_need_plan => k_is)
    (case l_need_plan => k_is)
    (case e_need_plan => k_is)
    (case k_need_plan => k_is)
    (case a_many_of => k_is)
    (case l_many_of => k_is)
    (case e_many_of => k_is)
    (case k_many_of => k_is)
    (case a_spot_of => k_is)
    (case l_spot_of => k_is)
    (case e_spot_of => k_is)
    (case k_spot_of => k_is)
    (case a_cell_of => k_is)
    (case l_cell_of => k_is)
    (case e_cell_of => k_is)
    (case k_cell_of => k_is)
    (case a_code => k_is)
    (case l_code => k_is)
    (case e_code => k_is)
    (case k_code => k_is)
    (case a_owner_of => k_is)
    (case l_owner_of => k_is)
    (case e_owner_of => k_is)
    (case k_owner_of => k_is)
    (case a_mover_of => k_is)
    (case l_mover_of => k_is)
    (case e_mover_of => k_is)
    (case k_mover_of => k_is)
    (case a_is_picture => k_is)
    (case l_is_picture => k_is)
    (case e_is_picture => k_is)
    (case k_is_picture => k_is)
    (case a_need_picture => k_is)
    (case l_need_picture => k_is)
    (case e_need_picture => k_is)
    (case k_need_picture => k_is)
    (case a_first => k_is)
    (case l_first => k_is)
    (case e_first => k_is)
    (case k_first => k_is)
    (case a_begun => k_is)
    (case l_begun => k_is)
    (case e_begun => k_is)
    (case k_begun => k_is)
    (case a_place_of => k_is)
    (case l_place_of => k_is)
    (case e_place_of => k_is)
    (case k_place_of => k_is)
    (case a_beside => k_is)
    (case l_beside => k_is)
    (case e_beside => k_is)
    (case k_beside => k_is)
    (case a_is_open => k_is)
    (case l_is_open => k_is)
    (case e_is_open => k_is)
    (case k_is_open => k_is)
    (case a_step => k_is)
    (case l_step => k_is)
    (case e_step => k_is)
    (case k_step => k_is)
    (case a_mark => k_is)
    (case l_mark => k_is)
    (case e_mark => k_is)
    (case k_mark => k_is)
    (case a_gone_on => k_is)
    (case l_gone_on => k_is)
    (case e_gone_on => k_is)
    (case k_gone_on => k_is)
    (case a_need_hands => k_is)
    (case l_need_hands => k_is)
    (case e_need_hands => k_is)
    (case k_need_hands => k_is)
    (case a_after => k_is)
    (case l_after => k_is)
    (case e_after => k_is)
    (case k_after => k_is)
    (case a_points => k_is)
    (case l_points => k_is)
    (case e_points => k_is)
    (case k_points => k_is)
    (case a_law_begun => k_is)
    (case l_law_begun => k_is)
    (case e_law_begun => k_is)
    (case k_law_begun => k_is)
    (case a_law_take => k_is)
    (case l_law_take => k_is)
    (case e_law_take => k_is)
    (case k_law_take => k_is)
    (case a_law_alike => k_is)
    (case l_law_alike => k_is)
    (case e_law_alike => k_is)
    (case k_law_alike => k_is)
    (case a_law_plan => k_is)
    (case l_law_plan => k_is)
    (case e_law_plan => k_is)
    (case k_law_plan => k_is)
    (case a_law_hand => k_is)
    (case l_law_hand => k_is)
    (case e_law_hand => k_is)
    (case k_law_hand => k_is)
    (case a_law_first => k_is)
    (case l_law_first => k_is)
    (case e_law_first => k_is)
    (case k_law_first => k_is)
    (case a_law_beside => k_is)
    (case l_law_beside => k_is)
    (case e_law_beside => k_is)
    (case k_law_beside => k_is)
    (case a_law_gone => k_is)
    (case l_law_gone => k_is)
    (case e_law_gone => k_is)
    (case k_law_gone => k_is)
    (case a_law_made_up => k_is)
    (case l_law_made_up => k_is)
    (case e_law_made_up => k_is)
    (case k_law_made_up => k_is)
    (case a_law => k_is)
    (case l_law => k_is)
    (case e_law => k_is)
    (case k_law => k_is)
    (case g_BLOCK => k_is)
    (case g_FREE => k_is)
    (case g_HANDS => k_is)
    (case h_HANDS => k_is)
    (case g_LEAST_SIDE => k_is)
    (case g_MARK => k_is)
    (case g_MOST_SEATS => k_is)
    (case g_MOST_SIDE => k_is)
    (case g_MOST_TICK => k_is)
    (case g_SHARE => k_is)
    (case g_WAYS => k_is)
    (case h_WAYS => k_is)
    (case w_WAYS => exact (.cons rfl rfl (.cons rfl rfl (.cons rfl rfl (.cons rfl rfl .nil)))))
    (case y_WAYS => exact ⟨⟨_, _, rfl, rfl⟩, ⟨_, _, rfl, rfl⟩, ⟨_, _, rfl, rfl⟩, ⟨_, _, rfl, rfl⟩, trivial⟩)
    (case z_WAYS => decide)
    (case h0_WAYS => k_is)
    (case h1_WAYS => k_is)
    (case h2_WAYS => k_is)
    (case h3_WAYS => k_is)
    (case b_all => k_is)
    (case b_bool => k_is)
    (case b_enumerate => k_is)
    (case b_int => k_is)
    (case b_isinstance => k_is)
    (case b_len => k_is)
    (case b_list => k_is)
    (case b_range => k_is)
    (case b_str => k_is)
    (case b_sum => k_is)
    (case b_tuple => k_is)
