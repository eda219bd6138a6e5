import PyProof.Rows.All
import Wide.All
import OpenK.AllK
import Wide.FinOn
import PyProof.EqAt
import PyProof.EqKinds
import PyProof.TupleCall
import HandS.ForMost
import HandS.ForExc
import HandS.Wide
import HandS.IsInst
import HandS.Defaults
import HandS.Dict
import HandS.Flow
import HandS.Ends
import HandS.WordsExc
import HandS.Head0
import HandS.Head1
import HandS.Head2
import HandS.HeadEnd
import HandS.HeadHook1
import HandS.HeadHook2
import KE.KStateDown
import Lean
import HandS.Base
import HandS.Call
import HandS.More
import HandS.Words
import PySem.Challenge.RW_ownnames_k02_what_signs_make
set_option Elab.async false
set_option linter.all false
set_option maxRecDepth 100000
set_option maxHeartbeats 0
/-! Rx0: plain data, a small language, and what it computes. No program in sight: own work. -/
namespace Rx

/-- plain data (never changed), and names of stored objects -/
inductive D where
  | non | bl (b : Bool) | int (i : Int) | str (s : String) | tup (xs : List D) | lst (xs : List D) | dic (ks : List (D × D)) | ref (n : Nat)
  deriving Inhabited
/-- an object that may change -/
inductive O where
  | lst (xs : List D) | dic (ks : List (D × D)) | ins (c : Nat) (fs : List (String × D))
  deriving Inhabited
/-- a slot: not yet bound, data, an object of the slot's own -/
inductive L where
  | un | imm (d : D) | own (o : O)
  deriving Inhabited
/-- a result: data, a new object that nobody else holds, a look at a slot's own object -/
inductive RV where
  | imm (d : D) | own (o : O) | peek (o : O)
  deriving Inhabited
structure St where
  nx : Nat
  ob : Nat → Option O
def St.none : St := ⟨0, fun _ => Option.none⟩
def St.set (s : St) (n : Nat) (o : O) : St := ⟨s.nx, fun m => if m = n then some o else s.ob m⟩
def St.add (s : St) (o : O) : St := ⟨s.nx + 1, fun m => if m = s.nx then some o else s.ob m⟩
def St.del (s : St) (n : Nat) : St := ⟨s.nx, fun m => if m = n then Option.none else s.ob m⟩
/-- an error in flight -/
structure XC where
  cls : Nat
  fs : List (String × D)
inductive R (α : Type) where
  | ok (a : α) (s : St) | exc (x : XC) (s : St) | bad
@[simp] def R.bind {α β : Type} (r : R α) (f : α → St → R β) : R β :=
  match r with
  | .ok a s => f a s
  | .exc x s => .exc x s
  | .bad => .bad
abbrev CF := Nat → List D → St → R RV

/-- one-step operations -/
inductive P where
  | add | sub | mul | fdiv | mod | pow | neg
  | eq | ne | lt | le | gt | ge | isN | notN
  | idx | len | max2 | min2 | isi (ty : String) | int1 | absI
  | inn | nin | allL | anyL
  deriving DecidableEq, Repr

/-- operations that change a thing -/
inductive M where
  | app | ext | pop | popAt | clear
  deriving DecidableEq, Repr

inductive Tg where
  | slot (i : Nat) | tup (ts : List Nat)

mutual
inductive E where
  | slot (i : Nat)
  | cst (d : D)
  | glob (x : String) (d : D)
  | prim (p : P) (as : Es)
  | and_ (a b : E) | or_ (a b : E) | not_ (a : E) | ite (c a b : E)
  | chain (p q : P) (a b c : E)
  | call (f : Nat) (as : Es)
  | tup (as : Es) | lst (as : Es)
  | frz (e : E) | share (e : E)
  | dct (ks : List D) (as : Es)
  | comp (e : E) (t : Tg) (own : List Nat) (it : It) (c : E)
inductive Es where
  | nil | cons (e : E) (es : Es)
inductive It where
  | range1 (a : E) | range2 (a b : E) | seq (a : E)
end
def Es.len : Es → Nat
  | .nil => 0
  | .cons _ es => es.len + 1

mutual
inductive Sm where
  | asg (t : Tg) (e : E)
  | par (i j : Nat) (a b : E)
  | setIdx (c i v : E)
  | setSlot (m : Nat) (i v : E)
  | mut (t : Option Nat) (m : Nat) (op : M) (as : Es)
  | frz (i : Nat)
  | expr (e : E)
  | ifS (c : E) (a b : Ss)
  | forS (t : Tg) (it : It) (b : Ss)
  | whileS (c : E) (b : Ss)
  | ret (e : E)
  | retOwn (i : Nat)
  | pass | brk | cnt
inductive Ss where
  | nil | cons (s : Sm) (ss : Ss)
end

/-! ### what the operations do -/
def LIM : Nat := 16777216
/-- a look at what a value is now -/
def snap (s : St) : RV → D
  | .imm (.ref n) => match s.ob n with
    | some (.lst xs) => .lst xs
    | some (.dic ks) => .dic ks
    | _ => .ref n
  | .imm d => d
  | .own (.lst xs) | .peek (.lst xs) => .lst xs
  | .own (.dic ks) | .peek (.dic ks) => .dic ks
  | _ => .non
mutual
def deq : D → D → Bool
  | .non, .non => true
  | .bl a, .bl b => a == b
  | .bl a, .int j => (if a then 1 else 0) == j
  | .int i, .bl b => i == (if b then 1 else 0)
  | .int i, .int j => i == j
  | .str s, .str t => decide (s = t)
  | .tup xs, .tup ys => deqs xs ys
  | .lst xs, .lst ys => deqs xs ys
  | _, _ => false
def deqs : List D → List D → Bool
  | [], [] => true
  | x :: xs, y :: ys => deq x y && deqs xs ys
  | _, _ => false
end
mutual
/-- how deep data is; none where == may not be asked -/
def dep : D → Option Nat
  | .non | .bl _ | .int _ | .str _ => some 0
  | .tup xs | .lst xs => (deps xs).map (· + 1)
  | _ => none
def deps : List D → Option Nat
  | [] => some 0
  | x :: xs => match dep x, deps xs with
    | some a, some b => some (max a b)
    | _, _ => none
end
def okEq (d : D) : Bool := match dep d with
  | some n => decide (n ≤ 64)
  | none => false
/-- an index from either end -/
def ixOf (n : Nat) (i : Int) : Option Nat :=
  if 0 ≤ i then (if i < n then some i.toNat else none) else if 0 ≤ i + n then some (i + n).toNat else none
def flat : D → Bool
  | .non | .bl _ | .int _ | .str _ => true
  | _ => false
def inL (x : D) (xs : List D) : Bool := xs.any fun y => deq y x
def truth : D → Option Bool
  | .non => some false
  | .bl b => some b
  | .int i => some (i != 0)
  | .str s => if s.length ≤ LIM then some (s != "") else none
  | .tup xs => some (!xs.isEmpty)
  | .lst xs => some (!xs.isEmpty)
  | .dic ks => some (!ks.isEmpty)
  | .ref _ => none
/-- the built-in class of data -/
def tyn : D → Option String
  | .non => some "NoneType"
  | .bl _ => some "bool"
  | .int _ => some "int"
  | .str _ => some "str"
  | .tup _ => some "tuple"
  | .lst _ => some "list"
  | .dic _ => some "dict"
  | .ref _ => none
def boolsOf : List D → Option (List Bool)
  | [] => some []
  | .bl b :: r => (boolsOf r).map (b :: ·)
  | _ :: _ => none
/-- dicts by keys: numbers, texts -/
def isKey : D → Bool
  | .int _ | .str _ => true
  | _ => false
def keyEq : D → D → Bool
  | .int i, .int j => decide (i = j)
  | .str s, .str t => decide (s = t)
  | _, _ => false
def dget (ks : List (D × D)) (k : D) : Option D := (ks.find? fun p => keyEq p.1 k).map (·.2)
def isNon : D → Bool
  | .non => true
  | _ => false
def primD : P → List D → Option RV
  | .add, [.int i, .int j] => some (.imm (.int (i + j)))
  | .add, [.str s, .str t] => if s.length + t.length ≤ LIM then some (.imm (.str (s ++ t))) else none
  | .sub, [.int i, .int j] => some (.imm (.int (i - j)))
  | .mul, [.int i, .int j] => if (i.natAbs < 18446744073709551616) ∨ (j.natAbs < 18446744073709551616) then some (.imm (.int (i * j))) else none
  | .fdiv, [.int i, .int j] => if j ≠ 0 ∧ j.natAbs < 340282366920938463463374607431768211456 then some (.imm (.int (i.fdiv j))) else none
  | .mod, [.int i, .int j] => if j ≠ 0 then some (.imm (.int (i.fmod j))) else none
  | .pow, [.int i, .int j] => if 0 ≤ j ∧ j ≤ 1000000 ∧ i.natAbs < 18446744073709551616 then some (.imm (.int (i ^ j.toNat))) else none
  | .neg, [.int i] => some (.imm (.int (-i)))
  | .eq, [a, b] => if okEq a && okEq b then some (.imm (.bl (deq a b))) else none
  | .ne, [a, b] => if okEq a && okEq b then some (.imm (.bl (!deq a b))) else none
  | .lt, [.int i, .int j] => some (.imm (.bl (decide (i < j))))
  | .le, [.int i, .int j] => some (.imm (.bl (decide (i ≤ j))))
  | .gt, [.int i, .int j] => some (.imm (.bl (decide (j < i))))
  | .ge, [.int i, .int j] => some (.imm (.bl (decide (j ≤ i))))
  | .isN, [a] => some (.imm (.bl (isNon a)))
  | .notN, [a] => some (.imm (.bl (!isNon a)))
  | .idx, [.lst xs, .int i] => ((ixOf xs.length i).bind (xs[·]?)).map .imm
  | .idx, [.tup xs, .int i] => ((ixOf xs.length i).bind (xs[·]?)).map .imm
  | .idx, [.dic ks, k] => if isKey k then (dget ks k).map .imm else none
  | .len, [.lst xs] => some (.imm (.int xs.length))
  | .len, [.tup xs] => some (.imm (.int xs.length))
  | .len, [.str s] => if s.length ≤ LIM then some (.imm (.int s.length)) else none
  | .max2, [.int i, .int j] => some (.imm (.int (if i < j then j else i)))
  | .min2, [.int i, .int j] => some (.imm (.int (if j < i then j else i)))
  | .isi ty, [d] => (tyn d).map fun t => .imm (.bl (decide (t = ty) || (decide (t = "bool") && decide (ty = "int"))))
  | .int1, [.int i] => some (.imm (.int i))
  | .int1, [.bl b] => some (.imm (.int (if b then 1 else 0)))
  | .absI, [.int i] => some (.imm (.int (if i < 0 then -i else i)))
  | .inn, [x, .lst xs] => if flat x && xs.all flat then some (.imm (.bl (inL x xs))) else none
  | .inn, [x, .tup xs] => if flat x && xs.all flat then some (.imm (.bl (inL x xs))) else none
  | .inn, [k, .dic ks] => if isKey k then some (.imm (.bl (dget ks k).isSome)) else none
  | .nin, [k, .dic ks] => if isKey k then some (.imm (.bl (!(dget ks k).isSome))) else none
  | .nin, [x, .lst xs] => if flat x && xs.all flat then some (.imm (.bl (!inL x xs))) else none
  | .nin, [x, .tup xs] => if flat x && xs.all flat then some (.imm (.bl (!inL x xs))) else none
  | .allL, [.lst xs] => (boolsOf xs).map fun bs => .imm (.bl (bs.all id))
  | .anyL, [.lst xs] => (boolsOf xs).map fun bs => .imm (.bl (bs.any id))
  | _, _ => none
def primR (p : P) (rs : List RV) (s : St) : R RV := match primD p (rs.map (snap s)) with
  | some r => .ok r s
  | none => .bad
def immsOf : List RV → Option (List D)
  | [] => some []
  | .imm d :: r => (immsOf r).map (d :: ·)
  | _ :: _ => none
def testR (r : RV) (s : St) : R Bool := match truth (snap s r) with
  | some b => .ok b s
  | none => .bad
/-- a value that was written: data, or an object of its own -/
def slotOf : RV → Option L
  | .imm d => some (.imm d)
  | .own o => some (.own o)
  | .peek _ => none
def setSl (sl : List L) (i : Nat) (l : L) : Option (List L) := if i < sl.length then some (sl.set i l) else none
def asgTups (sl : List L) : List Nat → List D → Option (List L)
  | [], [] => some sl
  | i :: is, d :: ds => (setSl sl i (.imm d)).bind fun sl' => asgTups sl' is ds
  | _, _ => none
def asgTg (sl : List L) (s : St) : Tg → RV → Option (List L)
  | .slot i, r => (slotOf r).bind (setSl sl i)
  | .tup is, r => match snap s r with
    | .tup ds => asgTups sl is ds
    | .lst ds => asgTups sl is ds
    | _ => none
def wipeL (sl : List L) : List Nat → List L
  | [] => sl
  | i :: is => (wipeL sl is).set i .un
def rangeD (a : Int) (n : Nat) : List D := (List.range n).map fun (k : Nat) => .int (a + (k : Int))
def seqD : D → Option (List D)
  | .lst xs => some xs
  | .tup xs => some xs
  | _ => none

/-- a comprehension's loop: acc the list so far -/
def compL (f : D → St → R (Option D)) : List D → List D → St → R RV
  | [], acc, s => .ok (.own (.lst acc)) s
  | x :: xs, acc, s => match f x s with
    | .ok (some d) s' => if acc.length < LIM then compL f xs (acc ++ [d]) s' else .bad
    | .ok none s' => compL f xs acc s'
    | _ => .bad

section
variable (cf : CF)
mutual
def evE (sl : List L) : E → St → R RV
  | .slot i, s => match sl[i]? with
    | some (.imm d) => .ok (.imm d) s
    | some (.own o) => .ok (.peek o) s
    | _ => .bad
  | .cst d, s => .ok (.imm d) s
  | .glob _ d, s => .ok (.imm d) s
  | .prim p as, s => (evEs sl as s).bind fun rs s' => primR p rs s'
  | .and_ a b, s => (evE sl a s).bind fun r s' => match r with
    | .imm (.bl true) => evE sl b s'
    | .imm (.bl false) => .ok (.imm (.bl false)) s'
    | _ => .bad
  | .or_ a b, s => (evE sl a s).bind fun r s' => match r with
    | .imm (.bl false) => evE sl b s'
    | .imm (.bl true) => .ok (.imm (.bl true)) s'
    | _ => .bad
  | .not_ a, s => (evE sl a s).bind fun r s' => (testR r s').bind fun b s2 => .ok (.imm (.bl (!b))) s2
  | .ite c a b, s => (evE sl c s).bind fun r s' => (testR r s').bind fun k s2 => if k then evE sl a s2 else evE sl b s2
  | .chain p q a b c, s => (evE sl a s).bind fun x s1 => (evE sl b s1).bind fun y s2 => (primR p [x, y] s2).bind fun r s3 => match r with
    | .imm (.bl true) => (evE sl c s3).bind fun z s4 => primR q [y, z] s4
    | .imm (.bl false) => .ok (.imm (.bl false)) s3
    | _ => .bad
  | .call f as, s => (evEs sl as s).bind fun rs s' => match immsOf rs with
    | some ds => cf f ds s'
    | none => .bad
  | .tup as, s => (evEs sl as s).bind fun rs s' => match immsOf rs with
    | some ds => .ok (.imm (.tup ds)) s'
    | none => .bad
  | .lst as, s => (evEs sl as s).bind fun rs s' => match immsOf rs with
    | some ds => .ok (.own (.lst ds)) s'
    | none => .bad
  | .dct ks as, s => (evEs sl as s).bind fun rs s' => match immsOf rs with
    | some ds => .ok (.own (.dic (ks.zip ds))) s'
    | none => .bad
  | .frz e, s => (evE sl e s).bind fun r s' => match r with
    | .own (.lst xs) => .ok (.imm (.lst xs)) s'
    | .own (.dic ks) => .ok (.imm (.dic ks)) s'
    | .imm d => .ok (.imm d) s'
    | _ => .bad
  | .share e, s => (evE sl e s).bind fun r s' => match r with
    | .own o => .ok (.imm (.ref s'.nx)) (s'.add o)
    | _ => .bad
  | .comp e t own it c, s => (evIt sl it s).bind fun xs s' => compL (fun x s1 => match asgTg (wipeL sl own) s1 t (.imm x) with
      | none => .bad
      | some sl' => (evE sl' c s1).bind fun k s2 => (testR k s2).bind fun b s3 => if b then (evE sl' e s3).bind fun r s4 => (match r with
        | .imm d => .ok (some d) s4
        | _ => .bad) else .ok none s3) xs [] s'
def evEs (sl : List L) : Es → St → R (List RV)
  | .nil, s => .ok [] s
  | .cons e es, s => (evE sl e s).bind fun r s' => (evEs sl es s').bind fun rs s2 => .ok (r :: rs) s2
def evIt (sl : List L) : It → St → R (List D)
  | .range1 a, s => (evE sl a s).bind fun r s' => match r with
    | .imm (.int n) => if n < 4611686018427387904 ∧ -4611686018427387904 ≤ n then .ok (rangeD 0 n.toNat) s' else .bad
    | _ => .bad
  | .range2 a b, s => (evE sl a s).bind fun x s1 => (evE sl b s1).bind fun y s2 => match x, y with
    | .imm (.int i), .imm (.int j) => if (i < 4611686018427387904 ∧ -4611686018427387904 ≤ i) ∧ j < 4611686018427387904 ∧ -4611686018427387904 ≤ j then .ok (rangeD i (j - i).toNat) s2 else .bad
    | _, _ => .bad
  | .seq a, s => (evE sl a s).bind fun r s' => match r with
    | .imm d => (match seqD d with
      | some xs => .ok xs s'
      | none => .bad)
    | .own (.lst xs) => .ok xs s'
    | _ => .bad
end
end

/-! ### statements -/
inductive F where
  | nx (sl : List L) (s : St) | ret (r : RV) (s : St) | brk (sl : List L) (s : St) | cnt (sl : List L) (s : St) | exc (x : XC) (sl : List L) (s : St) | bad
/-- an expression's result within a statement -/
@[simp] def R.st {α : Type} (sl : List L) (r : R α) (f : α → St → F) : F :=
  match r with
  | .ok a s => f a s
  | .exc x s => .exc x sl s
  | .bad => .bad
@[simp] def F.seq (a : F) (f : List L → St → F) : F :=
  match a with
  | .nx sl s => f sl s
  | a => a
def forL (body : D → List L → St → F) : List D → List L → St → F
  | [], sl, s => .nx sl s
  | x :: xs, sl, s => match body x sl s with
    | .nx sl' s' => forL body xs sl' s'
    | .cnt sl' s' => forL body xs sl' s'
    | .brk sl' s' => .nx sl' s'
    | a => a
/-- n turns at most; none: not through -/
def whileN (c : List L → St → R Bool) (body : List L → St → F) : Nat → List L → St → Option F
  | 0, _, _ => none
  | n + 1, sl, s => match c sl s with
    | .ok true s1 => (match body sl s1 with
      | .nx sl' s' => whileN c body n sl' s'
      | .cnt sl' s' => whileN c body n sl' s'
      | .brk sl' s' => some (.nx sl' s')
      | a => some a)
    | .ok false s1 => some (.nx sl s1)
    | .exc x s1 => some (.exc x sl s1)
    | .bad => some .bad
open Classical in
noncomputable def whileF (c : List L → St → R Bool) (body : List L → St → F) (sl : List L) (s : St) : F :=
  if h : ∃ n r, whileN c body n sl s = some r then Classical.choose (Classical.choose_spec h) else .bad
/-- a list or a dict -/
def O.coll : O → Bool
  | .ins _ _ => false
  | _ => true
theorem whileN_more {c : List L → St → R Bool} {body : List L → St → F} : ∀ {n : Nat} {sl : List L} {s : St} {r : F}, whileN c body n sl s = some r → whileN c body (n + 1) sl s = some r
  | 0, _, _, _, h => by cases h
  | n + 1, sl, s, r, h => by
    rw [whileN] at h ⊢
    split at h
    · split at h
      · exact whileN_more h
      · exact whileN_more h
      · exact h
      · exact h
    · exact h
    · exact h
    · exact h
theorem whileN_le {c : List L → St → R Bool} {body : List L → St → F} {n m : Nat} {sl : List L} {s : St} {r : F} (h : whileN c body n sl s = some r) (hm : n ≤ m) : whileN c body m sl s = some r := by
  induction hm with
  | refl => exact h
  | step _ ih => exact whileN_more ih
theorem whileF_of {c : List L → St → R Bool} {body : List L → St → F} {n : Nat} {sl : List L} {s : St} {r : F} (h : whileN c body n sl s = some r) : whileF c body sl s = r := by
  have hx : ∃ n r, whileN c body n sl s = some r := ⟨n, r, h⟩
  unfold whileF
  rw [dif_pos hx]
  have h2 := Classical.choose_spec (Classical.choose_spec hx)
  have h3 := whileN_le h2 (Nat.le_max_left _ n)
  have h4 := whileN_le h (Nat.le_max_right (Classical.choose hx) n)
  rw [h3] at h4
  exact Option.some.inj h4
theorem whileF_some {c : List L → St → R Bool} {body : List L → St → F} {sl : List L} {s : St} (h : whileF c body sl s ≠ .bad) : ∃ n, whileN c body n sl s = some (whileF c body sl s) := by
  by_cases hx : ∃ n r, whileN c body n sl s = some r
  · obtain ⟨n, r, e⟩ := hx
    exact ⟨n, by rw [whileF_of e]; exact e⟩
  · unfold whileF at h
    rw [dif_neg hx] at h
    exact absurd rfl h

section
variable (cf : CF)
def tsE (sl : List L) : E → St → R Bool
  | .and_ a b, s => (tsE sl a s).bind fun k s' => if k then tsE sl b s' else .ok false s'
  | .or_ a b, s => (tsE sl a s).bind fun k s' => if k then .ok true s' else tsE sl b s'
  | .not_ a, s => (tsE sl a s).bind fun k s' => .ok (!k) s'
  | e, s => (evE cf sl e s).bind testR
def testE (e : E) (sl : List L) (s : St) : R Bool := tsE cf sl e s
/-- c[i] = v; c a slot's own object or a stored one -/
def putAt (o : O) (i v : D) : Option O := match o, i with
  | .lst xs, .int k => (ixOf xs.length k).map fun j => .lst (xs.set j v)
  | _, _ => none
/-- what a change makes of a thing, and what it answers -/
def mutD : M → O → List D → Option (O × D)
  | .app, .lst xs, [d] => if xs.length < LIM then some (.lst (xs ++ [d]), .non) else none
  | .pop, .lst xs, [] => (xs.getLast?).map fun d => (.lst xs.dropLast, d)
  | _, _, _ => none
def asgO (sl : List L) (t : Option Nat) (d : D) : Option (List L) := match t with
  | none => some sl
  | some i => setSl sl i (.imm d)
def bndL (sl : List L) (m : Nat) : Bool := match sl[m]? with
  | some (.imm _) => true
  | some (.own _) => true
  | _ => false
/-- a slot holds a list, or names a stored one -/
def hasM (sl : List L) (s : St) (m : Nat) : Bool := match sl[m]? with
  | some (.own (.lst _)) => true
  | some (.imm (.ref n)) => (match s.ob n with
    | some (.lst _) => true
    | _ => false)
  | _ => false
mutual
noncomputable def exS : Sm → List L → St → F
  | .asg t e, sl, s => (evE cf sl e s).st sl fun r s' => match asgTg sl s' t r with
    | some sl' => .nx sl' s'
    | none => .bad
  | .par i j a b, sl, s => (evE cf sl a s).st sl fun x s1 => (evE cf sl b s1).st sl fun y s2 => match x, y with
    | .imm x, .imm y => (match (setSl sl i (.imm x)).bind fun sl' => setSl sl' j (.imm y) with
      | some sl' => .nx sl' s2
      | none => .bad)
    | _, _ => .bad
  | .setIdx c i v, sl, s => (evE cf sl v s).st sl fun x s1 => match x with
    | .imm x => (evE cf sl c s1).st sl fun o s2 => (evE cf sl i s2).st sl fun k s3 => (match k, o with
      | .imm k, .imm (.ref n) => (match s3.ob n with
        | some o => (match putAt o k x with
          | some o' => .nx sl (s3.set n o')
          | none => .bad)
        | none => .bad)
      | _, _ => .bad)
    | _ => .bad
  | .setSlot m i v, sl, s => (evE cf sl v s).st sl fun x s1 => match bndL sl m, x with
    | true, .imm x => (evE cf sl i s1).st sl fun k s3 => (match k, sl[m]? with
      | .imm k, some (.imm (.ref n)) => (match s3.ob n with
        | some o => (match putAt o k x with
          | some o' => .nx sl (s3.set n o')
          | none => .bad)
        | none => .bad)
      | .imm k, some (.own o) => (match putAt o k x with
        | some o' => .nx (sl.set m (.own o')) s3
        | none => .bad)
      | _, _ => .bad)
    | _, _ => .bad
  | .mut t m op as, sl, s => if hasM sl s m then (evEs cf sl as s).st sl fun rs s1 => (match immsOf rs, sl[m]? with
    | some ds, some (.own o) => (match mutD op o ds with
      | some (o', d) => (match asgO (sl.set m (.own o')) t d with
        | some sl' => .nx sl' s1
        | none => .bad)
      | none => .bad)
    | some ds, some (.imm (.ref n)) => (match (s1.ob n).bind fun o => mutD op o ds with
      | some (o', d) => (match asgO sl t d with
        | some sl' => .nx sl' (s1.set n o')
        | none => .bad)
      | none => .bad)
    | _, _ => .bad) else .bad
  | .frz i, sl, s => match sl[i]? with
    | some (.own (.lst ds)) => .nx (sl.set i (.imm (.lst ds))) s
    | some (.own (.dic ds)) => .nx (sl.set i (.imm (.dic ds))) s
    | some (.imm _) => .nx sl s
    | _ => .bad
  | .expr e, sl, s => (evE cf sl e s).st sl fun _ s' => .nx sl s'
  | .ifS c a b, sl, s => (testE cf c sl s).st sl fun k s' => if k then exSs a sl s' else exSs b sl s'
  | .forS t it b, sl, s => (evIt cf sl it s).st sl fun xs s' => forL (fun x sl1 s1 => match asgTg sl1 s1 t (.imm x) with
      | some sl2 => exSs b sl2 s1
      | none => .bad) xs sl s'
  | .whileS c b, sl, s => whileF (testE cf c) (exSs b) sl s
  | .ret e, sl, s => (evE cf sl e s).st sl fun r s' => match r with
    | .peek _ => .bad
    | r => .ret r s'
  | .retOwn i, sl, s => match sl[i]? with
    | some (.own o) => .ret (.own o) s
    | some (.imm d) => .ret (.imm d) s
    | _ => .bad
  | .pass, sl, s => .nx sl s
  | .brk, sl, s => .brk sl s
  | .cnt, sl, s => .cnt sl s
noncomputable def exSs : Ss → List L → St → F
  | .nil, sl, s => .nx sl s
  | .cons a r, sl, s => (exS a sl s).seq fun sl' s' => exSs r sl' s'
end
end

noncomputable def forB (cf : CF) (t : Tg) (b : Ss) (x : D) (sl1 : List L) (s1 : St) : F := match asgTg sl1 s1 t (.imm x) with
  | some sl2 => exSs cf b sl2 s1
  | none => .bad
def compF (cf : CF) (sl : List L) (own : List Nat) (t : Tg) (c e : E) (x : D) (s1 : St) : R (Option D) := match asgTg (wipeL sl own) s1 t (.imm x) with
  | none => .bad
  | some sl' => (evE cf sl' c s1).bind fun k s2 => (testR k s2).bind fun b s3 => if b then (evE cf sl' e s3).bind fun r s4 => (match r with
    | .imm d => .ok (some d) s4
    | _ => .bad) else .ok none s3
/-- a test by its value alone -/
def E.plain : E → Bool
  | .and_ _ _ | .or_ _ _ | .not_ _ => false
  | _ => true
theorem tsE_plain {cf : CF} {sl : List L} {e : E} (h : e.plain = true) (s : St) : tsE cf sl e s = (evE cf sl e s).bind testR := by
  cases e <;> first | (cases h; done) | (rw [tsE]; all_goals (intros; rename_i z; cases z))
/-- a def: its name, its parameters' count, its slots' count, its body -/
structure Fn where
  name : String
  ar : Nat
  sl : Nat
  body : Ss
/-- a call: at most d calls, one within another -/
noncomputable def callD (fs : List Fn) : Nat → CF
  | 0, _, _, _ => .bad
  | d + 1, f, as, s => match fs[f]? with
    | some fn => if as.length = fn.ar then (match exSs (callD fs d) fn.body (as.map .imm ++ List.replicate (fn.sl - fn.ar) .un) s with
      | .nx _ s' => .ok (.imm .non) s'
      | .ret r s' => .ok r s'
      | .exc x _ s' => .exc x s'
      | _ => .bad) else .bad
    | none => .bad
end Rx
/-! Rx1: plain data and the machine's values: what stands for what, and how it stays. -/
namespace Rx
open PySem L2
/-- where stored objects stand, which addresses hold what never changes -/
structure W where
  Z : Addr → Prop
  g : Nat → Addr
  nx : Nat
/-- what is fixed: the written part, the classes' addresses -/
structure GC where
  K : PySem.W.Frag
  cl : Nat → Addr
/-- a list that never changes -/
def Ro (G : GC) (w : W) (H : Hp) (a : Addr) (xs : List V) : Prop := (H a = some (.lst xs) ∧ w.Z a) ∨ (∃ o, H a = some (.frz o (.lst xs))) ∨ ∀ H' : Hp, SqL G.K H' a xs
/-- a dict that never changes -/
def Rdc (w : W) (H : Hp) (a : Addr) (kvs : List (L2.Key × V)) : Prop := H a = some (.dK kvs) ∧ w.Z a
def keyD : D → Option L2.Key
  | .int i => some (.inl i)
  | .str s => some (.inr (Str.ofString s))
  | _ => none
mutual
inductive RepD (G : GC) (w : W) (H : Hp) : D → V → Prop where
  | non : RepD G w H .non .non
  | bl (b : Bool) : RepD G w H (.bl b) (.bl b)
  | int (i : Int) : RepD G w H (.int i) (.int i)
  | str (s : String) : RepD G w H (.str s) (.str (Str.ofString s))
  | ref (n : Nat) : n < w.nx → RepD G w H (.ref n) (.ref (w.g n))
  | tup {a : Addr} {xs : List V} {ds : List D} : SqT G.K H a xs → RepDs G w H ds xs → RepD G w H (.tup ds) (.ref a)
  | lst {a : Addr} {xs : List V} {ds : List D} : Ro G w H a xs → RepDs G w H ds xs → RepD G w H (.lst ds) (.ref a)
  | dic {a : Addr} {kvs : List (L2.Key × V)} {ks : List (D × D)} : Rdc w H a kvs → RepK G w H ks kvs → RepD G w H (.dic ks) (.ref a)
inductive RepDs (G : GC) (w : W) (H : Hp) : List D → List V → Prop where
  | nil : RepDs G w H [] []
  | cons {d : D} {v : V} {ds : List D} {vs : List V} : RepD G w H d v → RepDs G w H ds vs → RepDs G w H (d :: ds) (v :: vs)
inductive RepK (G : GC) (w : W) (H : Hp) : List (D × D) → List (L2.Key × V) → Prop where
  | nil : RepK G w H [] []
  | cons {k d : D} {y : L2.Key} {v : V} {ks : List (D × D)} {kvs : List (L2.Key × V)} : keyD k = some y → RepD G w H d v → RepK G w H ks kvs → RepK G w H ((k, d) :: ks) ((y, v) :: kvs)
end
/-- the fields of an instance -/
inductive RepF (G : GC) (w : W) (H : Hp) : List (String × D) → List (Str × V) → Prop where
  | nil : RepF G w H [] []
  | cons {f : String} {d : D} {v : V} {fs : List (String × D)} {vs : List (Str × V)} : RepD G w H d v → RepF G w H fs vs → RepF G w H ((f, d) :: fs) ((Str.ofString f, v) :: vs)
/-- an object at an address -/
def RepO (G : GC) (w : W) (H : Hp) : O → Addr → Prop
  | .lst ds, a => ∃ xs, H a = some (.lst xs) ∧ RepDs G w H ds xs
  | .dic ks, a => ∃ kvs, H a = some (.dK kvs) ∧ RepK G w H ks kvs
  | .ins c fs, a => ∃ dx vs, H a = some (.ins (G.cl c) dx vs) ∧ RepF G w H fs vs
structure StOk (G : GC) (w : W) (H : Hp) (s : St) : Prop where
  nx : w.nx = s.nx
  lt : ∀ n o, s.ob n = some o → n < w.nx
  rep : ∀ n o, s.ob n = some o → RepO G w H o (w.g n)
  nz : ∀ n o, s.ob n = some o → ¬ w.Z (w.g n)
  inj : ∀ n m o u, s.ob n = some o → s.ob m = some u → w.g n = w.g m → n = m
  zs : ∀ a, w.Z a → ∃ o, H a = some o
/-- not one of the stored objects -/
def Off (w : W) (s : St) (a : Addr) : Prop := ∀ n o, s.ob n = some o → w.g n ≠ a
structure Stp (w : W) (H : Hp) (s : St) (w' : W) (H' : Hp) (s' : St) : Prop where
  keep : ∀ a o, H a = some o → Off w s a → H' a = some o
  zk : ∀ a, w.Z a → w'.Z a
  zn : ∀ a, w'.Z a → w.Z a ∨ H a = none
  nx : w.nx ≤ w'.nx
  gk : ∀ n, n < w.nx → w'.g n = w.g n
  live : ∀ n o, s'.ob n = some o → (n < w.nx ∧ ∃ u, s.ob n = some u) ∨ H (w'.g n) = none
  there : ∀ a o, H a = some o → ∃ u, H' a = some u
section
variable {G : GC} {w w' w2 : W} {H H' H2 : Hp} {s s' s2 : St} {a : Addr}
theorem Stp.refl (k : StOk G w H s) : Stp w H s w H s :=
  ⟨fun _ _ h _ => h, fun _ h => h, fun _ h => .inl h, Nat.le_refl _, fun _ _ => rfl, fun n o h => .inl ⟨k.lt n o h, o, h⟩, fun _ o h => ⟨o, h⟩⟩
theorem Stp.off (p : Stp w H s w' H' s') {o : HO} (h : H a = some o) (f : Off w s a) : Off w' s' a := fun n u hn e => by
  rcases p.live n u hn with ⟨l, v, hv⟩ | z
  · exact f n v hv ((p.gk n l).symm.trans e)
  · rw [e, h] at z
    cases z
theorem Stp.trans (p : Stp w H s w' H' s') (q : Stp w' H' s' w2 H2 s2) : Stp w H s w2 H2 s2 where
  keep := fun a o h f => q.keep a o (p.keep a o h f) (p.off h f)
  zk := fun a h => q.zk a (p.zk a h)
  zn := fun a h => by
    rcases q.zn a h with z | z
    · exact p.zn a z
    · cases e : H a with
      | none => exact .inr rfl
      | some o =>
        obtain ⟨u, hu⟩ := p.there a o e
        rw [hu] at z
        cases z
  nx := Nat.le_trans p.nx q.nx
  gk := fun n h => (q.gk n (Nat.lt_of_lt_of_le h p.nx)).trans (p.gk n h)
  live := fun n o h => by
    rcases q.live n o h with ⟨l, u, hu⟩ | z
    · rcases p.live n u hu with y | y
      · exact .inl y
      · exact .inr (by rw [q.gk n l]; exact y)
    · cases e : H (w2.g n) with
      | none => exact .inr rfl
      | some o =>
        obtain ⟨u, hu⟩ := p.there _ o e
        rw [hu] at z
        cases z
  there := fun a o h => by
    obtain ⟨u, hu⟩ := p.there a o h
    exact q.there a u hu
/-- what a stored object's address holds -/
theorem StOk.mu (k : StOk G w H s) {n : Nat} {o : O} (h : s.ob n = some o) : (∃ xs, H (w.g n) = some (.lst xs)) ∨ (∃ kvs, H (w.g n) = some (.dK kvs)) ∨ ∃ C dx vs, H (w.g n) = some (.ins C dx vs) := by
  have r := k.rep n o h
  cases o with
  | lst ds => obtain ⟨xs, e, _⟩ := r; exact .inl ⟨xs, e⟩
  | dic ks => obtain ⟨xs, e, _⟩ := r; exact .inr (.inl ⟨xs, e⟩)
  | ins c fs => obtain ⟨dx, vs, e, _⟩ := r; exact .inr (.inr ⟨_, dx, vs, e⟩)
theorem StOk.offT (k : StOk G w H s) {xs : List V} (h : H a = some (.tup xs)) : Off w s a := fun n o hn e => by
  rcases k.mu hn with ⟨ys, z⟩ | ⟨ys, z⟩ | ⟨C, dx, vs, z⟩ <;> rw [e, h] at z <;> cases z
theorem StOk.offF (k : StOk G w H s) {o : Obj} {u : HO} (h : H a = some (.frz o u)) : Off w s a := fun n o hn e => by
  rcases k.mu hn with ⟨ys, z⟩ | ⟨ys, z⟩ | ⟨C, dx, vs, z⟩ <;> rw [e, h] at z <;> cases z
theorem StOk.offZ (k : StOk G w H s) (h : w.Z a) : Off w s a := fun n o hn e => k.nz n o hn (by rw [e]; exact h)
theorem Stp.sqT (k : StOk G w H s) (p : Stp w H s w' H' s') {xs : List V} (h : SqT G.K H a xs) : SqT G.K H' a xs := by
  rcases h with (h | ⟨o, h⟩) | h
  · exact .inl (.inl (p.keep _ _ h (k.offT h)))
  · exact .inl (.inr ⟨o, p.keep _ _ h (k.offF h)⟩)
  · exact .inr h
theorem Stp.ro (k : StOk G w H s) (p : Stp w H s w' H' s') {xs : List V} (h : Ro G w H a xs) : Ro G w' H' a xs := by
  rcases h with ⟨h, z⟩ | ⟨o, h⟩ | h
  · exact .inl ⟨p.keep _ _ h (k.offZ z), p.zk _ z⟩
  · exact .inr (.inl ⟨o, p.keep _ _ h (k.offF h)⟩)
  · exact .inr (.inr h)
theorem Stp.rdc (k : StOk G w H s) (p : Stp w H s w' H' s') {xs : List (L2.Key × V)} (h : Rdc w H a xs) : Rdc w' H' a xs := by
  obtain ⟨h, z⟩ := h
  exact ⟨p.keep _ _ h (k.offZ z), p.zk _ z⟩
mutual
theorem RepD.stp (k : StOk G w H s) (p : Stp w H s w' H' s') : ∀ {d : D} {v : V}, RepD G w H d v → RepD G w' H' d v
  | _, _, .non => .non
  | _, _, .bl b => .bl b
  | _, _, .int i => .int i
  | _, _, .str x => .str x
  | _, _, .ref n h => by
    rw [← p.gk n h]
    exact .ref n (Nat.lt_of_lt_of_le h p.nx)
  | _, _, .tup h r => .tup (p.sqT k h) (RepDs.stp k p r)
  | _, _, .lst h r => .lst (p.ro k h) (RepDs.stp k p r)
  | _, _, .dic h r => .dic (p.rdc k h) (RepK.stp k p r)
theorem RepDs.stp (k : StOk G w H s) (p : Stp w H s w' H' s') : ∀ {ds : List D} {vs : List V}, RepDs G w H ds vs → RepDs G w' H' ds vs
  | _, _, .nil => .nil
  | _, _, .cons h r => .cons (RepD.stp k p h) (RepDs.stp k p r)
theorem RepK.stp (k : StOk G w H s) (p : Stp w H s w' H' s') : ∀ {ks : List (D × D)} {kvs : List (L2.Key × V)}, RepK G w H ks kvs → RepK G w' H' ks kvs
  | _, _, .nil => .nil
  | _, _, .cons e h r => .cons e (RepD.stp k p h) (RepK.stp k p r)
end
theorem RepF.stp (k : StOk G w H s) (p : Stp w H s w' H' s') : ∀ {fs : List (String × D)} {vs : List (Str × V)}, RepF G w H fs vs → RepF G w' H' fs vs
  | _, _, .nil => .nil
  | _, _, .cons h r => .cons (h.stp k p) (RepF.stp k p r)
theorem RepO.stp (k : StOk G w H s) (p : Stp w H s w' H' s') {o : O} (h : RepO G w H o a) (f : Off w s a) : RepO G w' H' o a := by
  cases o with
  | lst ds => obtain ⟨xs, e, r⟩ := h; exact ⟨xs, p.keep _ _ e f, r.stp k p⟩
  | dic ks => obtain ⟨xs, e, r⟩ := h; exact ⟨xs, p.keep _ _ e f, r.stp k p⟩
  | ins c fs => obtain ⟨dx, vs, e, r⟩ := h; exact ⟨dx, vs, p.keep _ _ e f, r.stp k p⟩
theorem RepO.some_ {o : O} (h : RepO G w H o a) : ∃ u, H a = some u := by
  cases o with
  | lst ds => obtain ⟨xs, e, r⟩ := h; exact ⟨_, e⟩
  | dic ks => obtain ⟨xs, e, r⟩ := h; exact ⟨_, e⟩
  | ins c fs => obtain ⟨dx, vs, e, r⟩ := h; exact ⟨_, e⟩
theorem Stp.nz (p : Stp w H s w' H' s') {u : HO} (h : H a = some u) (z : ¬ w.Z a) : ¬ w'.Z a := fun y => by
  rcases p.zn a y with e | e
  · exact z e
  · rw [h] at e
    cases e
end
/-- the slots: what the machine's slots hold -/
structure EnvOk (G : GC) (w : W) (H : Hp) (sl : List L) (σ : L2.St) (s : St) : Prop where
  st : StOk G w H s
  len : sl.length = σ.length
  imm : ∀ (i : Nat) (d : D), sl[i]? = some (L.imm d) → ∃ v, σ[i]? = some (some v) ∧ RepD G w H d v
  own : ∀ (i : Nat) (o : O), sl[i]? = some (L.own o) → ∃ a, σ[i]? = some (some (V.ref a)) ∧ RepO G w H o a ∧ ¬ w.Z a ∧ Off w s a ∧ o.coll = true
  dist : ∀ (i j : Nat) (o u : O) (a : Addr), sl[i]? = some (L.own o) → sl[j]? = some (L.own u) → σ[i]? = some (some (V.ref a)) → σ[j]? = some (some (V.ref a)) → i = j
/-- a result; H0: the heap ahead of it -/
def RepR (G : GC) (w : W) (H : Hp) (s : St) (H0 : Hp) : RV → V → Prop
  | .imm d, v => RepD G w H d v
  | .own o, v => ∃ a, v = .ref a ∧ RepO G w H o a ∧ ¬ w.Z a ∧ Off w s a ∧ o.coll = true ∧ H0 a = none
  | .peek o, v => ∃ a, v = .ref a ∧ RepO G w H o a ∧ ¬ w.Z a ∧ Off w s a ∧ o.coll = true
inductive RepRs (G : GC) (w : W) (H : Hp) (s : St) (H0 : Hp) : List RV → List V → Prop where
  | nil : RepRs G w H s H0 [] []
  | cons {r : RV} {v : V} {rs : List RV} {vs : List V} : RepR G w H s H0 r v → RepRs G w H s H0 rs vs → RepRs G w H s H0 (r :: rs) (v :: vs)
/-- an error in flight: its class, the address of its own dict -/
def RepX (G : GC) (w : W) (H : Hp) (x : XC) (c : Value) (d : Option Addr) : Prop := c = .ref (G.cl x.cls) ∧ match d with
  | none => x.fs = []
  | some a => ∃ vs, H a = some (.xd vs) ∧ RepF G w H x.fs vs
section
variable {G : GC} {w w' w2 : W} {H H' H2 H0 : Hp} {s s' s2 : St} {a : Addr} {sl : List L} {σ : L2.St}
theorem EnvOk.stp (e : EnvOk G w H sl σ s) (p : Stp w H s w' H' s') (k : StOk G w' H' s') : EnvOk G w' H' sl σ s' where
  st := k
  len := e.len
  imm := fun i d h => by
    obtain ⟨v, h1, h2⟩ := e.imm i d h
    exact ⟨v, h1, h2.stp e.st p⟩
  own := fun i o h => by
    obtain ⟨a, h1, h2, h3, h4, h5⟩ := e.own i o h
    obtain ⟨u, hu⟩ := h2.some_
    exact ⟨a, h1, h2.stp e.st p h4, p.nz hu h3, p.off hu h4, h5⟩
  dist := e.dist
theorem RepR.stp {r : RV} {v : V} (h : RepR G w H s H0 r v) (k : StOk G w H s) (p : Stp w H s w' H' s') : RepR G w' H' s' H0 r v := by
  cases r with
  | imm d => exact RepD.stp k p h
  | own o =>
    obtain ⟨a, h1, h2, h3, h4, h5, h6⟩ := h
    obtain ⟨u, hu⟩ := h2.some_
    exact ⟨a, h1, h2.stp k p h4, p.nz hu h3, p.off hu h4, h5, h6⟩
  | peek o =>
    obtain ⟨a, h1, h2, h3, h4, h5⟩ := h
    obtain ⟨u, hu⟩ := h2.some_
    exact ⟨a, h1, h2.stp k p h4, p.nz hu h3, p.off hu h4, h5⟩
/-- seen from an earlier heap -/
theorem RepR.back {r : RV} {v : V} (h : RepR G w2 H2 s2 H' r v) (p : Stp w H s w' H' s') : RepR G w2 H2 s2 H r v := by
  cases r with
  | imm d => exact h
  | own o =>
    obtain ⟨a, h1, h2, h3, h4, h6, h5⟩ := h
    refine ⟨a, h1, h2, h3, h4, h6, ?_⟩
    cases e : H a with
    | none => rfl
    | some o =>
      obtain ⟨u, hu⟩ := p.there a o e
      rw [hu] at h5
      cases h5
  | peek o => exact h
theorem RepRs.back : ∀ {rs : List RV} {vs : List V}, RepRs G w2 H2 s2 H' rs vs → Stp w H s w' H' s' → RepRs G w2 H2 s2 H rs vs
  | _, _, .nil, _ => .nil
  | _, _, .cons h r, p => .cons (h.back p) (RepRs.back r p)
end
/-! ### readings -/
/-- what a result asks: of a value, of an error -/
def PostV (G : GC) (X : WX) (σ : L2.St) (w : W) (H : Hp) (s : St) (r : R RV) (Q : VK) : Prop := match r with
  | .ok v s' => ∀ u w' H', Stp w H s w' H' s' → StOk G w' H' s' → RepR G w' H' s' H v u → Q u H'
  | .exc x s' => ∀ c d w' H', Stp w H s w' H' s' → StOk G w' H' s' → RepX G w' H' x c d → X c d σ H'
  | .bad => False
def PostVs (G : GC) (X : WX) (σ : L2.St) (w : W) (H : Hp) (s : St) (r : R (List RV)) (Q : List V → Hp → Prop) : Prop := match r with
  | .ok v s' => ∀ u w' H', Stp w H s w' H' s' → StOk G w' H' s' → RepRs G w' H' s' H v u → Q u H'
  | .exc x s' => ∀ c d w' H', Stp w H s w' H' s' → StOk G w' H' s' → RepX G w' H' x c d → X c d σ H'
  | .bad => False
def PostB (G : GC) (X : WX) (σ : L2.St) (w : W) (H : Hp) (s : St) (r : R Bool) (Q : Bool → Hp → Prop) : Prop := match r with
  | .ok b s' => ∀ w' H', Stp w H s w' H' s' → StOk G w' H' s' → Q b H'
  | .exc x s' => ∀ c d w' H', Stp w H s w' H' s' → StOk G w' H' s' → RepX G w' H' x c d → X c d σ H'
  | .bad => False
def tE (G : GC) (X : WX) (cf : CF) (e : E) : TE := fun σ H Q => ∃ w sl s, EnvOk G w H sl σ s ∧ PostV G X σ w H s (evE cf sl e s) Q
def tEs (G : GC) (X : WX) (cf : CF) (es : Es) : TA := fun σ H Q => ∃ w sl s, EnvOk G w H sl σ s ∧ PostVs G X σ w H s (evEs cf sl es s) Q
def tB' (G : GC) (X : WX) (cf : CF) (e : E) : TT := fun σ H Q => ∃ w sl s, EnvOk G w H sl σ s ∧ PostB G X σ w H s (testE cf e sl s) Q
theorem pe_mono {X : Cx} {e : Expr} {t t' : TE} (h : PE X e t) (m : ∀ σ H Q, t' σ H Q → t σ H Q) : PE X e t' := ⟨fun pins s σ H Q I q => h.run pins s σ H Q I (m _ _ _ q)⟩
theorem pa_mono {X : Cx} {e : List Expr} {t t' : TA} (h : PA X e t) (m : ∀ σ H Q, t' σ H Q → t σ H Q) : PA X e t' := ⟨fun pos pins s σ H Q I q => h.run pos pins s σ H Q I (m _ _ _ q)⟩
theorem pt_mono {X : Cx} {e : Expr} {t t' : TT} (h : PT X e t) (m : ∀ σ H Q, t' σ H Q → t σ H Q) : PT X e t' := ⟨fun pins s σ H Q I q => h.run pins s σ H Q I (m _ _ _ q)⟩
theorem ps_mono {X : Cx} {e : Stmt} {t t' : TS} (h : PS X e t) (m : ∀ D σ H, t' D σ H → t D σ H) : PS X e t' := ⟨fun pins s σ H D I q => h.run pins s σ H D I (m _ _ _ q)⟩
theorem pss_mono {X : Cx} {e : List Stmt} {t t' : TS} (h : PSs X e t) (m : ∀ D σ H, t' D σ H → t D σ H) : PSs X e t' := ⟨fun pins s σ H D I q => h.run pins s σ H D I (m _ _ _ q)⟩
/-- an expression, then what is made of its value -/
theorem tE_then {G : GC} {X : WX} {cf : CF} {e : E} {σ : L2.St} {H : Hp} {w : W} {sl : List L} {s : St} {Q : VK} (k : EnvOk G w H sl σ s)
    (h : match evE cf sl e s with
      | .ok v s' => ∀ u w' H', Stp w H s w' H' s' → EnvOk G w' H' sl σ s' → RepR G w' H' s' H v u → Q u H'
      | .exc x s' => ∀ c d w' H', Stp w H s w' H' s' → StOk G w' H' s' → RepX G w' H' x c d → X c d σ H'
      | .bad => False) : tE G X cf e σ H Q := by
  refine ⟨w, sl, s, k, ?_⟩
  revert h
  cases evE cf sl e s with
  | ok v s' => exact fun h u w' H' p k' r => h u w' H' p (k.stp p k') r
  | exc x s' => exact fun h => h
  | bad => exact fun h => h
end Rx
/-! Rx2: each operation keeps its word. -/
namespace Rx
open PySem L2
/-- what a value is now -/
def Cur (G : GC) (w : W) (H : Hp) : D → V → Prop
  | .lst ds, v => ∃ a xs, v = .ref a ∧ SqL G.K H a xs ∧ RepDs G w H ds xs
  | .dic ks, v => ∃ a xs, v = .ref a ∧ H a = some (.dK xs) ∧ RepK G w H ks xs
  | d, v => RepD G w H d v
inductive Curs (G : GC) (w : W) (H : Hp) : List D → List V → Prop where
  | nil : Curs G w H [] []
  | cons {d : D} {v : V} {ds : List D} {vs : List V} : Cur G w H d v → Curs G w H ds vs → Curs G w H (d :: ds) (v :: vs)
section
variable {G : GC} {w w' w2 : W} {H H' H2 H0 : Hp} {s s' s2 : St} {a : Addr} {sl : List L} {σ : L2.St}
theorem Ro.sq {xs : List V} (h : Ro G w H a xs) : SqL G.K H a xs := by
  rcases h with ⟨h, _⟩ | ⟨o, h⟩ | h
  · exact SqL.of h
  · exact .inl (.inr ⟨o, h⟩)
  · exact h H
theorem RepD.cur {d : D} {v : V} (h : RepD G w H d v) : Cur G w H d v := by
  cases d with
  | lst ds => cases h with
    | lst h r => exact ⟨_, _, rfl, h.sq, r⟩
  | dic ks => cases h with
    | dic h r => exact ⟨_, _, rfl, h.1, r⟩
  | _ => exact h
theorem cur_of {r : RV} {v : V} (h : RepR G w H s H0 r v) (k : StOk G w H s) : Cur G w H (snap s r) v := by
  cases r with
  | imm d =>
    cases d with
    | ref n =>
      have h' : RepD G w H (.ref n) v := h
      cases e : s.ob n with
      | none => simp only [snap, e]; exact h'
      | some o =>
        have q := k.rep n o e
        cases o with
        | lst ds =>
          simp only [snap, e]
          obtain ⟨xs, h1, h2⟩ := q
          cases h' with
          | ref n hn => exact ⟨_, xs, rfl, SqL.of h1, h2⟩
        | dic ks =>
          simp only [snap, e]
          obtain ⟨xs, h1, h2⟩ := q
          cases h' with
          | ref n hn => exact ⟨_, xs, rfl, h1, h2⟩
        | ins c fs => simp only [snap, e]; exact h'
    | _ => exact RepD.cur (show RepD G w H _ v from h)
  | own o =>
    obtain ⟨a, rfl, h1, _, _, hc, _⟩ := h
    cases o with
    | lst ds => obtain ⟨xs, h2, h3⟩ := h1; exact ⟨a, xs, rfl, SqL.of h2, h3⟩
    | dic ks => obtain ⟨xs, h2, h3⟩ := h1; exact ⟨a, xs, rfl, h2, h3⟩
    | ins c fs => cases hc
  | peek o =>
    obtain ⟨a, rfl, h1, _, _, hc⟩ := h
    cases o with
    | lst ds => obtain ⟨xs, h2, h3⟩ := h1; exact ⟨a, xs, rfl, SqL.of h2, h3⟩
    | dic ks => obtain ⟨xs, h2, h3⟩ := h1; exact ⟨a, xs, rfl, h2, h3⟩
    | ins c fs => cases hc
theorem curs_of (k : StOk G w H s) : ∀ {rs : List RV} {vs : List V}, RepRs G w H s H0 rs vs → Curs G w H (rs.map (snap s)) vs
  | _, _, .nil => .nil
  | _, _, .cons h r => .cons (cur_of h k) (curs_of k r)
theorem RepDs.len : ∀ {ds : List D} {vs : List V}, RepDs G w H ds vs → ds.length = vs.length
  | _, _, .nil => rfl
  | _, _, .cons _ r => congrArg Nat.succ (RepDs.len r)
theorem RepDs.get : ∀ {ds : List D} {vs : List V} {i : Nat} {d : D}, RepDs G w H ds vs → ds[i]? = some d → ∃ v, vs[i]? = some v ∧ RepD G w H d v
  | _, _, _, _, .nil, h => by simp at h
  | _, _, 0, _, .cons h _, e => by simp at e; subst e; exact ⟨_, rfl, h⟩
  | _, _, i + 1, _, .cons _ r, e => by simp at e; obtain ⟨v, h1, h2⟩ := RepDs.get r e; exact ⟨v, by simpa using h1, h2⟩
theorem RepDs.getV : ∀ {ds : List D} {vs : List V} {i : Nat} {v : V}, RepDs G w H ds vs → vs[i]? = some v → ∃ d, ds[i]? = some d ∧ RepD G w H d v
  | _, _, _, _, .nil, h => by simp at h
  | _, _, 0, _, .cons h _, e => by simp at e; subst e; exact ⟨_, rfl, h⟩
  | _, _, i + 1, _, .cons _ r, e => by simp at e; obtain ⟨v, h1, h2⟩ := RepDs.getV r e; exact ⟨v, by simpa using h1, h2⟩
theorem RepDs.app : ∀ {ds es : List D} {vs us : List V}, RepDs G w H ds vs → RepDs G w H es us → RepDs G w H (ds ++ es) (vs ++ us)
  | _, _, _, _, .nil, h => h
  | _, _, _, _, .cons h r, q => .cons h (RepDs.app r q)
theorem RepDs.set {d : D} {v : V} (h : RepD G w H d v) : ∀ {ds : List D} {vs : List V} (i : Nat), RepDs G w H ds vs → RepDs G w H (ds.set i d) (vs.set i v)
  | _, _, _, .nil => .nil
  | _, _, 0, .cons _ r => .cons h r
  | _, _, i + 1, .cons q r => .cons q (RepDs.set h i r)
/-! ### == -/
mutual
def toPy : D → PyData
  | .non => .none
  | .bl b => .bool b
  | .int i => .int i
  | .str s => .str (Str.ofString s)
  | .tup xs => .tuple (toPys xs)
  | .lst xs => .list (toPys xs)
  | .dic _ => .none
  | .ref _ => .none
def toPys : List D → List PyData
  | [] => []
  | x :: xs => toPy x :: toPys xs
end
theorem ofString_cps (s : String) : (Str.ofString s).cps = (s.toList.map Char.toNat).toArray := by rw [Str.ofString_eq_toList]
theorem charNat_inj : ∀ {a b : Char}, a.toNat = b.toNat → a = b := fun {a b} h => by
  have h1 : a.val.toNat = b.val.toNat := h
  have h2 : a.val = b.val := UInt32.toNat_inj.mp h1
  exact Char.ext h2
theorem ofString_inj {s t : String} : Str.ofString s = Str.ofString t ↔ s = t := by
  constructor
  · intro h
    have h1 := congrArg Str.cps h
    rw [ofString_cps, ofString_cps] at h1
    have h2 : s.toList.map Char.toNat = t.toList.map Char.toNat := by simpa using congrArg Array.toList h1
    have h3 : s.toList = t.toList := by
      have inj : ∀ {l m : List Char}, l.map Char.toNat = m.map Char.toNat → l = m := by
        intro l
        induction l with
        | nil => intro m h; cases m with
          | nil => rfl
          | cons => simp at h
        | cons a l ih => intro m h; cases m with
          | nil => simp at h
          | cons b m =>
            simp only [List.map_cons, List.cons.injEq] at h
            rw [charNat_inj h.1, ih h.2]
      exact inj h2
    exact String.toList_inj.mp h3
  · intro h; rw [h]
theorem ofString_len (s : String) : (Str.ofString s).length = s.length := by
  show (Str.ofString s).cps.size = s.length
  rw [ofString_cps]
  simp [String.length_toList]
theorem ofString_app (s t : String) : Str.ofString (s ++ t) = Str.ofString s ++ Str.ofString t := by
  have h : (Str.ofString (s ++ t)).cps = (Str.ofString s).cps ++ (Str.ofString t).cps := by
    rw [ofString_cps, ofString_cps, ofString_cps]
    simp
  show Str.ofString (s ++ t) = ⟨(Str.ofString s).cps ++ (Str.ofString t).cps⟩
  rw [← h]
theorem strOk_of (s : String) : PyData.strOk (Str.ofString s) = true := by
  unfold PyData.strOk
  rw [ofString_cps, Array.all_eq_true]
  intro i hi
  simp only [List.getElem_toArray, List.getElem_map, decide_eq_true_eq]
  have h := (s.toList[i]'(by simpa using hi)).valid
  have e : (s.toList[i]'(by simpa using hi)).toNat = (s.toList[i]'(by simpa using hi)).val.toNat := rfl
  rw [e]
  simp only [UInt32.isValidChar, Nat.isValidChar] at h
  omega
mutual
theorem dep_lay : ∀ (d : D) (n : Nat), dep d = some n → (toPy d).canLay0 = true ∧ (toPy d).depth = n
  | .non, n, h => by simp [dep] at h; subst h; exact ⟨rfl, rfl⟩
  | .bl b, n, h => by simp [dep] at h; subst h; exact ⟨rfl, rfl⟩
  | .int i, n, h => by simp [dep] at h; subst h; exact ⟨rfl, rfl⟩
  | .str s, n, h => by simp [dep] at h; subst h; exact ⟨by show PyData.strOk _ = true; exact strOk_of s, rfl⟩
  | .tup xs, n, h => by
    simp only [dep, Option.map_eq_some_iff] at h
    obtain ⟨m, h1, h2⟩ := h
    obtain ⟨h3, h4⟩ := deps_lay xs m h1
    refine ⟨?_, ?_⟩
    · simp only [toPy, PyData.canLay0]; exact h3
    · simp only [toPy, PyData.depth]; omega
  | .lst xs, n, h => by
    simp only [dep, Option.map_eq_some_iff] at h
    obtain ⟨m, h1, h2⟩ := h
    obtain ⟨h3, h4⟩ := deps_lay xs m h1
    refine ⟨?_, ?_⟩
    · simp only [toPy, PyData.canLay0]; exact h3
    · simp only [toPy, PyData.depth]; omega
  | .dic _, n, h => by simp [dep] at h
  | .ref _, n, h => by simp [dep] at h
theorem deps_lay : ∀ (ds : List D) (n : Nat), deps ds = some n → PyData.canLayAll0 (toPys ds) = true ∧ PyData.depthAll (toPys ds) = n
  | [], n, h => by simp [deps] at h; subst h; exact ⟨rfl, rfl⟩
  | d :: ds, n, h => by
    simp only [deps] at h
    split at h
    · rename_i a b e1 e2
      obtain ⟨h1, h2⟩ := dep_lay d a e1
      obtain ⟨h3, h4⟩ := deps_lay ds b e2
      cases h
      refine ⟨?_, ?_⟩
      · simp only [toPys, PyData.canLayAll0, h1, h3, Bool.and_self]
      · simp only [toPys, PyData.depthAll]; omega
    · cases h
end
theorem okEq_shaped {d : D} (h : okEq d = true) : SeqAt.shaped (toPy d) = true := by
  unfold okEq at h
  split at h
  · rename_i n e
    obtain ⟨h1, h2⟩ := dep_lay d n e
    unfold SeqAt.shaped
    rw [h1, h2]
    simpa using h
  · cases h
mutual
theorem deq_eqv : ∀ (a b : D), (dep a).isSome = true → (dep b).isSome = true → deq a b = PyData.eqv (toPy a) (toPy b)
  | .tup xs, .tup ys, h1, h2 => by
    simp only [deq, toPy, PyData.eqv]
    exact deqs_eqv xs ys (by simpa [dep] using h1) (by simpa [dep] using h2)
  | .lst xs, .lst ys, h1, h2 => by
    simp only [deq, toPy, PyData.eqv]
    exact deqs_eqv xs ys (by simpa [dep] using h1) (by simpa [dep] using h2)
  | .str s, .str t, h1, h2 => by
    simp only [deq, toPy, PyData.eqv]
    rw [Bool.eq_iff_iff]
    simp only [decide_eq_true_eq, beq_iff_eq]
    exact ofString_inj.symm
  | .dic _, _, h1, _ => by simp [dep] at h1
  | .ref _, _, h1, _ => by simp [dep] at h1
  | _, .dic _, _, h2 => by simp [dep] at h2
  | _, .ref _, _, h2 => by simp [dep] at h2
  | .non, .non, _, _ | .non, .bl _, _, _ | .non, .int _, _, _ | .non, .str _, _, _ | .non, .tup _, _, _ | .non, .lst _, _, _ => by simp only [deq, toPy, PyData.eqv]
  | .bl _, .non, _, _ | .bl _, .bl _, _, _ | .bl _, .int _, _, _ | .bl _, .str _, _, _ | .bl _, .tup _, _, _ | .bl _, .lst _, _, _ => by simp only [deq, toPy, PyData.eqv]
  | .int _, .non, _, _ | .int _, .bl _, _, _ | .int _, .int _, _, _ | .int _, .str _, _, _ | .int _, .tup _, _, _ | .int _, .lst _, _, _ => by simp only [deq, toPy, PyData.eqv]
  | .str _, .non, _, _ | .str _, .bl _, _, _ | .str _, .int _, _, _ | .str _, .tup _, _, _ | .str _, .lst _, _, _ => by simp only [deq, toPy, PyData.eqv]
  | .tup _, .non, _, _ | .tup _, .bl _, _, _ | .tup _, .int _, _, _ | .tup _, .str _, _, _ | .tup _, .lst _, _, _ => by simp only [deq, toPy, PyData.eqv]
  | .lst _, .non, _, _ | .lst _, .bl _, _, _ | .lst _, .int _, _, _ | .lst _, .str _, _, _ | .lst _, .tup _, _, _ => by simp only [deq, toPy, PyData.eqv]
theorem deqs_eqv : ∀ (xs ys : List D), (deps xs).isSome = true → (deps ys).isSome = true → deqs xs ys = PyData.eqvAll (toPys xs) (toPys ys)
  | [], [], _, _ => by simp only [deqs, toPys, PyData.eqvAll]
  | [], _ :: _, _, _ => by simp only [deqs, toPys, PyData.eqvAll]
  | _ :: _, [], _, _ => by simp only [deqs, toPys, PyData.eqvAll]
  | x :: xs, y :: ys, h1, h2 => by
    have g : ∀ {a : D} {l : List D}, (deps (a :: l)).isSome = true → (dep a).isSome = true ∧ (deps l).isSome = true := fun {a l} h => by
      simp only [deps] at h
      split at h
      · rename_i e1 e2; rw [e1, e2]; exact ⟨rfl, rfl⟩
      · cases h
    obtain ⟨a1, a2⟩ := g h1
    obtain ⟨b1, b2⟩ := g h2
    simp only [deqs, toPys, PyData.eqvAll]
    rw [deq_eqv x y a1 b1, deqs_eqv xs ys a2 b2]
end
theorem okEq_some {d : D} (h : okEq d = true) : (dep d).isSome = true := by
  unfold okEq at h
  split at h
  · rename_i e; rw [e]; rfl
  · cases h
mutual
theorem RepD.dp : ∀ {d : D} {v : V}, RepD G w H d v → (dep d).isSome = true → Dp G.K H v (toPy d)
  | _, _, .non, _ => .non
  | _, _, .bl b, _ => .bl b
  | _, _, .int i, _ => .int i
  | _, _, .str s, _ => .str _
  | _, _, .ref n h, z => by simp [dep] at z
  | _, _, .tup h r, z => .tup h (RepDs.dp r (by simpa [dep] using z))
  | _, _, .lst h r, z => .lst h.sq (RepDs.dp r (by simpa [dep] using z))
  | _, _, .dic _ _, z => by simp [dep] at z
theorem RepDs.dp : ∀ {ds : List D} {vs : List V}, RepDs G w H ds vs → (deps ds).isSome = true → DpAll G.K H vs (toPys ds)
  | _, _, .nil, _ => .nil
  | _, _, .cons (d := d) (ds := ds) h r, z => by
    simp only [deps] at z
    split at z
    · rename_i e1 e2
      exact .cons (RepD.dp h (by rw [e1]; rfl)) (RepDs.dp r (by rw [e2]; rfl))
    · cases z
theorem RepK.dp : ∀ {ks : List (D × D)} {kvs : List (L2.Key × V)}, RepK G w H ks kvs → True
  | _, _, .nil => trivial
  | _, _, .cons _ _ r => RepK.dp r
end
theorem Cur.dp {d : D} {v : V} (h : Cur G w H d v) (z : (dep d).isSome = true) : Dp G.K H v (toPy d) := by
  cases d with
  | lst ds =>
    obtain ⟨a, xs, rfl, h1, h2⟩ := h
    exact .lst h1 (RepDs.dp h2 (by simpa [dep] using z))
  | dic ks => simp [dep] at z
  | _ => exact RepD.dp (show RepD G w H _ v from h) z
end
/-- an operation of two values that makes no object -/
def Pr2 (G : GC) (p : P) (r : R2) : Prop := ∀ w H d e x v u (Q : VK), Cur G w H d v → Cur G w H e u → primD p [d, e] = some x → (∀ dr z, x = .imm dr → RepD G w H dr z → Q z H) → r v u H Q
/-- .. of a list of values -/
def PrN (G : GC) (p : P) (r : List V → Hp → VK → Prop) : Prop := ∀ w H ds x vs (Q : VK), Curs G w H ds vs → primD p ds = some x → (∀ dr z, x = .imm dr → RepD G w H dr z → Q z H) → r vs H Q
/-- it is data that comes -/
def ImmP (p : P) : Prop := ∀ ds x, primD p ds = some x → ∃ d, x = .imm d
def BoolP (p : P) : Prop := ∀ ds x, primD p ds = some x → ∃ b, x = .imm (.bl b)
theorem BoolP.imm {p : P} (h : BoolP p) : ImmP p := fun ds x e => by obtain ⟨b, e⟩ := h ds x e; exact ⟨_, e⟩
end Rx
/-! Rx3: the operations, one by one; expressions. -/
namespace Rx
open PySem L2 PySem.Spec PyProof.Rows
section
variable {G : GC} {X : Cx} {W0 : WX} {cf : CF}
theorem imm_int {G : GC} {w : W} {H : Hp} {Q : VK} {x : RV} {i : Int} (e : some (RV.imm (.int i)) = some x) (q : ∀ dr z, x = .imm dr → RepD G w H dr z → Q z H) : Q (.int i) H := by
  cases e; exact q _ _ rfl (.int i)
theorem imm_bl {G : GC} {w : W} {H : Hp} {Q : VK} {x : RV} {i : Bool} (e : some (RV.imm (.bl i)) = some x) (q : ∀ dr z, x = .imm dr → RepD G w H dr z → Q z H) : Q (.bl i) H := by
  cases e; exact q _ _ rfl (.bl i)
def rAddX : R2 := fun x y H Q => (∃ i j, x = .int i ∧ y = .int j ∧ Q (.int (i + j)) H) ∨ (∃ i j, x = .str i ∧ y = .str j ∧ i.length + j.length ≤ sizeLine ∧ Q (.str (i ++ j)) H)
theorem op_addX : OpR X (binaryOp .Add) rAddX := OpR.or op_add op_add_str
theorem two_int {p : P} {d e : D} {x : RV} (h : primD p [d, e] = some x) (hp : ∀ d e, (∀ i j, ¬ (d = .int i ∧ e = .int j)) → primD p [d, e] = none) : ∃ i j, d = .int i ∧ e = .int j := by
  cases d with
  | int i => cases e with
    | int j => exact ⟨i, j, rfl, rfl⟩
    | _ => rw [hp _ _ (by intro i j z; exact nomatch z.2)] at h; cases h
  | _ => rw [hp _ _ (by intro i j z; exact nomatch z.1)] at h; cases h
theorem pr_add : Pr2 G .add rAddX := by
  intro w H d e x v u Q hd he hp q
  cases d with
  | int i => cases e with
    | int j =>
      cases hd; cases he
      exact .inl ⟨i, j, rfl, rfl, imm_int (by simpa only [primD] using hp) q⟩
    | _ => simp [primD] at hp
  | str i => cases e with
    | str j =>
      cases hd; cases he
      simp only [primD] at hp
      split at hp
      · rename_i hl
        cases hp
        refine .inr ⟨_, _, rfl, rfl, by rw [ofString_len, ofString_len, sizeLine_eq]; exact hl, ?_⟩
        rw [← ofString_app]
        exact q _ _ rfl (.str _)
      · cases hp
    | _ => simp [primD] at hp
  | _ => simp [primD] at hp
theorem pr_I {p : P} {C : Int → Int → Prop} {g : Int → Int → V} {f : Int → Int → D} (hC : ∀ d e x, primD p [d, e] = some x → ∃ i j, d = .int i ∧ e = .int j ∧ C i j ∧ x = .imm (f i j)) (hg : ∀ G w H i j, RepD G w H (f i j) (g i j)) : Pr2 G p (rI C g) := by
  intro w H d e x v u Q hd he hp q
  obtain ⟨i, j, rfl, rfl, c, rfl⟩ := hC d e x hp
  cases hd; cases he
  exact ⟨i, j, rfl, rfl, c, q _ _ rfl (hg _ _ _ _ _)⟩
theorem pr_I0 {p : P} {g : Int → Int → V} {f : Int → Int → D} (hC : ∀ d e x, primD p [d, e] = some x → ∃ i j, d = .int i ∧ e = .int j ∧ x = .imm (f i j)) (hg : ∀ G w H i j, RepD G w H (f i j) (g i j)) : Pr2 G p (rI0 g) := by
  intro w H d e x v u Q hd he hp q
  obtain ⟨i, j, rfl, rfl, rfl⟩ := hC d e x hp
  cases hd; cases he
  exact ⟨i, j, rfl, rfl, q _ _ rfl (hg _ _ _ _ _)⟩
theorem pr_sub : Pr2 G .sub (rI0 fun i j => .int (i - j)) := pr_I0 (f := fun i j => .int (i - j)) (fun d e x h => by cases d <;> cases e <;> simp [primD] at h; exact ⟨_, _, rfl, rfl, h.symm⟩) (fun _ _ _ _ _ => .int _)
theorem pr_lt : Pr2 G .lt (rI0 fun i j => .bl (decide (i < j))) := pr_I0 (f := fun i j => .bl (decide (i < j))) (fun d e x h => by cases d <;> cases e <;> simp [primD] at h; exact ⟨_, _, rfl, rfl, h.symm⟩) (fun _ _ _ _ _ => .bl _)
theorem pr_le : Pr2 G .le (rI0 fun i j => .bl (decide (i ≤ j))) := pr_I0 (f := fun i j => .bl (decide (i ≤ j))) (fun d e x h => by cases d <;> cases e <;> simp [primD] at h; exact ⟨_, _, rfl, rfl, h.symm⟩) (fun _ _ _ _ _ => .bl _)
theorem pr_gt : Pr2 G .gt (rI0 fun i j => .bl (decide (j < i))) := pr_I0 (f := fun i j => .bl (decide (j < i))) (fun d e x h => by cases d <;> cases e <;> simp [primD] at h; exact ⟨_, _, rfl, rfl, h.symm⟩) (fun _ _ _ _ _ => .bl _)
theorem pr_ge : Pr2 G .ge (rI0 fun i j => .bl (decide (j ≤ i))) := pr_I0 (f := fun i j => .bl (decide (j ≤ i))) (fun d e x h => by cases d <;> cases e <;> simp [primD] at h; exact ⟨_, _, rfl, rfl, h.symm⟩) (fun _ _ _ _ _ => .bl _)
theorem pr_mul : Pr2 G .mul (rI CMul fun i j => .int (i * j)) := pr_I (f := fun i j => .int (i * j)) (fun d e x h => by
  cases d <;> cases e <;> simp only [primD] at h <;> try (cases h; done)
  split at h
  · rename_i c
    cases h
    refine ⟨_, _, rfl, rfl, ?_, rfl⟩
    unfold CMul
    omega
  · cases h) (fun _ _ _ _ _ => .int _)
def CFd (_ j : Int) : Prop := j ≠ 0 ∧ j.natAbs.log2 < 9000
theorem op_fd : OpR X (binaryOp .FloorDiv) (rI CFd fun i j => .int (i.fdiv j)) := opI fun i j _ _ _ _ _ hc q => PyProof.Rows.floordiv_int hc.1 q (.inl (PyProof.noPylong_of_log2 hc.2))
theorem pr_fdiv : Pr2 G .fdiv (rI CFd fun i j => .int (i.fdiv j)) := pr_I (f := fun i j => .int (i.fdiv j)) (fun d e x h => by
  cases d <;> cases e <;> simp only [primD] at h <;> try (cases h; done)
  split at h
  · rename_i c
    cases h
    refine ⟨_, _, rfl, rfl, ⟨c.1, ?_⟩, rfl⟩
    have h1 : (2 : Nat) ^ 128 = 340282366920938463463374607431768211456 := by decide +kernel
    have h2 := PySem.Flt.log2_lt_of (k := 128) (by decide) (by rw [h1]; exact c.2)
    omega
  · cases h) (fun _ _ _ _ _ => .int _)
theorem pr_mod : Pr2 G .mod (rI (fun _ j => j ≠ 0) fun i j => .int (i.fmod j)) := pr_I (f := fun i j => .int (i.fmod j)) (fun d e x h => by
  cases d <;> cases e <;> simp only [primD] at h <;> try (cases h; done)
  split at h
  · rename_i c
    cases h
    exact ⟨_, _, rfl, rfl, c, rfl⟩
  · cases h) (fun _ _ _ _ _ => .int _)
theorem pr_pow : Pr2 G .pow (rI CPow fun i j => .int (i ^ j.toNat)) := pr_I (f := fun i j => .int (i ^ j.toNat)) (fun d e x h => by
  cases d <;> cases e <;> simp only [primD] at h <;> try (cases h; done)
  split at h
  · rename_i c
    cases h
    exact ⟨_, _, rfl, rfl, ⟨c.1, c.2.1, by have := c.2.2; omega⟩, rfl⟩
  · cases h) (fun _ _ _ _ _ => .int _)
theorem pr_eq : Pr2 G .eq (rEqD G.K) := by
  intro w H d e x v u Q hd he hp q
  simp only [primD] at hp
  split at hp
  · rename_i c
    obtain ⟨c1, c2⟩ := Bool.and_eq_true_iff.mp c
    cases hp
    refine ⟨toPy d, toPy e, hd.dp (okEq_some c1), he.dp (okEq_some c2), okEq_shaped c1, okEq_shaped c2, ?_⟩
    rw [← deq_eqv d e (okEq_some c1) (okEq_some c2)]
    exact q _ _ rfl (.bl _)
  · cases hp
theorem pr_ne : Pr2 G .ne (rNeD G.K) := by
  intro w H d e x v u Q hd he hp q
  simp only [primD] at hp
  split at hp
  · rename_i c
    obtain ⟨c1, c2⟩ := Bool.and_eq_true_iff.mp c
    cases hp
    refine ⟨toPy d, toPy e, hd.dp (okEq_some c1), he.dp (okEq_some c2), okEq_shaped c1, okEq_shaped c2, ?_⟩
    rw [← deq_eqv d e (okEq_some c1) (okEq_some c2)]
    exact q _ _ rfl (.bl _)
  · cases hp
/-! ### indices -/
theorem ixOf_ixN (n : Nat) (i : Int) : ixOf n i = ixN n i := by
  unfold ixOf ixN
  by_cases h : 0 ≤ i
  · rw [if_pos h, if_pos h]
  · rw [if_neg h, if_neg h]
    by_cases h2 : 0 ≤ i + n
    · rw [if_pos h2, if_pos (by omega)]
    · rw [if_neg h2, if_neg (by omega)]
def rIxD : R2 := fun x y H Q => ∃ (a : Addr) (kvs : List (L2.Key × V)) (k : L2.Key) (v : V), x = .ref a ∧ y = kV k ∧ H a = some (.dK kvs) ∧ valV kvs k = some v ∧ Q v H
def rIxX (K : PySem.W.Frag) : R2 := fun x y H Q => (rIxL K x y H Q ∨ rIxT K x y H Q) ∨ rIxD x y H Q
theorem ix_D (hu : X.A.units + 1 < cLine) : IxR X rIxD := by
  rintro value slice pins s σ H x y v u Q I rx ry ⟨a, kvs, k, z, rfl, rfl, hH, hz, q⟩ hs
  obtain rfl : v = Value.ref a := rx
  have g : DGet H a (kV k) (some z) := .inl ⟨kvs, k, .inl hH, rfl, hz.symm⟩
  have hT := dict_typeIs I g
  have hit := d_getItem (E := X.xe) (Q := EP X pins σ Q) hu I g ry fun w' s' I' r' => ⟨z, H, I', r', q⟩
  unfold subscriptTail
  refine wpAny_bind ?_
  rw [getitemInPython_of_ne hT.not_modules]
  refine wpAny_bind (wpAny_specialOf hT PySem.F.slot_dict_getitem.lookup ?_)
  have tail : wpAny (model X.prog X.w) X.A (subscripted slice false (.ref a) u) (fun r s₃ => wpAny (model X.prog X.w) X.A (letTemporaryGo value (.ref a) r >>= fun _ => pure r) (EP X pins σ Q) X.xe s₃) X.xe s := by
    rw [hs]
    exact wpAny_operating (thn hit fun r s₃ h₃ => wpAny_bind (wpAny_letTemporaryGo (wpAny_pure h₃)))
  first
    | exact wpAny_pure (wpAny_bind tail)
    | exact wpAny_bind (wpAny_pure (wpAny_bind tail))
    | exact wpAny_bind tail
theorem ix_X (hu : X.A.units + 1 < cLine) : IxR X (rIxX X.K) := IxR.or (IxR.or ix_list ix_tup) (ix_D hu)
theorem key_rep {w : W} {H : Hp} {k : D} {v : V} (h : RepD G w H k v) (e : isKey k = true) : ∃ y, keyD k = some y ∧ v = kV y := by
  cases h <;> first | (cases e; done) | exact ⟨_, rfl, rfl⟩
theorem keyEq_ok {k l : D} {y z : L2.Key} (h1 : keyD k = some y) (h2 : keyD l = some z) : keyEq k l = decide (y = z) := by
  cases k <;> first | (cases h1; done) | (cases l <;> first | (cases h2; done) | (cases h1; cases h2; simp [keyEq, ofString_inj]))
theorem dget_ok {w : W} {H : Hp} {k : D} {y : L2.Key} (hk : keyD k = some y) : ∀ {ks : List (D × D)} {kvs : List (L2.Key × V)}, RepK G w H ks kvs → (dget ks k = none ∧ valV kvs y = none) ∨ ∃ d v, dget ks k = some d ∧ valV kvs y = some v ∧ RepD G w H d v
  | _, _, .nil => .inl ⟨rfl, rfl⟩
  | _, _, .cons (k := k') (d := d) (y := y') (v := v) (ks := ks) (kvs := kvs) h1 h2 r => by
    have ih := dget_ok hk r
    have e := keyEq_ok h1 hk
    by_cases c : y' = y
    · rw [decide_eq_true c] at e
      refine .inr ⟨d, v, ?_, valV_pos c, h2⟩
      simp [dget, List.find?_cons, e]
    · rw [decide_eq_false c] at e
      rw [valV_neg c]
      have e2 : dget ((k', d) :: ks) k = dget ks k := by simp only [dget, List.find?_cons, e]
      rw [e2]
      exact ih
theorem pr_idx : Pr2 G .idx (rIxX G.K) := by
  intro w H d e x v u Q hd he hp q
  cases d with
  | lst ds => cases e with
    | int i =>
      cases he
      obtain ⟨a, xs, rfl, hs, hr⟩ := hd
      simp only [primD, Option.map_eq_some_iff] at hp
      obtain ⟨dr, h1, rfl⟩ := hp
      obtain ⟨j, h2, h3⟩ := Option.bind_eq_some_iff.mp h1
      obtain ⟨z, h4, h5⟩ := hr.get h3
      refine .inl (.inl ⟨a, xs, i, z, rfl, rfl, hs, ?_, q _ _ rfl h5⟩)
      unfold atI
      rw [← hr.len, ← ixOf_ixN, h2]
      exact h4
    | _ => simp [primD] at hp
  | tup ds => cases e with
    | int i =>
      cases he
      cases hd with
      | @tup a xs _ hs hr =>
      simp only [primD, Option.map_eq_some_iff] at hp
      obtain ⟨dr, h1, rfl⟩ := hp
      obtain ⟨j, h2, h3⟩ := Option.bind_eq_some_iff.mp h1
      obtain ⟨z, h4, h5⟩ := hr.get h3
      refine .inl (.inr ⟨a, xs, i, z, rfl, rfl, hs, ?_, q _ _ rfl h5⟩)
      unfold atI
      rw [← hr.len, ← ixOf_ixN, h2]
      exact h4
    | _ => simp [primD] at hp
  | dic ks =>
    obtain ⟨a, kvs, rfl, h1, h2⟩ := hd
    have hp' : (if isKey e then (dget ks e).map RV.imm else none) = some x := by cases e <;> simpa [primD] using hp
    split at hp'
    · rename_i hk
      have he' : RepD G w H e u := by cases e <;> first | exact he | cases hk
      obtain ⟨y, hy, rfl⟩ := key_rep he' hk
      rcases dget_ok hy h2 with ⟨z, _⟩ | ⟨d, v, z1, z2, z3⟩
      · rw [z] at hp'; cases hp'
      · rw [z1] at hp'
        cases hp'
        exact .inr ⟨a, kvs, y, v, rfl, rfl, h1, z2, q _ _ rfl z3⟩
    · cases hp'
  | _ => cases e <;> simp [primD] at hp
/-! ### built-ins by name -/
theorem curs1 {w : W} {H : Hp} {d : D} {vs : List V} (h : Curs G w H [d] vs) : ∃ v, vs = [v] ∧ Cur G w H d v := by
  cases h with
  | cons h r => cases r; exact ⟨_, rfl, h⟩
theorem curs2 {w : W} {H : Hp} {d e : D} {vs : List V} (h : Curs G w H [d, e] vs) : ∃ v u, vs = [v, u] ∧ Cur G w H d v ∧ Cur G w H e u := by
  cases h with
  | cons h r => cases r with
    | cons h2 r => cases r; exact ⟨_, _, rfl, h, h2⟩
theorem pn_one {p : P} {r : List V → Hp → VK → Prop} (h0 : ∀ ds x, primD p ds = some x → ∃ d, ds = [d]) (h : ∀ w H d x v (Q : VK), Cur G w H d v → primD p [d] = some x → (∀ dr z, x = .imm dr → RepD G w H dr z → Q z H) → r [v] H Q) : PrN G p r := by
  intro w H ds x vs Q hc hp q
  obtain ⟨d, rfl⟩ := h0 ds x hp
  obtain ⟨v, rfl, c⟩ := curs1 hc
  exact h w H d x v Q c hp q
theorem one_arg {p : P} (hp : p = .len ∨ p = .int1 ∨ p = .absI ∨ p = .allL ∨ p = .anyL) : ∀ ds x, primD p ds = some x → ∃ d, ds = [d] := by
  intro ds x h
  match ds, h with
  | [], h => rcases hp with rfl | rfl | rfl | rfl | rfl <;> simp [primD] at h
  | [d], _ => exact ⟨d, rfl⟩
  | a :: b :: r, h => rcases hp with rfl | rfl | rfl | rfl | rfl <;> simp [primD] at h
theorem pn_len : PrN G .len (fun xs H Q => ∃ x n, xs = [x] ∧ LenV G.K x H n ∧ Q (.int n) H) := pn_one (one_arg (by simp)) fun w H d x v Q hd hp q => by
  cases d with
  | lst ds =>
    obtain ⟨a, xs, rfl, hs, hr⟩ := hd
    refine ⟨_, _, rfl, .inl ⟨xs, hs, rfl⟩, ?_⟩
    rw [← hr.len]
    exact imm_int (by simpa only [primD] using hp) q
  | tup ds =>
    cases hd with
    | @tup a xs _ hs hr =>
    refine ⟨_, _, rfl, .inr ⟨xs, hs, rfl⟩, ?_⟩
    rw [← hr.len]
    exact imm_int (by simpa only [primD] using hp) q
  | str t =>
    cases hd
    simp only [primD] at hp
    split at hp
    · rename_i hl
      refine ⟨_, _, rfl, ⟨by rw [ofString_len, sizeLine_eq]; exact hl, rfl⟩, ?_⟩
      rw [ofString_len]
      exact imm_int hp q
    · cases hp
  | _ => simp [primD] at hp
theorem pn_abs : PrN G .absI (fun xs H Q => ∃ i, xs = [.int i] ∧ Q (.int (if i < 0 then -i else i)) H) := pn_one (one_arg (by simp)) fun w H d x v Q hd hp q => by
  cases d with
  | int i =>
    cases hd
    exact ⟨i, rfl, imm_int (by simpa only [primD] using hp) q⟩
  | _ => simp [primD] at hp
theorem pn_int1 : PrN G .int1 (fun xs H Q => (∃ i, xs = [.int i] ∧ Q (.int i) H) ∨ ∃ k, xs = [.bl k] ∧ Q (.int (if k then 1 else 0)) H) := pn_one (one_arg (by simp)) fun w H d x v Q hd hp q => by
  cases d with
  | int i =>
    cases hd
    exact .inl ⟨i, rfl, imm_int (by simpa only [primD] using hp) q⟩
  | bl b =>
    cases hd
    exact .inr ⟨b, rfl, imm_int (by simpa only [primD] using hp) q⟩
  | _ => simp [primD] at hp
theorem pn_max2 : PrN G .max2 (fun xs H Q => ∃ i j, xs = [.int i, .int j] ∧ Q (.int (if j > i then j else i)) H) := by
  intro w H ds x vs Q hc hp q
  match ds, hp with
  | [.int i, .int j], hp =>
    obtain ⟨v, u, rfl, h1, h2⟩ := curs2 hc
    cases h1; cases h2
    exact ⟨i, j, rfl, imm_int (by simpa only [primD] using hp) q⟩
theorem pn_min2 : PrN G .min2 (fun xs H Q => ∃ i j, xs = [.int i, .int j] ∧ Q (.int (if j < i then j else i)) H) := by
  intro w H ds x vs Q hc hp q
  match ds, hp with
  | [.int i, .int j], hp =>
    obtain ⟨v, u, rfl, h1, h2⟩ := curs2 hc
    cases h1; cases h2
    exact ⟨i, j, rfl, imm_int (by simpa only [primD] using hp) q⟩
/-! ### isinstance -/
theorem tupK {a : Addr} {xs : List V} {K : PySem.W.Frag} {H : Hp} (h : SqT K H a xs) : TyX K H (.ref a) (.type "tuple") := by
  rcases h with (h | ⟨o, h⟩) | ⟨o, its, n, h1, h2, _⟩
  · exact .base (.tup h)
  · exact .fTuple h
  · exact .kTuple h1 h2
theorem lstK {a : Addr} {xs : List V} {K : PySem.W.Frag} {H : Hp} (h : SqL K H a xs) : TyX K H (.ref a) (.type "list") := by
  rcases h with (h | ⟨o, h⟩) | ⟨o, its, n, h1, h2, _⟩
  · exact .base (.lst h)
  · exact .base (.frz h)
  · exact .kList h1 h2
theorem tyn_ok {w : W} {H : Hp} {d : D} {v : V} {t : String} (h : Cur G w H d v) (e : tyn d = some t) : TyX G.K H v (.type t) := by
  cases d with
  | non => cases h; cases e; exact .base .non
  | bl b => cases h; cases e; exact .base (.bl _)
  | int b => cases h; cases e; exact .base (.int _)
  | str b => cases h; cases e; exact .base (.str _)
  | tup ds => cases h with | tup hs hr => cases e; exact tupK hs
  | lst ds => obtain ⟨a, xs, rfl, hs, hr⟩ := h; cases e; exact lstK hs
  | dic ks => obtain ⟨a, xs, rfl, hs, hr⟩ := h; cases e; exact .base (.dK hs)
  | ref n => cases e
def isTys : List String := ["int", "bool", "str", "tuple", "list", "dict"]
def allTys : List String := ["NoneType", "bool", "int", "str", "tuple", "list", "dict"]
theorem kits : (isTys.all fun ty => allTys.all fun t => decide (kitB t ty = some (decide (t = ty) || (decide (t = "bool") && decide (ty = "int"))))) = true := by decide +kernel
theorem kit_at {t ty : String} (h1 : isTys.contains ty = true) (h2 : allTys.contains t = true) : kitB t ty = some (decide (t = ty) || (decide (t = "bool") && decide (ty = "int"))) := by
  have h := List.all_eq_true.mp (List.all_eq_true.mp kits ty (by simpa using h1)) t (by simpa using h2)
  exact of_decide_eq_true h
theorem tyn_all {d : D} {t : String} (e : tyn d = some t) : allTys.contains t = true := by
  cases d <;> cases e <;> decide
/-- isinstance(x, T): the first value alone -/
def rIsTy (K : PySem.W.Frag) (ty : String) : List V → Hp → VK → Prop := fun xs H Q => rIsi K (xs ++ [.ty ty]) H Q
theorem pn_isi {ty : String} (hty : isTys.contains ty = true) : PrN G (.isi ty) (rIsTy G.K ty) := by
  intro w H ds x vs Q hc hp q
  match ds, hp with
  | [d], hp =>
    obtain ⟨v, rfl, h⟩ := curs1 hc
    simp only [primD, Option.map_eq_some_iff] at hp
    obtain ⟨t, e, rfl⟩ := hp
    exact ⟨v, .ty ty, .type t, .type ty, _, rfl, .ty ty, tyn_ok h e, kit_ty (kit_at hty (tyn_all e)), q _ _ rfl (.bl _)⟩
/-! ### all, any, in -/
theorem bools_ok {w : W} {H : Hp} : ∀ {ds : List D} {vs : List V} {bs : List Bool}, RepDs G w H ds vs → boolsOf ds = some bs → vs = bs.map V.bl
  | [], _, _, .nil, h => by cases h; rfl
  | .bl b :: ds, _, bs, .cons h r, e => by
    simp only [boolsOf, Option.map_eq_some_iff] at e
    obtain ⟨cs, e1, rfl⟩ := e
    cases h
    rw [bools_ok r e1]
    rfl
theorem pn_all : PrN G .allL (rAll G.K) := pn_one (one_arg (by simp)) fun w H d x v Q hd hp q => by
  cases d with
  | lst ds =>
    obtain ⟨a, xs, rfl, hs, hr⟩ := hd
    simp only [primD, Option.map_eq_some_iff] at hp
    obtain ⟨bs, e, rfl⟩ := hp
    exact ⟨a, bs, rfl, by rw [← bools_ok hr e]; exact hs, q _ _ rfl (.bl _)⟩
  | _ => simp [primD] at hp
theorem pn_any : PrN G .anyL (rAny G.K) := pn_one (one_arg (by simp)) fun w H d x v Q hd hp q => by
  cases d with
  | lst ds =>
    obtain ⟨a, xs, rfl, hs, hr⟩ := hd
    simp only [primD, Option.map_eq_some_iff] at hp
    obtain ⟨bs, e, rfl⟩ := hp
    exact ⟨a, bs, rfl, by rw [← bools_ok hr e]; exact hs, q _ _ rfl (.bl _)⟩
  | _ => simp [primD] at hp
theorem flat_ok {w : W} {H : Hp} {d : D} {v : V} (h : RepD G w H d v) (f : flat d = true) : flatV v = true := by
  cases h <;> first | rfl | cases f
theorem flats_ok {w : W} {H : Hp} : ∀ {ds : List D} {vs : List V}, RepDs G w H ds vs → ds.all flat = true → vs.all flatV = true
  | _, _, .nil, _ => rfl
  | _, _, .cons h r, f => by
    simp only [List.all_cons, Bool.and_eq_true] at f ⊢
    exact ⟨flat_ok h f.1, flats_ok r f.2⟩
theorem deq_eqV {w : W} {H : Hp} {d e : D} {v u : V} (h : RepD G w H d v) (k : RepD G w H e u) (f : flat d = true) (g : flat e = true) : deq d e = eqV v u := by
  cases h <;> cases k <;> first
    | (cases f; done)
    | (cases g; done)
    | (simp only [deq, eqV]; done)
    | (simp only [deq, eqV]; rw [Bool.eq_iff_iff]; simp only [decide_eq_true_eq, beq_iff_eq]; exact ofString_inj.symm)
theorem inL_inV {w : W} {H : Hp} {d : D} {v : V} (h : RepD G w H d v) (f : flat d = true) : ∀ {ds : List D} {vs : List V}, RepDs G w H ds vs → ds.all flat = true → inL d ds = inV v vs
  | _, _, .nil, _ => rfl
  | _, _, .cons k r, g => by
    simp only [List.all_cons, Bool.and_eq_true] at g
    have ih := inL_inV h f r g.2
    simp only [inL, inV, List.any_cons] at ih ⊢
    rw [deq_eqV k h g.1 f, ih]
theorem flat_rep {w : W} {H : Hp} {d : D} {v : V} (h : Cur G w H d v) (f : flat d = true) : RepD G w H d v := by
  cases d <;> first | exact h | cases f
def rInD (neg : Bool) : R2 := fun x y H Q => ∃ (a : Addr) (kvs : List (L2.Key × V)) (k : L2.Key), x = kV k ∧ y = .ref a ∧ H a = some (.dK kvs) ∧ Q (.bl (if neg then !(valV kvs k).isSome else (valV kvs k).isSome)) H
def rInX (K : PySem.W.Frag) (neg : Bool) : R2 := fun x y H Q => rIn K neg x y H Q ∨ rInD neg x y H Q
theorem op_inX (hu : X.A.units + 1 < cLine) : OpR X (compareOp .In) (rInX X.K false) := OpR.or op_in_seq (by
  rintro pins s σ H x y v u Q I rx ry ⟨a, kvs, k, rfl, rfl, hH, q⟩
  obtain rfl : u = Value.ref a := ry
  have g : DGet H a (kV k) (valV kvs k) := .inl ⟨kvs, k, .inl hH, rfl, rfl⟩
  exact d_in hu I g rx fun s3 I3 => ⟨.bl (valV kvs k).isSome, H, I3, rfl, q⟩)
theorem op_ninX (hu : X.A.units + 1 < cLine) : OpR X (compareOp .NotIn) (rInX X.K true) := OpR.or op_notIn_seq (by
  rintro pins s σ H x y v u Q I rx ry ⟨a, kvs, k, rfl, rfl, hH, q⟩
  obtain rfl : u = Value.ref a := ry
  have g : DGet H a (kV k) (valV kvs k) := .inl ⟨kvs, k, .inl hH, rfl, rfl⟩
  exact d_notIn hu I g rx fun s3 I3 => ⟨.bl (!(valV kvs k).isSome), H, I3, rfl, q⟩)
theorem pr_inX {p : P} {neg : Bool} (hp0 : p = (if neg then .nin else .inn)) : Pr2 G p (rInX G.K neg) := by
  intro w H d e x v u Q hd he hp q
  have key : ∀ (ds : List D) (vs : List V) (a : Addr), (SqL G.K H a vs ∨ SqT G.K H a vs) → RepDs G w H ds vs → u = .ref a → (if flat d && ds.all flat then some (RV.imm (.bl (if neg then !inL d ds else inL d ds))) else none) = some x → rInX G.K neg v u H Q := by
    intro ds vs a hs hr hu hx
    split at hx
    · rename_i c
      obtain ⟨c1, c2⟩ := Bool.and_eq_true_iff.mp c
      cases hx
      have rd := flat_rep hd c1
      refine .inl ⟨a, vs, hu, hs, flat_ok rd c1, flats_ok hr c2, ?_⟩
      rw [← inL_inV rd c1 hr c2]
      exact q _ _ rfl (.bl _)
    · cases hx
  cases e with
  | lst ds =>
    obtain ⟨a, xs, rfl, hs, hr⟩ := he
    refine key ds xs a (.inl hs) hr rfl ?_
    cases neg <;> (subst hp0; simpa [primD] using hp)
  | tup ds =>
    cases he with
    | @tup a xs _ hs hr =>
    refine key ds xs a (.inr hs) hr rfl ?_
    cases neg <;> (subst hp0; simpa [primD] using hp)
  | dic ks =>
    obtain ⟨a, kvs, rfl, h1, h2⟩ := he
    have hp' : (if isKey d then some (RV.imm (.bl (if neg then !(dget ks d).isSome else (dget ks d).isSome))) else none) = some x := by
      cases neg <;> (subst hp0; cases d <;> simpa [primD] using hp)
    split at hp'
    · rename_i hk
      have hd' : RepD G w H d v := by cases d <;> first | exact hd | cases hk
      obtain ⟨y, hy, rfl⟩ := key_rep hd' hk
      cases hp'
      refine .inr ⟨a, kvs, y, rfl, rfl, h1, ?_⟩
      have e : (dget ks d).isSome = (valV kvs y).isSome := by
        rcases dget_ok hy h2 with ⟨z1, z2⟩ | ⟨_, _, z1, z2, _⟩ <;> rw [z1, z2] <;> rfl
      rw [← e]
      exact q _ _ rfl (.bl _)
    · cases hp'
  | _ => cases neg <;> (subst hp0; simp [primD] at hp)
theorem pr_inn : Pr2 G .inn (rInX G.K false) := pr_inX (neg := false) rfl
theorem pr_nin : Pr2 G .nin (rInX G.K true) := pr_inX (neg := true) rfl
end
end Rx
/-! Rx4: expressions. -/
namespace Rx
open PySem L2
section
variable {G : GC} {X : Cx} {W0 : WX} {cf : CF} {w w' : W} {H H' : Hp} {s s' : St} {sl : List L} {σ : L2.St} {Q : VK} {pos : Pos}
/-! ### two, one, many -/
theorem two {p : P} {a b : E} {r : R2} (hr : Pr2 G p r) (hi : ImmP p) (k : EnvOk G w H sl σ s) (h : PostV G W0 σ w H s (evE cf sl (.prim p (.cons a (.cons b .nil))) s) Q) :
    tOp r (tE G W0 cf a) (tE G W0 cf b) σ H Q := by
  refine tE_then k ?_
  rw [evE, evEs] at h
  cases ea : evE cf sl a s with
  | bad => rw [ea] at h; exact h
  | exc x s1 => rw [ea] at h; exact h
  | ok va s1 =>
    rw [ea] at h
    intro u w1 H1 p1 k1 r1
    refine tE_then k1 ?_
    simp only [R.bind, evEs] at h
    cases eb : evE cf sl b s1 with
    | bad => rw [eb] at h; exact h
    | exc x s2 => rw [eb] at h; exact fun c d w2 H2 p2 k2 rx => h c d w2 H2 (p1.trans p2) k2 rx
    | ok vb s2 =>
      rw [eb] at h
      intro v w2 H2 p2 k2 r2
      simp only [primR, List.map_cons, List.map_nil] at h
      cases hp : primD p [snap s2 va, snap s2 vb] with
      | none => rw [hp] at h; exact h.elim
      | some x =>
        rw [hp] at h
        refine hr w2 H2 _ _ x _ _ _ (cur_of (r1.stp k1.st p2) k2.st) (cur_of r2 k2.st) hp fun dr z e rz => ?_
        subst e
        exact h z w2 H2 (p1.trans p2) k2.st rz
theorem one {p : P} {a : E} {r : V → Hp → VK → Prop} (hr : ∀ w H d x v (Q : VK), Cur G w H d v → primD p [d] = some x → (∀ dr z, x = .imm dr → RepD G w H dr z → Q z H) → r v H Q) (hi : ImmP p)
    (k : EnvOk G w H sl σ s) (h : PostV G W0 σ w H s (evE cf sl (.prim p (.cons a .nil)) s) Q) : tUn r (tE G W0 cf a) σ H Q := by
  refine tE_then k ?_
  rw [evE, evEs] at h
  cases ea : evE cf sl a s with
  | bad => rw [ea] at h; exact h
  | exc x s1 => rw [ea] at h; exact h
  | ok va s1 =>
    rw [ea] at h
    intro u w1 H1 p1 k1 r1
    simp only [R.bind, evEs, primR, List.map_cons, List.map_nil] at h
    cases hp : primD p [snap s1 va] with
    | none => rw [hp] at h; exact h.elim
    | some x =>
      rw [hp] at h
      refine hr w1 H1 _ x _ _ (cur_of r1 k1.st) hp fun dr z e rz => ?_
      subst e
      exact h z w1 H1 p1 k1.st rz
theorem many {p : P} {as : Es} {r : List V → Hp → VK → Prop} (hr : PrN G p r) (hi : ImmP p) (k : EnvOk G w H sl σ s) (h : PostV G W0 σ w H s (evE cf sl (.prim p as) s) Q) :
    tCB r (tEs G W0 cf as) σ H Q := by
  refine ⟨w, sl, s, k, ?_⟩
  rw [evE] at h
  cases ea : evEs cf sl as s with
  | bad => rw [ea] at h; exact h
  | exc x s1 => rw [ea] at h; exact h
  | ok rs s1 =>
    rw [ea] at h
    intro us w1 H1 p1 k1 r1
    simp only [R.bind, primR] at h
    cases hp : primD p (rs.map (snap s1)) with
    | none => rw [hp] at h; exact h.elim
    | some x =>
      rw [hp] at h
      refine hr w1 H1 _ x _ _ (curs_of k1 r1) hp fun dr z e rz => ?_
      subst e
      exact h z w1 H1 p1 k1 rz
/-- argument lists -/
theorem tEs_cons {e : E} {es : Es} {Q : List V → Hp → Prop} (k : EnvOk G w H sl σ s) (h : PostVs G W0 σ w H s (evEs cf sl (.cons e es) s) Q) : tCons (tE G W0 cf e) (tEs G W0 cf es) σ H Q := by
  refine tE_then k ?_
  rw [evEs] at h
  cases ea : evE cf sl e s with
  | bad => rw [ea] at h; exact h
  | exc x s1 => rw [ea] at h; exact h
  | ok va s1 =>
    rw [ea] at h
    intro u w1 H1 p1 k1 r1
    refine ⟨w1, sl, s1, k1, ?_⟩
    simp only [R.bind] at h
    cases eb : evEs cf sl es s1 with
    | bad => rw [eb] at h; exact h
    | exc x s2 => rw [eb] at h; exact fun c d w2 H2 p2 k2 rx => h c d w2 H2 (p1.trans p2) k2 rx
    | ok rs s2 =>
      rw [eb] at h
      exact fun us w2 H2 p2 k2 r2 => h (u :: us) w2 H2 (p1.trans p2) k2 (.cons (r1.stp k1.st p2) (r2.back p1))
theorem pa_nil' : PA X [] (tEs G W0 cf .nil) := pa_mono pa_nil fun σ H Q ⟨w, sl, s, k, h⟩ => h [] w H (.refl k.st) k.st .nil
theorem pa_cons' {x : Expr} {xs : List Expr} {e : E} {es : Es} (h1 : PE X x (tE G W0 cf e)) (h2 : PA X xs (tEs G W0 cf es)) (hs : starEach (x :: xs) X.env = (false, eval x X.env) :: starEach xs X.env) : PA X (x :: xs) (tEs G W0 cf (.cons e es)) :=
  pa_mono (pa_cons h1 h2 hs) fun σ H Q ⟨w, sl, s, k, h⟩ => tEs_cons k h
/-! ### names, constants -/
theorem pe_slot {i : Nat} {x : Str} (hN : X.N[i]? = some x) (hv : Vis X.env.scope x) (hd : (x == ("__debug__" : Str)) = false) (hcd : (x == ("__classdict__" : Str)) = false) : PE X (.Name x pos) (tE G W0 cf (.slot i)) :=
  pe_mono (pe_var hN hv hd hcd) fun σ H Q ⟨w, sl, s, k, h⟩ => by
    rw [evE] at h
    split at h
    · rename_i d e
      obtain ⟨v, h1, h2⟩ := k.imm i d e
      exact ⟨v, h1, h v w H (.refl k.st) k.st h2⟩
    · rename_i o e
      obtain ⟨a, h1, h2, h3, h4, h5⟩ := k.own i o e
      exact ⟨_, h1, h _ w H (.refl k.st) k.st ⟨a, rfl, h2, h3, h4, h5⟩⟩
    · exact h.elim
theorem pe_cst {x : Expr} {d : D} {v : V} (h : PE X x (tC v)) (r : ∀ w H, RepD G w H d v) : PE X x (tE G W0 cf (.cst d)) :=
  pe_mono h fun σ H Q ⟨w, sl, s, k, h⟩ => h v w H (.refl k.st) k.st (r w H)
theorem pe_glb {x : Expr} {y : String} {d : D} {v : V} (h : PE X x (tC v)) (r : ∀ w H, RepD G w H d v) : PE X x (tE G W0 cf (.glob y d)) :=
  pe_mono h fun σ H Q ⟨w, sl, s, k, h⟩ => h v w H (.refl k.st) k.st (r w H)
/-! ### operations -/
theorem pe_bin {a b : Expr} {ea eb : E} {op : Operator} {p : P} {r : R2} (ho : OpR X (binaryOp op) r) (hr : Pr2 G p r) (hi : ImmP p) (ha : PE X a (tE G W0 cf ea)) (hb : PE X b (tE G W0 cf eb)) :
    PE X (.BinOp a op b pos) (tE G W0 cf (.prim p (.cons ea (.cons eb .nil)))) :=
  pe_mono (pe_op ho ha hb) fun σ H Q ⟨w, sl, s, k, h⟩ => two hr hi k h
theorem pe_cmpX {a b : Expr} {ea eb : E} {op : CmpOp} {p : P} {r : R2} (ho : OpR X (compareOp op) r) (hr : Pr2 G p r) (hi : ImmP p) (ha : PE X a (tE G W0 cf ea)) (hb : PE X b (tE G W0 cf eb)) (hm : behindInMarks op b = false) :
    PE X (.Compare a [op] [b] pos) (tE G W0 cf (.prim p (.cons ea (.cons eb .nil)))) :=
  pe_mono (pe_cmpR ho ha hb hm) fun σ H Q ⟨w, sl, s, k, h⟩ => two hr hi k h
theorem pe_ixX {a b : Expr} {ea eb : E} (ha : PE X a (tE G W0 cf ea)) (hb : PE X b (tE G W0 cf eb)) (hK : X.K = G.K) (hu : X.A.units + 1 < cLine) (hs : PlainIx b) : PE X (.Subscript a b pos) (tE G W0 cf (.prim .idx (.cons ea (.cons eb .nil)))) := by
  refine pe_mono (pe_ix (ix_X hu) ha hb hs) fun σ H Q ⟨w, sl, s, k, h⟩ => two (by rw [hK]; exact pr_idx) ?_ k h
  intro ds x e
  match ds, e with
  | [.lst xs, .int i], e => simp only [primD, Option.map_eq_some_iff] at e; obtain ⟨d, _, rfl⟩ := e; exact ⟨d, rfl⟩
  | [.tup xs, .int i], e => simp only [primD, Option.map_eq_some_iff] at e; obtain ⟨d, _, rfl⟩ := e; exact ⟨d, rfl⟩
  | [.dic ks, k], e =>
    have e' : (if isKey k then (dget ks k).map RV.imm else none) = some x := by cases k <;> simpa [primD] using e
    split at e'
    · obtain ⟨d, _, rfl⟩ := Option.map_eq_some_iff.mp e'; exact ⟨d, rfl⟩
    · cases e'
theorem pe_negX {a : Expr} {ea : E} (ha : PE X a (tE G W0 cf ea)) : PE X (.UnaryOp .USub a pos) (tE G W0 cf (.prim .neg (.cons ea .nil))) :=
  pe_mono (pe_un un_neg ha) fun σ H Q ⟨w, sl, s, k, h⟩ => one (r := rU fun i => .int (-i)) (fun w H d x v Q hd hp q => by
    cases d with
    | int i => cases hd; exact ⟨i, rfl, imm_int (by simpa only [primD] using hp) q⟩
    | _ => simp [primD] at hp) (fun ds x e => by
    match ds, e with
    | [.int i], e => simp only [primD] at e; cases e; exact ⟨_, rfl⟩) k h
/-- a built-in by its name -/
theorem pe_blt {x : Str} {e : Expr} {es : List Expr} {as : Es} {p : P} {pn : Pos} {id : String} {r : List V → Hp → VK → Prop} (hc : CallR X (.builtin id) r) (hr : PrN G p r) (hi : ImmP p) (hg : Gl X x) (hm : X.mg x = none) (hv : bootBuiltins x = some (.builtin id))
    (ha : PA X (e :: es) (tEs G W0 cf as)) (hn : x ≠ "__name__") (hdb : (x == ("__debug__" : Str)) = false) (he : starEach (e :: es) X.env = (false, eval e X.env) :: starEach es X.env) (hpl : (backTo pos (starEach es X.env)).any (·.1) = false) :
    PE X (.Call (.Name x pn) (e :: es) [] pos) (tE G W0 cf (.prim p as)) :=
  pe_mono (pe_callB hc hg hm hv ha hn hdb he hpl) fun σ H Q ⟨w, sl, s, k, h⟩ => many hr hi k h
theorem pe_bty {x : Str} {e : Expr} {es : List Expr} {as : Es} {p : P} {pn : Pos} {id : String} {r : List V → Hp → VK → Prop} (hc : CallR X (.type id) r) (hr : PrN G p r) (hi : ImmP p) (hg : Gl X x) (hm : X.mg x = none) (hv : bootBuiltins x = some (.type id))
    (ha : PA X (e :: es) (tEs G W0 cf as)) (hn : x ≠ "__name__") (hdb : (x == ("__debug__" : Str)) = false) (he : starEach (e :: es) X.env = (false, eval e X.env) :: starEach es X.env) (hpl : (backTo pos (starEach es X.env)).any (·.1) = false) :
    PE X (.Call (.Name x pn) (e :: es) [] pos) (tE G W0 cf (.prim p as)) :=
  pe_mono (pe_callTy hc hg hm hv ha hn hdb he hpl) fun σ H Q ⟨w, sl, s, k, h⟩ => many hr hi k h
/-! ### tests -/
theorem truth_ok {d : D} {v : V} {b : Bool} (h : Cur G w H d v) (e : truth d = some b) : TruV G.K v H b := by
  cases d with
  | non => cases h; cases e; exact rfl
  | bl k => cases h; cases e; exact rfl
  | int i => cases h; cases e; exact rfl
  | str x =>
    cases h
    simp only [truth] at e
    split at e
    · rename_i hl
      cases e
      refine ⟨by rw [ofString_len, sizeLine_eq]; exact hl, ?_⟩
      rw [ofString_len, Bool.eq_iff_iff]
      simp only [bne_iff_ne, ne_eq, Int.natCast_eq_zero]
      have hx : x.length = 0 ↔ x = "" := by rw [← String.length_toList, List.length_eq_zero_iff, ← String.toList_inj]; rfl
      rw [hx]
    · cases e
  | tup ds =>
    cases h with
    | @tup a xs _ hs hr =>
    cases e
    refine .inr (.inl ⟨xs, hs, ?_⟩)
    cases hr <;> rfl
  | lst ds =>
    obtain ⟨a, xs, rfl, hs, hr⟩ := h
    cases e
    refine .inl ⟨xs, hs, ?_⟩
    cases hr <;> rfl
  | dic ks =>
    obtain ⟨a, xs, rfl, hs, hr⟩ := h
    cases e
    refine .inr (.inr ⟨xs, hs, ?_⟩)
    cases hr <;> rfl
  | ref n => cases e
/-- a plain test: by its value's truth -/
theorem pt_plain {x : Expr} {e : E} (he : e.plain = true) (h : PE X x (tE G W0 cf e)) (hK : X.K = G.K) (hx : ∀ whole, isTrue x X.env whole = (do let v ← whole; standAt x.pos; holding [v] (truthy v))) : PT X x (tB' G W0 cf e) := by
  refine pt_mono (pt_truth h hx) fun σ H Q ⟨w, sl, s, k, h⟩ => tE_then k ?_
  unfold testE at h
  rw [tsE_plain he] at h
  cases ea : evE cf sl e s with
  | bad => rw [ea] at h; exact h
  | exc x s1 => rw [ea] at h; exact h
  | ok va s1 =>
    rw [ea] at h
    intro u w1 H1 p1 k1 r1
    simp only [R.bind, testR] at h
    cases ht : truth (snap s1 va) with
    | none => rw [ht] at h; exact h.elim
    | some b =>
      rw [ht] at h
      rw [hK]
      exact ⟨b, truth_ok (cur_of r1 k1.st) ht, h w1 H1 p1 k1.st⟩
/-- a test whose value is a truth by itself -/
theorem tB_val {e : E} {Q : Bool → Hp → Prop} (he : e.plain = true) (k : EnvOk G w H sl σ s) (hb : ∀ sl s r s', evE cf sl e s = .ok r s' → ∃ b, r = .imm (.bl b)) (h : PostB G W0 σ w H s (testE cf e sl s) Q) :
    PostV G W0 σ w H s (evE cf sl e s) (fun x H' => ∃ b, x = .bl b ∧ Q b H') := by
  unfold testE at h
  rw [tsE_plain he] at h
  cases ea : evE cf sl e s with
  | bad => rw [ea] at h; exact h
  | exc x s1 => rw [ea] at h; exact h
  | ok va s1 =>
    rw [ea] at h
    obtain ⟨b, rfl⟩ := hb _ _ _ _ ea
    intro u w1 H1 p1 k1 r1
    cases (show RepD G w1 H1 (.bl b) u from r1)
    exact ⟨b, rfl, h w1 H1 p1 k1⟩
theorem prim_bool {p : P} (hb : BoolP p) {as : Es} : ∀ sl s r s', evE cf sl (.prim p as) s = .ok r s' → ∃ b, r = .imm (.bl b) := by
  intro sl s r s' h
  rw [evE] at h
  cases ea : evEs cf sl as s with
  | bad => rw [ea] at h; cases h
  | exc x s1 => rw [ea] at h; cases h
  | ok rs s1 =>
    rw [ea] at h
    simp only [R.bind, primR] at h
    cases hp : primD p (rs.map (snap s1)) with
    | none => rw [hp] at h; cases h
    | some x =>
      rw [hp] at h
      cases h
      exact hb _ _ hp
theorem pt_cmpX {a b : Expr} {ea eb : E} {op : CmpOp} {p : P} {r : R2} (ho : OpR X (compareOp op) r) (hr : Pr2 G p r) (hi : BoolP p) (ha : PE X a (tE G W0 cf ea)) (hb : PE X b (tE G W0 cf eb)) (hm : behindInMarks op b = false) :
    PT X (.Compare a [op] [b] pos) (tB' G W0 cf (.prim p (.cons ea (.cons eb .nil)))) :=
  pt_mono (pt_cmpR ho ha hb hm) fun σ H Q ⟨w, sl, s, k, h⟩ => two hr hi.imm k (tB_val rfl k (prim_bool hi) h)
end
end Rx
/-! Rx5: truths, displays, what is frozen and shared, calls. -/
namespace Rx
open PySem L2
/-! ### more addresses frozen; an object written; a new one -/
def W.frz (w : W) (a : Addr) : W := ⟨fun b => w.Z b ∨ b = a, w.g, w.nx⟩
def W.lay (w : W) (a : Addr) : W := ⟨w.Z, fun n => if n = w.nx then a else w.g n, w.nx + 1⟩
section
variable {G : GC} {X : Cx} {W0 : WX} {cf : CF} {w w' : W} {H H' : Hp} {s s' : St} {sl : List L} {σ : L2.St} {Q : VK} {pos : Pos} {a : Addr}
theorem Ro.mono {xs : List V} (h : Ro G w H a xs) (hz : ∀ b, w.Z b → w'.Z b) : Ro G w' H a xs := by
  rcases h with ⟨h, z⟩ | h | h
  · exact .inl ⟨h, hz _ z⟩
  · exact .inr (.inl h)
  · exact .inr (.inr h)
theorem Rdc.mono {xs : List (L2.Key × V)} (h : Rdc w H a xs) (hz : ∀ b, w.Z b → w'.Z b) : Rdc w' H a xs := ⟨h.1, hz _ h.2⟩
mutual
theorem RepD.mono (hz : ∀ b, w.Z b → w'.Z b) (hn : w.nx ≤ w'.nx) (hg : ∀ n, n < w.nx → w'.g n = w.g n) : ∀ {d : D} {v : V}, RepD G w H d v → RepD G w' H d v
  | _, _, .non => .non
  | _, _, .bl b => .bl b
  | _, _, .int i => .int i
  | _, _, .str x => .str x
  | _, _, .ref n h => by
    rw [← hg n h]
    exact .ref n (Nat.lt_of_lt_of_le h hn)
  | _, _, .tup h r => .tup h (RepDs.mono hz hn hg r)
  | _, _, .lst h r => .lst (h.mono hz) (RepDs.mono hz hn hg r)
  | _, _, .dic h r => .dic (h.mono hz) (RepK.mono hz hn hg r)
theorem RepDs.mono (hz : ∀ b, w.Z b → w'.Z b) (hn : w.nx ≤ w'.nx) (hg : ∀ n, n < w.nx → w'.g n = w.g n) : ∀ {ds : List D} {vs : List V}, RepDs G w H ds vs → RepDs G w' H ds vs
  | _, _, .nil => .nil
  | _, _, .cons h r => .cons (RepD.mono hz hn hg h) (RepDs.mono hz hn hg r)
theorem RepK.mono (hz : ∀ b, w.Z b → w'.Z b) (hn : w.nx ≤ w'.nx) (hg : ∀ n, n < w.nx → w'.g n = w.g n) : ∀ {ks : List (D × D)} {kvs : List (L2.Key × V)}, RepK G w H ks kvs → RepK G w' H ks kvs
  | _, _, .nil => .nil
  | _, _, .cons e h r => .cons e (RepD.mono hz hn hg h) (RepK.mono hz hn hg r)
end
theorem RepF.mono (hz : ∀ b, w.Z b → w'.Z b) (hn : w.nx ≤ w'.nx) (hg : ∀ n, n < w.nx → w'.g n = w.g n) : ∀ {fs : List (String × D)} {vs : List (Str × V)}, RepF G w H fs vs → RepF G w' H fs vs
  | _, _, .nil => .nil
  | _, _, .cons h r => .cons (h.mono hz hn hg) (RepF.mono hz hn hg r)
theorem RepO.mono (hz : ∀ b, w.Z b → w'.Z b) (hn : w.nx ≤ w'.nx) (hg : ∀ n, n < w.nx → w'.g n = w.g n) {o : O} (h : RepO G w H o a) : RepO G w' H o a := by
  cases o with
  | lst ds => obtain ⟨xs, e, r⟩ := h; exact ⟨xs, e, r.mono hz hn hg⟩
  | dic ks => obtain ⟨xs, e, r⟩ := h; exact ⟨xs, e, r.mono hz hn hg⟩
  | ins c fs => obtain ⟨dx, vs, e, r⟩ := h; exact ⟨dx, vs, e, r.mono hz hn hg⟩
/-- what may be written -/
def Wr (H : Hp) (a : Addr) : Prop := (∀ xs, H a ≠ some (.tup xs)) ∧ ∀ o u, H a ≠ some (.frz o u)
theorem Wr.none (h : H a = none) : Wr H a := ⟨fun _ e => (by rw [h] at e; cases e), fun _ _ e => (by rw [h] at e; cases e)⟩
theorem RepO.wr {o : O} (h : RepO G w H o a) : Wr H a := by
  cases o with
  | lst ds => obtain ⟨xs, e, r⟩ := h; exact ⟨fun _ z => (by rw [e] at z; cases z), fun _ _ z => (by rw [e] at z; cases z)⟩
  | dic ks => obtain ⟨xs, e, r⟩ := h; exact ⟨fun _ z => (by rw [e] at z; cases z), fun _ _ z => (by rw [e] at z; cases z)⟩
  | ins c fs => obtain ⟨dx, vs, e, r⟩ := h; exact ⟨fun _ z => (by rw [e] at z; cases z), fun _ _ z => (by rw [e] at z; cases z)⟩
theorem sqT_wr {b : Addr} {xs : List V} {o : HO} (q : Wr H a) (h : SqT G.K H b xs) : SqT G.K (upd H a o) b xs := by
  rcases h with (h | ⟨u, h⟩) | h
  · exact .inl (.inl (by rw [upd_ne (fun e => q.1 xs (by rw [← e]; exact h))]; exact h))
  · exact .inl (.inr ⟨u, by rw [upd_ne (fun e => q.2 u _ (by rw [← e]; exact h))]; exact h⟩)
  · exact .inr h
theorem Ro.wr {b : Addr} {xs : List V} {o : HO} (q : Wr H a) (z : ¬ w.Z a) (h : Ro G w H b xs) : Ro G w (upd H a o) b xs := by
  rcases h with ⟨h, y⟩ | ⟨u, h⟩ | h
  · exact .inl ⟨by rw [upd_ne (fun e => z (by rw [← e]; exact y))]; exact h, y⟩
  · exact .inr (.inl ⟨u, by rw [upd_ne (fun e => q.2 u _ (by rw [← e]; exact h))]; exact h⟩)
  · exact .inr (.inr h)
theorem Rdc.wr {b : Addr} {xs : List (L2.Key × V)} {o : HO} (q : Wr H a) (z : ¬ w.Z a) (h : Rdc w H b xs) : Rdc w (upd H a o) b xs := by
  obtain ⟨h, y⟩ := h
  exact ⟨by rw [upd_ne (fun e => z (by rw [← e]; exact y))]; exact h, y⟩
mutual
theorem RepD.wr {o : HO} (q : Wr H a) (z : ¬ w.Z a) : ∀ {d : D} {v : V}, RepD G w H d v → RepD G w (upd H a o) d v
  | _, _, .non => .non
  | _, _, .bl b => .bl b
  | _, _, .int i => .int i
  | _, _, .str x => .str x
  | _, _, .ref n h => .ref n h
  | _, _, .tup h r => .tup (sqT_wr q h) (RepDs.wr q z r)
  | _, _, .lst h r => .lst (h.wr q z) (RepDs.wr q z r)
  | _, _, .dic h r => .dic (h.wr q z) (RepK.wr q z r)
theorem RepDs.wr {o : HO} (q : Wr H a) (z : ¬ w.Z a) : ∀ {ds : List D} {vs : List V}, RepDs G w H ds vs → RepDs G w (upd H a o) ds vs
  | _, _, .nil => .nil
  | _, _, .cons h r => .cons (RepD.wr q z h) (RepDs.wr q z r)
theorem RepK.wr {o : HO} (q : Wr H a) (z : ¬ w.Z a) : ∀ {ks : List (D × D)} {kvs : List (L2.Key × V)}, RepK G w H ks kvs → RepK G w (upd H a o) ks kvs
  | _, _, .nil => .nil
  | _, _, .cons e h r => .cons e (RepD.wr q z h) (RepK.wr q z r)
end
theorem RepF.wr {o : HO} (q : Wr H a) (z : ¬ w.Z a) : ∀ {fs : List (String × D)} {vs : List (Str × V)}, RepF G w H fs vs → RepF G w (upd H a o) fs vs
  | _, _, .nil => .nil
  | _, _, .cons h r => .cons (h.wr q z) (RepF.wr q z r)
theorem RepO.wrO {o : O} {b : Addr} {u : HO} (q : Wr H a) (z : ¬ w.Z a) (h : RepO G w H o b) (hb : b ≠ a) : RepO G w (upd H a u) o b := by
  cases o with
  | lst ds => obtain ⟨xs, e, r⟩ := h; exact ⟨xs, by rw [upd_ne hb]; exact e, r.wr q z⟩
  | dic ks => obtain ⟨xs, e, r⟩ := h; exact ⟨xs, by rw [upd_ne hb]; exact e, r.wr q z⟩
  | ins c fs => obtain ⟨dx, vs, e, r⟩ := h; exact ⟨dx, vs, by rw [upd_ne hb]; exact e, r.wr q z⟩
/-- an object that is none of the stored ones is laid or written -/
theorem StOk.wr {u : HO} (k : StOk G w H s) (q : Wr H a) (z : ¬ w.Z a) (f : Off w s a) : StOk G w (upd H a u) s :=
  ⟨k.nx, k.lt, fun n o h => (k.rep n o h).wrO q z (f n o h), k.nz, k.inj, fun b hb => by
    obtain ⟨o, h⟩ := k.zs b hb
    exact ⟨o, by rw [upd_ne (fun e => z (by rw [← e]; exact hb))]; exact h⟩⟩
theorem StOk.frz (k : StOk G w H s) (f : Off w s a) (hs : ∃ o, H a = some o) : StOk G (w.frz a) H s :=
  ⟨k.nx, k.lt, fun n o h => (k.rep n o h).mono (w' := w.frz a) (fun _ z => Or.inl z) (Nat.le_refl _) (fun _ _ => rfl), fun n o h z => by
    rcases z with z | z
    · exact k.nz n o h z
    · exact f n o h z, k.inj, fun b hb => by
    rcases hb with hb | hb
    · exact k.zs b hb
    · rw [hb]; exact hs⟩
theorem W.lay_old (w : W) (a : Addr) {n : Nat} (h : n < w.nx) : (w.lay a).g n = w.g n := by
  show (if n = w.nx then a else w.g n) = w.g n
  rw [if_neg (Nat.ne_of_lt h)]
theorem W.lay_new (w : W) (a : Addr) : (w.lay a).g w.nx = a := by
  show (if w.nx = w.nx then a else w.g w.nx) = a
  rw [if_pos rfl]
theorem add_ob {o u : O} {n : Nat} (h : (s.add o).ob n = some u) : (n = s.nx ∧ u = o) ∨ (n ≠ s.nx ∧ s.ob n = some u) := by
  have h' : (if n = s.nx then some o else s.ob n) = some u := h
  by_cases e : n = s.nx
  · rw [if_pos e] at h'; cases h'; exact .inl ⟨e, rfl⟩
  · rw [if_neg e] at h'; exact .inr ⟨e, h'⟩
theorem StOk.lay {o : O} (k : StOk G w H s) (h : RepO G w H o a) (z : ¬ w.Z a) (f : Off w s a) : StOk G (w.lay a) H (s.add o) where
  nx := by show w.nx + 1 = s.nx + 1; rw [k.nx]
  lt := fun n u hn => by
    rcases add_ob hn with ⟨e, _⟩ | ⟨_, e⟩
    · show n < w.nx + 1; rw [e, k.nx]; exact Nat.lt_succ_self _
    · exact Nat.lt_succ_of_lt (k.lt n u e)
  rep := fun n u hn => by
    rcases add_ob hn with ⟨e, e2⟩ | ⟨_, e⟩
    · subst e2
      rw [e, ← k.nx, W.lay_new]
      exact h.mono (w := w) (w' := w.lay a) (fun _ z => z) (Nat.le_succ _) (fun n hn => W.lay_old w a hn)
    · rw [W.lay_old w a (k.lt n u e)]
      exact (k.rep n u e).mono (w := w) (w' := w.lay a) (fun _ z => z) (Nat.le_succ _) (fun n hn => W.lay_old w a hn)
  nz := fun n u hn => by
    rcases add_ob hn with ⟨e, e2⟩ | ⟨_, e⟩
    · rw [e, ← k.nx, W.lay_new]; exact z
    · rw [W.lay_old w a (k.lt n u e)]; exact k.nz n u e
  inj := fun n m u v hn hm e => by
    rcases add_ob hn with ⟨e1, _⟩ | ⟨_, e1⟩ <;> rcases add_ob hm with ⟨e2, _⟩ | ⟨_, e2⟩
    · rw [e1, e2]
    · rw [e1, ← k.nx, W.lay_new, W.lay_old w a (k.lt m v e2)] at e
      exact absurd e.symm (f m v e2)
    · rw [e2, ← k.nx, W.lay_new, W.lay_old w a (k.lt n u e1)] at e
      exact absurd e (f n u e1)
    · rw [W.lay_old w a (k.lt n u e1), W.lay_old w a (k.lt m v e2)] at e
      exact k.inj n m u v e1 e2 e
  zs := k.zs
/-- a new object, seen from an earlier heap -/
theorem Stp.new {u : HO} (p : Stp w H s w' H' s') (hn : H a = none) : Stp w H s w' (upd H' a u) s' where
  keep := fun b o h f => by rw [upd_ne (ne_of_none h hn)]; exact p.keep b o h f
  zk := p.zk
  zn := p.zn
  nx := p.nx
  gk := p.gk
  live := p.live
  there := fun b o h => by
    rw [upd_ne (ne_of_none h hn)]
    exact p.there b o h
theorem Stp.frz (p : Stp w H s w' H' s') (hn : H a = none) : Stp w H s (w'.frz a) H' s' :=
  ⟨p.keep, fun b h => .inl (p.zk b h), fun b h => by
    rcases h with h | h
    · exact p.zn b h
    · rw [h]; exact .inr hn, p.nx, p.gk, p.live, p.there⟩
theorem Stp.lay {o : O} (p : Stp w H s w' H' s') (k : StOk G w' H' s') (hn : H a = none) : Stp w H s (w'.lay a) H' (s'.add o) where
  keep := p.keep
  zk := p.zk
  zn := p.zn
  nx := Nat.le_succ_of_le p.nx
  gk := fun n h => (W.lay_old w' a (Nat.lt_of_lt_of_le h p.nx)).trans (p.gk n h)
  live := fun n u hu => by
    rcases add_ob hu with ⟨e, _⟩ | ⟨_, e⟩
    · rw [e, ← k.nx, W.lay_new]; exact .inr hn
    · rw [W.lay_old w' a (k.lt n u e)]
      exact p.live n u e
  there := p.there
theorem Stp.back_none (p : Stp w H s w' H' s') (h : H' a = none) : H a = none := by
  cases e : H a with
  | none => rfl
  | some o =>
    obtain ⟨u, hu⟩ := p.there a o e
    rw [hu] at h
    cases h
theorem StOk.nz_new (k : StOk G w H s) (h : H a = none) : ¬ w.Z a := fun z => by
  obtain ⟨o, e⟩ := k.zs a z
  rw [h] at e
  cases e
theorem StOk.off_new (k : StOk G w H s) (h : H a = none) : Off w s a := fun n o hn e => by
  obtain ⟨u, hu⟩ := (k.rep n o hn).some_
  rw [e, h] at hu
  cases hu
/-! ### frozen, shared -/
theorem pe_frz {x : Expr} {e : E} (h : PE X x (tE G W0 cf e)) : PE X x (tE G W0 cf (.frz e)) := by
  refine pe_mono h fun σ H Q ⟨w, sl, s, k, h⟩ => tE_then k ?_
  rw [evE] at h
  cases ea : evE cf sl e s with
  | bad => rw [ea] at h; exact h
  | exc x s1 => rw [ea] at h; exact h
  | ok va s1 =>
    rw [ea] at h
    intro u w1 H1 p1 k1 r1
    cases va with
    | imm d => exact h u w1 H1 p1 k1.st r1
    | own o =>
      obtain ⟨a, rfl, h1, h2, h3, h4, h5⟩ := r1
      cases o with
      | lst ds =>
        obtain ⟨xs, h6, h7⟩ := h1
        exact h _ (w1.frz a) H1 (p1.frz h5) (k1.st.frz h3 ⟨_, h6⟩) (.lst (.inl ⟨h6, .inr rfl⟩) (h7.mono (w' := w1.frz a) (fun _ z => Or.inl z) (Nat.le_refl _) (fun _ _ => rfl)))
      | dic ks =>
        obtain ⟨xs, h6, h7⟩ := h1
        exact h _ (w1.frz a) H1 (p1.frz h5) (k1.st.frz h3 ⟨_, h6⟩) (.dic ⟨h6, .inr rfl⟩ (h7.mono (w' := w1.frz a) (fun _ z => Or.inl z) (Nat.le_refl _) (fun _ _ => rfl)))
      | ins c fs => cases h4
    | peek o => exact h.elim
theorem pe_share {x : Expr} {e : E} (h : PE X x (tE G W0 cf e)) : PE X x (tE G W0 cf (.share e)) := by
  refine pe_mono h fun σ H Q ⟨w, sl, s, k, h⟩ => tE_then k ?_
  rw [evE] at h
  cases ea : evE cf sl e s with
  | bad => rw [ea] at h; exact h
  | exc x s1 => rw [ea] at h; exact h
  | ok va s1 =>
    rw [ea] at h
    intro u w1 H1 p1 k1 r1
    cases va with
    | imm d => exact h.elim
    | own o =>
      obtain ⟨a, rfl, h1, h2, h3, h4, h5⟩ := r1
      refine h _ (w1.lay a) H1 (p1.lay k1.st h5) (k1.st.lay h1 h2 h3) ?_
      show RepD G (w1.lay a) H1 (.ref s1.nx) (.ref a)
      have q := RepD.ref (G := G) (w := w1.lay a) (H := H1) w1.nx (Nat.lt_succ_self _)
      rw [W.lay_new] at q
      rw [← k1.st.nx]
      exact q
    | peek o => exact h.elim
/-! ### displays -/
theorem imms_ok {H0 : Hp} : ∀ {rs : List RV} {vs : List V} {ds : List D}, RepRs G w H s H0 rs vs → immsOf rs = some ds → RepDs G w H ds vs
  | [], _, _, .nil, e => by cases e; exact .nil
  | .imm d :: rs, _, ds, .cons h r, e => by
    simp only [immsOf, Option.map_eq_some_iff] at e
    obtain ⟨es, e1, rfl⟩ := e
    exact .cons h (imms_ok r e1)
theorem sz_ok {ds : List D} {vs : List V} (r : RepDs G w H ds vs) (h : ds.length ≤ LIM) : vs.length ≤ sizeLine := by rw [← r.len, sizeLine_eq]; exact h
theorem evEs_len : ∀ {es : Es} {s : St} {rs : List RV} {s' : St}, evEs cf sl es s = .ok rs s' → rs.length = es.len
  | .nil, s, rs, s', h => by rw [evEs] at h; cases h; rfl
  | .cons e es, s, rs, s', h => by
    rw [evEs] at h
    cases ea : evE cf sl e s with
    | bad => rw [ea] at h; cases h
    | exc x s1 => rw [ea] at h; cases h
    | ok va s1 =>
      rw [ea] at h
      simp only [R.bind] at h
      cases eb : evEs cf sl es s1 with
      | bad => rw [eb] at h; cases h
      | exc x s1 => rw [eb] at h; cases h
      | ok r2 s2 =>
        rw [eb] at h
        cases h
        show r2.length + 1 = es.len + 1
        rw [evEs_len eb]
theorem imms_len : ∀ {rs : List RV} {ds : List D}, immsOf rs = some ds → ds.length = rs.length
  | [], ds, e => by cases e; rfl
  | .imm d :: rs, ds, e => by
    simp only [immsOf, Option.map_eq_some_iff] at e
    obtain ⟨es, e1, rfl⟩ := e
    show es.length + 1 = rs.length + 1
    rw [imms_len e1]
theorem pe_tupX {xs : List Expr} {as : Es} {k1 : Nat} (h : PA X xs (tEs G W0 cf as)) (hl : as.len ≤ LIM) : PE X (.Tuple xs k1 pos) (tE G W0 cf (.tup as)) := by
  refine pe_mono (pe_tup h) fun σ H Q ⟨w, sl, s, k, h⟩ => ⟨w, sl, s, k, ?_⟩
  rw [evE] at h
  cases ea : evEs cf sl as s with
  | bad => rw [ea] at h; exact h
  | exc x s1 => rw [ea] at h; exact h
  | ok rs s1 =>
    rw [ea] at h
    intro us w1 H1 p1 k1 r1
    simp only [R.bind] at h
    cases hi : immsOf rs with
    | none => rw [hi] at h; exact h.elim
    | some ds =>
      rw [hi] at h
      have r2 := imms_ok r1 hi
      refine ⟨sz_ok r2 (by rw [imms_len hi, evEs_len ea]; exact hl), fun p hp => ?_⟩
      have hn := p1.back_none hp
      exact h _ w1 (upd H1 p (.tup us)) (p1.new hn) (k1.wr (Wr.none hp) (k1.nz_new hp) (k1.off_new hp)) (.tup (.inl (.inl upd_same)) (r2.wr (Wr.none hp) (k1.nz_new hp)))
theorem pe_lstX {xs : List Expr} {as : Es} (h : PA X xs (tEs G W0 cf as)) (hl : as.len ≤ LIM) : PE X (.List xs pos) (tE G W0 cf (.lst as)) := by
  refine pe_mono (pe_lst h) fun σ H Q ⟨w, sl, s, k, h⟩ => ⟨w, sl, s, k, ?_⟩
  rw [evE] at h
  cases ea : evEs cf sl as s with
  | bad => rw [ea] at h; exact h
  | exc x s1 => rw [ea] at h; exact h
  | ok rs s1 =>
    rw [ea] at h
    intro us w1 H1 p1 k1 r1
    simp only [R.bind] at h
    cases hi : immsOf rs with
    | none => rw [hi] at h; exact h.elim
    | some ds =>
      rw [hi] at h
      have r2 := imms_ok r1 hi
      refine ⟨sz_ok r2 (by rw [imms_len hi, evEs_len ea]; exact hl), fun p hp => ?_⟩
      have hn := p1.back_none hp
      exact h _ w1 (upd H1 p (.lst us)) (p1.new hn) (k1.wr (Wr.none hp) (k1.nz_new hp) (k1.off_new hp)) ⟨p, rfl, ⟨us, upd_same, r2.wr (Wr.none hp) (k1.nz_new hp)⟩, k1.nz_new hp, k1.off_new hp, rfl, hn⟩
end
end Rx
/-! Rx6: truths joined, chains, calls. -/
namespace Rx
open PySem L2
section
variable {G : GC} {X : Cx} {W0 : WX} {cf : CF} {w w' : W} {H H' : Hp} {s s' : St} {sl : List L} {σ : L2.St} {Q : VK} {pos : Pos} {a : Addr}
theorem tE_of {e : E} (k : EnvOk G w H sl σ s) (h : PostV G W0 σ w H s (evE cf sl e s) Q) : tE G W0 cf e σ H Q := ⟨w, sl, s, k, h⟩
theorem PostV.late {w1 : W} {H1 : Hp} {s1 : St} {r : R RV} (h : PostV G W0 σ w H s r Q) (p : Stp w H s w1 H1 s1) : PostV G W0 σ w1 H1 s1 r Q := by
  cases r with
  | bad => exact h
  | exc x s2 => exact fun c d w2 H2 p2 k2 rx => h c d w2 H2 (p.trans p2) k2 rx
  | ok v s2 => exact fun u w2 H2 p2 k2 r2 => h u w2 H2 (p.trans p2) k2 (r2.back p)
theorem PostB.late {w1 : W} {H1 : Hp} {s1 : St} {r : R Bool} {Q : Bool → Hp → Prop} (h : PostB G W0 σ w H s r Q) (p : Stp w H s w1 H1 s1) : PostB G W0 σ w1 H1 s1 r Q := by
  cases r with
  | bad => exact h
  | exc x s2 => exact fun c d w2 H2 p2 k2 rx => h c d w2 H2 (p.trans p2) k2 rx
  | ok v s2 => exact fun w2 H2 p2 k2 => h w2 H2 (p.trans p2) k2
/-- what follows an expression -/
theorem bindV {e : E} {f : RV → St → R RV} {Q' : VK} (k : EnvOk G w H sl σ s) (h : PostV G W0 σ w H s ((evE cf sl e s).bind f) Q)
    (hQ : ∀ v s1 u w1 H1, Stp w H s w1 H1 s1 → EnvOk G w1 H1 sl σ s1 → RepR G w1 H1 s1 H v u → PostV G W0 σ w1 H1 s1 (f v s1) Q → Q' u H1) : tE G W0 cf e σ H Q' := by
  refine tE_then k ?_
  cases ea : evE cf sl e s with
  | bad => rw [ea] at h; exact h
  | exc x s1 => rw [ea] at h; exact h
  | ok va s1 =>
    rw [ea] at h
    intro u w1 H1 p1 k1 r1
    exact hQ va s1 u w1 H1 p1 k1 r1 (PostV.late h p1)
theorem bindB {e : E} {f : Bool → St → R RV} {Q' : Bool → Hp → Prop} (k : EnvOk G w H sl σ s) (h : PostV G W0 σ w H s ((testE cf e sl s).bind f) Q)
    (hQ : ∀ v s1 w1 H1, Stp w H s w1 H1 s1 → EnvOk G w1 H1 sl σ s1 → PostV G W0 σ w1 H1 s1 (f v s1) Q → Q' v H1) : tB' G W0 cf e σ H Q' := by
  refine ⟨w, sl, s, k, ?_⟩
  cases ea : testE cf e sl s with
  | bad => rw [ea] at h; exact h
  | exc x s1 => rw [ea] at h; exact h
  | ok va s1 =>
    rw [ea] at h
    intro w1 H1 p1 k1
    exact hQ va s1 w1 H1 p1 (k.stp p1 k1) (PostV.late h p1)
theorem bl_of {b : Bool} {u : V} (h : RepD G w H (.bl b) u) : u = .bl b := by cases h; rfl
theorem pe_andX {a b : Expr} {ea eb : E} {p1 p2 : Pos} (ha : PE X a (tE G W0 cf ea)) (hb : PE X (.BoolOp .And [b] p2) (tE G W0 cf eb)) : PE X (.BoolOp .And [a, b] p2) (tE G W0 cf (.and_ ea eb)) :=
  pe_mono (pe_and ha hb) fun σ H Q ⟨w, sl, s, k, h⟩ => by
    rw [evE] at h
    refine bindV k h fun v s1 u w1 H1 p1 k1 r1 h1 => ?_
    split at h1
    · rw [bl_of r1]; exact ⟨true, rfl, by rw [if_pos rfl]; exact tE_of k1 h1⟩
    · rw [bl_of r1]; exact ⟨false, rfl, by rw [if_neg Bool.false_ne_true]; exact h1 _ _ _ (.refl k1.st) k1.st (.bl _)⟩
    · exact h1.elim
theorem pe_orX {a b : Expr} {ea eb : E} {p2 : Pos} (ha : PE X a (tE G W0 cf ea)) (hb : PE X (.BoolOp .Or [b] p2) (tE G W0 cf eb)) : PE X (.BoolOp .Or [a, b] p2) (tE G W0 cf (.or_ ea eb)) :=
  pe_mono (pe_or ha hb) fun σ H Q ⟨w, sl, s, k, h⟩ => by
    rw [evE] at h
    refine bindV k h fun v s1 u w1 H1 p1 k1 r1 h1 => ?_
    split at h1
    · rw [bl_of r1]; exact ⟨false, rfl, by rw [if_neg Bool.false_ne_true]; exact tE_of k1 h1⟩
    · rw [bl_of r1]; exact ⟨true, rfl, by rw [if_pos rfl]; exact h1 _ _ _ (.refl k1.st) k1.st (.bl _)⟩
    · exact h1.elim
theorem ts_bind {e : E} {f : Bool → St → R Bool} {Q Q' : Bool → Hp → Prop} (k : EnvOk G w H sl σ s) (h : PostB G W0 σ w H s ((testE cf e sl s).bind f) Q)
    (hQ : ∀ v s1 w1 H1, Stp w H s w1 H1 s1 → EnvOk G w1 H1 sl σ s1 → PostB G W0 σ w1 H1 s1 (f v s1) Q → Q' v H1) : tB' G W0 cf e σ H Q' := by
  refine ⟨w, sl, s, k, ?_⟩
  cases ea : testE cf e sl s with
  | bad => rw [ea] at h; exact h
  | exc x s1 => rw [ea] at h; exact h
  | ok va s1 =>
    rw [ea] at h
    intro w1 H1 p1 k1
    exact hQ va s1 w1 H1 p1 (k.stp p1 k1) (PostB.late h p1)
theorem pw_mono {e : Expr} {t t' : TT} (h : PW X e t) (m : ∀ σ H Q, t' σ H Q → t σ H Q) : PW X e t' := ⟨fun wh pins s σ H Q I q => h.run wh pins s σ H Q I (m _ _ _ q)⟩
theorem tB_and {ea eb : E} {Q : Bool → Hp → Prop} (h : tB' G W0 cf (.and_ ea eb) σ H Q) : tAnd (tB' G W0 cf ea) (tB' G W0 cf eb) σ H Q := by
  obtain ⟨w, sl, s, k, h⟩ := h
  unfold testE at h
  rw [tsE] at h
  refine ts_bind k h fun v s1 w1 H1 p1 k1 h1 => ?_
  cases v with
  | true => rw [if_pos rfl]; exact ⟨w1, sl, s1, k1, h1⟩
  | false => rw [if_neg Bool.false_ne_true]; exact h1 _ _ (.refl k1.st) k1.st
theorem tB_or {ea eb : E} {Q : Bool → Hp → Prop} (h : tB' G W0 cf (.or_ ea eb) σ H Q) : tOr (tB' G W0 cf ea) (tB' G W0 cf eb) σ H Q := by
  obtain ⟨w, sl, s, k, h⟩ := h
  unfold testE at h
  rw [tsE] at h
  refine ts_bind k h fun v s1 w1 H1 p1 k1 h1 => ?_
  cases v with
  | true => rw [if_pos rfl]; exact h1 _ _ (.refl k1.st) k1.st
  | false => rw [if_neg Bool.false_ne_true]; exact ⟨w1, sl, s1, k1, h1⟩
theorem tB_not {ea : E} {Q : Bool → Hp → Prop} (h : tB' G W0 cf (.not_ ea) σ H Q) : tNot (tB' G W0 cf ea) σ H Q := by
  obtain ⟨w, sl, s, k, h⟩ := h
  unfold testE at h
  rw [tsE] at h
  exact ts_bind k h fun v s1 w1 H1 p1 k1 h1 => h1 _ _ (.refl k1.st) k1.st
/-- a test that is a value as well: not x -/
theorem pe_notX {a : Expr} {ea : E} (ha : PE X a (tE G W0 cf ea)) (hK : X.K = G.K) : PE X (.UnaryOp .Not a pos) (tE G W0 cf (.not_ ea)) :=
  pe_mono (pe_notT ha) fun σ H Q ⟨w, sl, s, k, h⟩ => by
    rw [evE] at h
    refine bindV k h fun v s1 u w1 H1 p1 k1 r1 h1 => ?_
    unfold testR at h1
    cases ht : truth (snap s1 v) with
    | none => rw [ht] at h1; exact h1.elim
    | some b =>
      rw [ht] at h1
      refine ⟨b, ?_, h1 _ _ _ (.refl k1.st) k1.st (.bl _)⟩
      rw [hK]
      exact truth_ok (cur_of r1 k1.st) ht
theorem pe_iteX {c a b : Expr} {ec ea eb : E} (hc : PT X c (tB' G W0 cf ec)) (hp : ec.plain = true) (ha : PE X a (tE G W0 cf ea)) (hb : PE X b (tE G W0 cf eb)) : PE X (.IfExp c a b pos) (tE G W0 cf (.ite ec ea eb)) :=
  pe_mono (pe_ifExp hc ha hb) fun σ H Q ⟨w, sl, s, k, h⟩ => by
    rw [evE] at h
    have h' : PostV G W0 σ w H s ((testE cf ec sl s).bind fun k s2 => if k then evE cf sl ea s2 else evE cf sl eb s2) Q := by
      unfold testE
      rw [tsE_plain hp]
      revert h
      cases evE cf sl ec s <;> exact fun h => h
    refine bindB k h' fun v s1 w1 H1 p1 k1 h1 => ?_
    cases v with
    | true => rw [if_pos rfl]; exact tE_of k1 h1
    | false => rw [if_neg Bool.false_ne_true]; exact tE_of k1 h1
theorem pe_chainX {a b c : Expr} {ea eb ec : E} {o1 o2 : CmpOp} {p q : P} {r1 r2 : R2} (h1 : OpR X (compareOp o1) r1) (h2 : OpR X (compareOp o2) r2) (hr1 : Pr2 G p r1) (hr2 : Pr2 G q r2) (hi : BoolP p) (hj : ImmP q)
    (ha : PE X a (tE G W0 cf ea)) (hb : PE X b (tE G W0 cf eb)) (hc : PE X c (tE G W0 cf ec)) (hm : lastMarks [o1, o2] [b, c] = false) : PE X (.Compare a [o1, o2] [b, c] pos) (tE G W0 cf (.chain p q ea eb ec)) :=
  pe_mono (pe_chain h1 h2 ha hb hc hm) fun σ H Q ⟨w, sl, s, k, h⟩ => by
    rw [evE] at h
    refine bindV k h fun x s1 u w1 H1 p1 k1 q1 g1 => ?_
    refine bindV k1 g1 fun y s2 v w2 H2 p2 k2 q2 g2 => ?_
    simp only [primR, List.map_cons, List.map_nil] at g2
    cases hp : primD p [snap s2 x, snap s2 y] with
    | none => rw [hp] at g2; exact g2.elim
    | some z =>
      rw [hp] at g2
      refine hr1 w2 H2 _ _ z _ _ _ (cur_of (q1.stp k1.st p2) k2.st) (cur_of q2 k2.st) hp fun dr t e rt => ?_
      obtain ⟨b, e2⟩ := hi _ _ hp
      subst e2
      cases e
      cases (show RepD G w2 H2 (.bl b) t from rt)
      refine ⟨b, rfl, ?_⟩
      cases b with
      | false => rw [if_neg Bool.false_ne_true]; exact g2 _ _ _ (.refl k2.st) k2.st (.bl _)
      | true =>
        rw [if_pos rfl]
        refine bindV k2 g2 fun z s3 v3 w3 H3 p3 k3 q3 g3 => ?_
        try simp only [primR, List.map_cons, List.map_nil] at g3
        cases hq : primD q [snap s3 y, snap s3 z] with
        | none => rw [hq] at g3; exact g3.elim
        | some z2 =>
          rw [hq] at g3
          refine hr2 w3 H3 _ _ z2 _ _ _ (cur_of (q2.stp k2.st p3) k3.st) (cur_of q3 k3.st) hq fun dr t e rt => ?_
          subst e
          exact g3 t w3 H3 (.refl k3.st) k3.st rt
theorem chain_bool {p q : P} (hp : BoolP p) (hq : BoolP q) {ea eb ec : E} : ∀ sl s r s', evE cf sl (.chain p q ea eb ec) s = .ok r s' → ∃ b, r = .imm (.bl b) := by
  intro sl s r s' h
  rw [evE] at h
  cases e1 : evE cf sl ea s with
  | bad => rw [e1] at h; cases h
  | exc x s1 => rw [e1] at h; cases h
  | ok x s1 =>
    rw [e1] at h; simp only [R.bind] at h
    cases e2 : evE cf sl eb s1 with
    | bad => rw [e2] at h; cases h
    | exc x s1 => rw [e2] at h; cases h
    | ok y s2 =>
      rw [e2] at h; simp only [primR, List.map_cons, List.map_nil] at h
      cases e3 : primD p [snap s2 x, snap s2 y] with
      | none => rw [e3] at h; cases h
      | some z =>
        rw [e3] at h
        obtain ⟨b, rfl⟩ := hp _ _ e3
        cases b with
        | false => cases h; exact ⟨_, rfl⟩
        | true =>
          simp only at h
          cases e4 : evE cf sl ec s2 with
          | bad => rw [e4] at h; cases h
          | exc x s1 => rw [e4] at h; cases h
          | ok z2 s3 =>
            rw [e4] at h
            simp only at h
            cases e5 : primD q [snap s3 y, snap s3 z2] with
            | none => rw [e5] at h; cases h
            | some z =>
              rw [e5] at h
              cases h
              exact hq _ _ e5
theorem pt_chainX {a b c : Expr} {ea eb ec : E} {o1 o2 : CmpOp} {p q : P} {r1 r2 : R2} (h1 : OpR X (compareOp o1) r1) (h2 : OpR X (compareOp o2) r2) (hr1 : Pr2 G p r1) (hr2 : Pr2 G q r2) (hi : BoolP p) (hj : BoolP q)
    (ha : PE X a (tE G W0 cf ea)) (hb : PE X b (tE G W0 cf eb)) (hc : PE X c (tE G W0 cf ec)) (hm : lastMarks [o1, o2] [b, c] = false) : PT X (.Compare a [o1, o2] [b, c] pos) (tB' G W0 cf (.chain p q ea eb ec)) :=
  pt_mono (pt_chain h1 h2 ha hb hc hm) fun σ H Q ⟨w, sl, s, k, h⟩ => by
    have h0 := tB_val rfl k (chain_bool hi hj) h
    show tChain r1 r2 (tE G W0 cf ea) (tE G W0 cf eb) (tE G W0 cf ec) σ H (fun x H' => ∃ k, x = .bl k ∧ Q k H')
    revert h0
    generalize (fun x H' => ∃ b, x = V.bl b ∧ Q b H' : VK) = Q2
    intro h
    rw [evE] at h
    refine bindV k h fun x s1 u w1 H1 p1 k1 q1 g1 => ?_
    refine bindV k1 g1 fun y s2 v w2 H2 p2 k2 q2 g2 => ?_
    simp only [primR, List.map_cons, List.map_nil] at g2
    cases hp : primD p [snap s2 x, snap s2 y] with
    | none => rw [hp] at g2; exact g2.elim
    | some z =>
      rw [hp] at g2
      refine hr1 w2 H2 _ _ z _ _ _ (cur_of (q1.stp k1.st p2) k2.st) (cur_of q2 k2.st) hp fun dr t e rt => ?_
      obtain ⟨b, e2⟩ := hi _ _ hp
      subst e2
      cases e
      cases (show RepD G w2 H2 (.bl b) t from rt)
      refine ⟨b, rfl, ?_⟩
      cases b with
      | false => rw [if_neg Bool.false_ne_true]; exact g2 _ _ _ (.refl k2.st) k2.st (.bl _)
      | true =>
        rw [if_pos rfl]
        refine bindV k2 g2 fun z s3 v3 w3 H3 p3 k3 q3 g3 => ?_
        try simp only [primR, List.map_cons, List.map_nil] at g3
        cases hq : primD q [snap s3 y, snap s3 z] with
        | none => rw [hq] at g3; exact g3.elim
        | some z2 =>
          rw [hq] at g3
          refine hr2 w3 H3 _ _ z2 _ _ _ (cur_of (q2.stp k2.st p3) k3.st) (cur_of q3 k3.st) hq fun dr t e rt => ?_
          subst e
          exact g3 t w3 H3 (.refl k3.st) k3.st rt
/-! ### calls -/
/-- what a def promises: what the language's run says -/
def spF (G : GC) (cf : CF) (f : Nat) (n : Nat) : Sp := fun vs H Q E => ∃ w s ds, StOk G w H s ∧ RepDs G w H ds vs ∧ ds.length = n ∧ match cf f ds s with
  | .ok r s' => ∀ v w' H', Stp w H s w' H' s' → StOk G w' H' s' → RepR G w' H' s' H r v → Q v H'
  | .exc x s' => ∀ c d w' H', Stp w H s w' H' s' → StOk G w' H' s' → RepX G w' H' x c d → E c d H'
  | .bad => False
theorem pe_callX {k f i : Nat} {fd : FuncData} {ps : List Str} {x : Str} {pn : Pos} {e : Expr} {es : List Expr} {as : Es} (F : FnOk X.prog X.w X.K X.mg X.base (L2.CX X.prog X.w) k f fd ps (spF G cf i ps.length)) (hn : as.len = ps.length) (hr : Room k X.A) (hg : Gl X x) (hm : X.mg x = some (.ref f)) (hk : PySem.W.keepIn X.K (.ref f) = true) (hb : Binds X.K fd ps [])
    (tk : Takes X W0) (ha : PA X (e :: es) (tEs G W0 cf as)) (hdb : (x == ("__debug__" : Str)) = false) (he : starEach (e :: es) X.env = (false, eval e X.env) :: starEach es X.env) (hpl : (backTo pos (starEach es X.env)).any (·.1) = false) :
    PE X (.Call (.Name x pn) (e :: es) [] pos) (tE G W0 cf (.call i as)) :=
  pe_mono (pe_callS F hr hg hm hk hb (fun σ => passAt tk σ) ha hdb he hpl) fun σ H Q ⟨w, sl, s, k, h⟩ => by
    refine ⟨w, sl, s, k, ?_⟩
    rw [evE] at h
    cases ea : evEs cf sl as s with
    | bad => rw [ea] at h; exact h
    | exc x s1 => rw [ea] at h; exact h
    | ok rs s1 =>
      rw [ea] at h
      intro us w1 H1 p1 k1 r1
      simp only [R.bind] at h
      cases hi : immsOf rs with
      | none => rw [hi] at h; exact h.elim
      | some ds =>
        rw [hi] at h
        refine ⟨w1, s1, ds, k1, imms_ok r1 hi, by rw [imms_len hi, evEs_len ea]; exact hn, ?_⟩
        simp only at h
        cases hc : cf i ds s1 with
        | bad => rw [hc] at h; exact h
        | exc x s2 => rw [hc] at h; exact fun c d w2 H2 p2 k2 rx => h c d w2 H2 (p1.trans p2) k2 rx
        | ok r s2 => rw [hc] at h; exact fun v w2 H2 p2 k2 r2 => h v w2 H2 (p1.trans p2) k2 (r2.back p1)
end
end Rx
/-! Rx7: what is walked; comprehensions. -/
namespace Rx
open PySem L2
/-- kinds of walks: a range, a tuple, a list -/
inductive It' where
  | r (a : Int) (n : Nat) | t (b : Addr) | l (b : Addr)
/-- the addresses of the slots' own objects -/
def Own (sl : List L) (σ : L2.St) (a : Addr) : Prop := ∃ (i : Nat) (o : O), sl[i]? = some (L.own o) ∧ σ[i]? = some (some (V.ref a))
/-- a step of the whole frame: stored objects and the slots' own ones may change -/
structure RStp (sl : List L) (σ : L2.St) (w : W) (H : Hp) (s : St) (sl' : List L) (σ' : L2.St) (w' : W) (H' : Hp) (s' : St) : Prop where
  keep : ∀ a o, H a = some o → Off w s a → ¬ Own sl σ a → H' a = some o
  zk : ∀ a, w.Z a → w'.Z a
  zn : ∀ a, w'.Z a → w.Z a ∨ H a = none ∨ Own sl σ a
  nx : w.nx ≤ w'.nx
  gk : ∀ n, n < w.nx → w'.g n = w.g n
  live : ∀ n o, s'.ob n = some o → (n < w.nx ∧ ∃ u, s.ob n = some u) ∨ H (w'.g n) = none ∨ Own sl σ (w'.g n)
  there : ∀ a o, H a = some o → ∃ u, H' a = some u
  own : ∀ a, Own sl' σ' a → Own sl σ a ∨ H a = none
section
variable {G : GC} {X : Cx} {W0 : WX} {cf : CF} {w w' w2 : W} {H H' H2 : Hp} {s s' s2 : St} {sl sl' sl2 : List L} {σ σ' σ2 : L2.St} {Q : VK} {pos : Pos} {a : Addr}
theorem Stp.r (p : Stp w H s w' H' s') : RStp sl σ w H s sl σ w' H' s' :=
  ⟨fun a o h f _ => p.keep a o h f, p.zk, fun a h => (p.zn a h).imp id .inl, p.nx, p.gk, fun n o h => (p.live n o h).imp id .inl, p.there, fun a h => .inl h⟩
theorem EnvOk.own_wr (k : EnvOk G w H sl σ s) (h : Own sl σ a) : Wr H a ∧ ¬ w.Z a ∧ Off w s a ∧ ∃ o, H a = some o := by
  obtain ⟨i, o, h1, h2⟩ := h
  obtain ⟨b, h3, h4, h5, h6, _⟩ := k.own i o h1
  rw [h2] at h3
  cases h3
  exact ⟨h4.wr, h5, h6, h4.some_⟩
theorem RStp.trans (p : RStp sl σ w H s sl' σ' w' H' s') (q : RStp sl' σ' w' H' s' sl2 σ2 w2 H2 s2) : RStp sl σ w H s sl2 σ2 w2 H2 s2 where
  keep := fun a o h f n => by
    have h1 := p.keep a o h f n
    refine q.keep a o h1 (fun m u hm e => ?_) fun z => ?_
    · rcases p.live m u hm with ⟨l, v, hv⟩ | y | y
      · exact f m v hv ((p.gk m l).symm.trans e)
      · rw [e, h] at y; cases y
      · rw [e] at y; exact n y
    · rcases p.own a z with y | y
      · exact n y
      · rw [h] at y; cases y
  zk := fun a h => q.zk a (p.zk a h)
  zn := fun a h => by
    rcases q.zn a h with z | z | z
    · exact p.zn a z
    · cases e : H a with
      | none => exact .inr (.inl rfl)
      | some o =>
        obtain ⟨u, hu⟩ := p.there a o e
        rw [hu] at z
        cases z
    · exact .inr ((p.own a z).symm)
  nx := Nat.le_trans p.nx q.nx
  gk := fun n h => (q.gk n (Nat.lt_of_lt_of_le h p.nx)).trans (p.gk n h)
  live := fun n o h => by
    rcases q.live n o h with ⟨l, u, hu⟩ | z | z
    · rcases p.live n u hu with y | y | y
      · exact .inl y
      · exact .inr (.inl (by rw [q.gk n l]; exact y))
      · exact .inr (.inr (by rw [q.gk n l]; exact y))
    · cases e : H (w2.g n) with
      | none => exact .inr (.inl rfl)
      | some o =>
        obtain ⟨u, hu⟩ := p.there _ o e
        rw [hu] at z
        cases z
    · exact .inr ((p.own _ z).symm)
  there := fun a o h => by
    obtain ⟨u, hu⟩ := p.there a o h
    exact q.there a u hu
  own := fun a h => by
    rcases q.own a h with z | z
    · exact p.own a z
    · cases e : H a with
      | none => exact .inr rfl
      | some o =>
        obtain ⟨u, hu⟩ := p.there a o e
        rw [hu] at z
        cases z
theorem RStp.sqT (k : EnvOk G w H sl σ s) (p : RStp sl σ w H s sl' σ' w' H' s') {xs : List V} (h : SqT G.K H a xs) : SqT G.K H' a xs := by
  rcases h with (h | ⟨o, h⟩) | h
  · exact .inl (.inl (p.keep _ _ h (k.st.offT h) fun z => (k.own_wr z).1.1 _ h))
  · exact .inl (.inr ⟨o, p.keep _ _ h (k.st.offF h) fun z => (k.own_wr z).1.2 _ _ h⟩)
  · exact .inr h
theorem RStp.ro (k : EnvOk G w H sl σ s) (p : RStp sl σ w H s sl' σ' w' H' s') {xs : List V} (h : Ro G w H a xs) : Ro G w' H' a xs := by
  rcases h with ⟨h, z⟩ | ⟨o, h⟩ | h
  · exact .inl ⟨p.keep _ _ h (k.st.offZ z) fun y => (k.own_wr y).2.1 z, p.zk _ z⟩
  · exact .inr (.inl ⟨o, p.keep _ _ h (k.st.offF h) fun z => (k.own_wr z).1.2 _ _ h⟩)
  · exact .inr (.inr h)
theorem RStp.rdc (k : EnvOk G w H sl σ s) (p : RStp sl σ w H s sl' σ' w' H' s') {xs : List (L2.Key × V)} (h : Rdc w H a xs) : Rdc w' H' a xs := by
  obtain ⟨h, z⟩ := h
  exact ⟨p.keep _ _ h (k.st.offZ z) fun y => (k.own_wr y).2.1 z, p.zk _ z⟩
mutual
theorem RepD.rst (k : EnvOk G w H sl σ s) (p : RStp sl σ w H s sl' σ' w' H' s') : ∀ {d : D} {v : V}, RepD G w H d v → RepD G w' H' d v
  | _, _, .non => .non
  | _, _, .bl b => .bl b
  | _, _, .int i => .int i
  | _, _, .str x => .str x
  | _, _, .ref n h => by
    rw [← p.gk n h]
    exact .ref n (Nat.lt_of_lt_of_le h p.nx)
  | _, _, .tup h r => .tup (p.sqT k h) (RepDs.rst k p r)
  | _, _, .lst h r => .lst (p.ro k h) (RepDs.rst k p r)
  | _, _, .dic h r => .dic (p.rdc k h) (RepK.rst k p r)
theorem RepDs.rst (k : EnvOk G w H sl σ s) (p : RStp sl σ w H s sl' σ' w' H' s') : ∀ {ds : List D} {vs : List V}, RepDs G w H ds vs → RepDs G w' H' ds vs
  | _, _, .nil => .nil
  | _, _, .cons h r => .cons (RepD.rst k p h) (RepDs.rst k p r)
theorem RepK.rst (k : EnvOk G w H sl σ s) (p : RStp sl σ w H s sl' σ' w' H' s') : ∀ {ks : List (D × D)} {kvs : List (L2.Key × V)}, RepK G w H ks kvs → RepK G w' H' ks kvs
  | _, _, .nil => .nil
  | _, _, .cons e h r => .cons e (RepD.rst k p h) (RepK.rst k p r)
end
/-! ### what is walked -/
/-- the items of a walk: where they stand -/
inductive Wk (G : GC) (w : W) (H : Hp) (sl : List L) (σ : L2.St) (s : St) : It' → List D → Prop where
  | rng (a : Int) (n : Nat) : Wk G w H sl σ s (.r a n) (rangeD a n)
  | tup {b : Addr} {xs : List V} {ds : List D} : SqT G.K H b xs → RepDs G w H ds xs → Wk G w H sl σ s (.t b) ds
  | ro {b : Addr} {xs : List V} {ds : List D} : Ro G w H b xs → RepDs G w H ds xs → Wk G w H sl σ s (.l b) ds
  | new {b : Addr} {xs : List V} {ds : List D} : H b = some (.lst xs) → ¬ w.Z b → Off w s b → ¬ Own sl σ b → RepDs G w H ds xs → Wk G w H sl σ s (.l b) ds
def It'.J (K : PySem.W.Frag) : It' → L2.It
  | .r a n => Itr a n
  | .t b => Itt K b
  | .l b => Itl K b
theorem Wk.rst {i : It'} {ds : List D} (h : Wk G w H sl σ s i ds) (k : EnvOk G w H sl σ s) (p : RStp sl σ w H s sl' σ' w' H' s') : Wk G w' H' sl' σ' s' i ds := by
  cases h with
  | rng a n => exact .rng a n
  | tup h r => exact .tup (p.sqT k h) (r.rst k p)
  | ro h r => exact .ro (p.ro k h) (r.rst k p)
  | @new b xs _ h z f n r =>
    have h1 := p.keep _ _ h f n
    refine .new h1 (fun y => ?_) (fun m u hm e => ?_) (fun y => ?_) (r.rst k p)
    · rcases p.zn _ y with y | y | y
      · exact z y
      · rw [h] at y; cases y
      · exact n y
    · rcases p.live m u hm with ⟨l, v, hv⟩ | y | y
      · exact f m v hv ((p.gk m l).symm.trans e)
      · rw [e, h] at y; cases y
      · rw [e] at y; exact n y
    · rcases p.own _ y with y | y
      · exact n y
      · rw [h] at y; cases y
theorem Wk.sqL {b : Addr} {ds : List D} (h : Wk G w H sl σ s (.l b) ds) : ∃ xs, SqL G.K H b xs ∧ RepDs G w H ds xs := by
  cases h with
  | ro h r => exact ⟨_, h.sq, r⟩
  | new h _ _ _ r => exact ⟨_, SqL.of h, r⟩
theorem Wk.go {i : It'} {ds : List D} {j : Nat} (h : Wk G w H sl σ s i ds) (hj : j < ds.length) : (i.J G.K).go j H ∧ ∀ x H2, (i.J G.K).yld j H x H2 → H2 = H ∧ ∃ d, ds[j]? = some d ∧ RepD G w H d x := by
  cases i with
  | r a n =>
    cases h
    have hn : j < n := by simpa [rangeD] using hj
    refine ⟨hn, fun x H2 y => ?_⟩
    obtain ⟨y1, y2⟩ := y
    refine ⟨y1, .int (a + j), ?_, by rw [y2]; exact .int _⟩
    simp [rangeD, hn]
  | t b =>
    cases h with
    | @tup _ xs _ h r =>
    have hx : j < xs.length := by rw [← r.len]; exact hj
    obtain ⟨d, hd, hr⟩ := r.getV (i := j) (v := xs[j]) (by simp [hx])
    refine ⟨⟨xs, xs[j], h, by simp [hx]⟩, fun x H2 y => ⟨y.1, d, hd, ?_⟩⟩
    have := y.2 xs h
    rw [List.getElem?_eq_getElem hx] at this
    cases this
    exact hr
  | l b =>
    obtain ⟨xs, h, r⟩ := h.sqL
    have hx : j < xs.length := by rw [← r.len]; exact hj
    obtain ⟨d, hd, hr⟩ := r.getV (i := j) (v := xs[j]) (by simp [hx])
    refine ⟨⟨xs, xs[j], h, by simp [hx]⟩, fun x H2 y => ⟨y.1, d, hd, ?_⟩⟩
    have := y.2 xs h
    rw [List.getElem?_eq_getElem hx] at this
    cases this
    exact hr
theorem Wk.stop {i : It'} {ds : List D} {j : Nat} (h : Wk G w H sl σ s i ds) (hj : ds.length ≤ j) : (i.J G.K).stop j H := by
  cases i with
  | r a n =>
    cases h
    have hn : n ≤ j := by simpa [rangeD] using hj
    exact hn
  | t b => cases h with
    | tup h r => exact ⟨_, h, by rw [← r.len]; exact hj⟩
  | l b =>
    obtain ⟨xs, h, r⟩ := h.sqL
    exact ⟨_, h, by rw [← r.len]; exact hj⟩
/-- the reading of a walk -/
def tI (G : GC) (X : WX) (cf : CF) (it : It) : TI := fun σ H R => ∃ w sl s, EnvOk G w H sl σ s ∧ match evIt cf sl it s with
  | .ok ds s' => ∀ i w' H', Stp w H s w' H' s' → StOk G w' H' s' → Wk G w' H' sl σ s' i ds → R (i.J G.K) H'
  | .exc x s' => ∀ c d w' H', Stp w H s w' H' s' → StOk G w' H' s' → RepX G w' H' x c d → X c d σ H'
  | .bad => False
theorem pi_mono {tg it : Expr} {t t' : TI} (h : PI X tg it t) (m : ∀ σ H R, t' σ H R → t σ H R) : PI X tg it t' := ⟨fun pins s σ H R I q => h.run pins s σ H R I (m _ _ _ q)⟩
theorem pi_r1 {tg x : Expr} {e : E} {p : Pos} (hg : Gl X "range") (hm : X.mg "range" = none) (h : PE X x (tE G W0 cf e)) (hs : starEach [x] X.env = [(false, eval x X.env)]) : PI X tg (.Call (.Name "range" p) [x] [] pos) (tI G W0 cf (.range1 e)) := by
  refine pi_mono (pi_range1 hg hm (pa_cons (t := tNil) h pa_nil hs) hs) fun σ H R ⟨w, sl, s, k, h⟩ => ?_
  refine tE_then k ?_
  rw [evIt] at h
  cases ea : evE cf sl e s with
  | bad => rw [ea] at h; exact h
  | exc x s1 => rw [ea] at h; exact h
  | ok va s1 =>
    rw [ea] at h
    intro u w1 H1 p1 k1 r1
    simp only [Rx.R.bind] at h
    cases va with
    | imm d => cases d with
      | int n =>
        dsimp only at h
        by_cases c : n < 4611686018427387904 ∧ -4611686018427387904 ≤ n
        · rw [if_pos c] at h
          cases (show RepD G w1 H1 (.int n) u from r1)
          exact ⟨n, rfl, by omega, by omega, h (.r 0 n.toNat) w1 H1 p1 k1.st (.rng _ _)⟩
        · rw [if_neg c] at h
          exact h.elim
      | _ => exact h.elim
    | _ => exact h.elim
theorem pi_r2 {tg x y : Expr} {e e2 : E} {p : Pos} (hg : Gl X "range") (hm : X.mg "range" = none) (h : PE X x (tE G W0 cf e)) (h2 : PE X y (tE G W0 cf e2)) (hs : starEach [x, y] X.env = [(false, eval x X.env), (false, eval y X.env)]) (hs2 : starEach [y] X.env = [(false, eval y X.env)]) :
    PI X tg (.Call (.Name "range" p) [x, y] [] pos) (tI G W0 cf (.range2 e e2)) := by
  refine pi_mono (pi_range2 hg hm (pa_cons h (pa_cons (t := tNil) h2 pa_nil hs2) (by rw [hs, hs2])) hs hs2) fun σ H R ⟨w, sl, s, k, h⟩ => ?_
  refine tE_then k ?_
  rw [evIt] at h
  cases ea : evE cf sl e s with
  | bad => rw [ea] at h; exact h
  | exc x s1 => rw [ea] at h; exact h
  | ok va s1 =>
    rw [ea] at h
    intro u w1 H1 p1 k1 r1
    refine tE_then k1 ?_
    simp only [Rx.R.bind] at h
    cases eb : evE cf sl e2 s1 with
    | bad => rw [eb] at h; exact h
    | exc x s2 => rw [eb] at h; exact fun c d w2 H2 p2 k2 rx => h c d w2 H2 (p1.trans p2) k2 rx
    | ok vb s2 =>
      rw [eb] at h
      intro u2 w2 H2 p2 k2 r2
      cases va with
      | imm d => cases d with
        | int i => cases vb with
          | imm d => cases d with
            | int j =>
              dsimp only at h
              by_cases c : (i < 4611686018427387904 ∧ -4611686018427387904 ≤ i) ∧ j < 4611686018427387904 ∧ -4611686018427387904 ≤ j
              · rw [if_pos c] at h
                cases (show RepD G w1 H1 (.int i) u from r1)
                cases (show RepD G w2 H2 (.int j) u2 from r2)
                exact ⟨i, j, rfl, by omega, h (.r i (j - i).toNat) w2 H2 (p1.trans p2) k2.st (.rng _ _)⟩
              · rw [if_neg c] at h
                exact h.elim
            | _ => exact h.elim
          | _ => exact h.elim
        | _ => exact h.elim
      | _ => exact h.elim
/-- a list or a tuple, walked -/
theorem pi_sq {tg l : Expr} {tl : TE} (hl : PE X l tl) : PI X tg l (fun σ H R => tl σ H fun x H1 => ∃ b, x = .ref b ∧ (((∃ xs, SqL X.K H1 b xs) ∧ R (Itl X.K b) H1) ∨ ((∃ xs, SqT X.K H1 b xs) ∧ R (Itt X.K b) H1))) := by
  refine ⟨fun pins s σ H R I h => ?_⟩
  refine thn (hl.run pins s σ H _ I h) fun v s1 z => ?_
  obtain ⟨x, H1, J, rx, b, ex, z⟩ := z
  subst ex
  obtain rfl : v = Value.ref b := rx
  have old : ∀ (c : Addr) (o : Obj) (n : Obj), s1.heap.get? c = some o → (s1.heap.push n).get? c = some o := fun c o n e => Heap.get?_push_of_some _ e
  have fp : ∀ c ∈ [s1.heap.objs.size], FpOk X pins H1 c := fun c hc => by
    have ec : c = s1.heap.objs.size := by simpa using hc
    rw [ec]
    exact J.fpOk (Nat.le_refl _) (J.hok.fresh (Nat.le_refl _))
  rcases z with ⟨⟨xs, hq⟩, z⟩ | ⟨⟨xs, hq⟩, z⟩
  · obtain ⟨its, rv, pl, hz⟩ := J.list hq
    refine wpAny_pyIter_list pl.isList ⟨_, _, _, Itl X.K b, H1, rfl, J.kept (t' := s1.toks) fun c o e => old c o _ e, turn_list b _, ?_, fp, z⟩
    exact ⟨_, Heap.get?_push_size _ rfl, rfl, rfl⟩
  · obtain ⟨its, rv, pl, hz⟩ := J.tuple hq
    refine wpAny_pyIter_tuple (show s1.heap.IsTuple b its.toArray from pl) ⟨_, _, _, Itt X.K b, H1, rfl, J.kept (t' := s1.toks) fun c o e => old c o _ e, turn_tuple b _, ?_, fp, z⟩
    exact ⟨_, Heap.get?_push_size _ rfl, rfl, rfl⟩
theorem pi_seqX {tg x : Expr} {e : E} (h : PE X x (tE G W0 cf e)) (hK : X.K = G.K) : PI X tg x (tI G W0 cf (.seq e)) := by
  refine pi_mono (pi_sq h) fun σ H R ⟨w, sl, s, k, h⟩ => tE_then k ?_
  rw [evIt] at h
  cases ea : evE cf sl e s with
  | bad => rw [ea] at h; exact h
  | exc x s1 => rw [ea] at h; exact h
  | ok va s1 =>
    rw [ea] at h
    intro u w1 H1 p1 k1 r1
    simp only [Rx.R.bind] at h
    rw [hK]
    cases va with
    | imm d =>
      cases d with
      | lst ds => cases r1 with
        | lst hs hr => exact ⟨_, rfl, .inl ⟨⟨_, hs.sq⟩, h (.l _) w1 H1 p1 k1.st (.ro hs hr)⟩⟩
      | tup ds => cases r1 with
        | tup hs hr => exact ⟨_, rfl, .inr ⟨⟨_, hs⟩, h (.t _) w1 H1 p1 k1.st (.tup hs hr)⟩⟩
      | _ => exact h.elim
    | own o =>
      cases o with
      | lst ds =>
        obtain ⟨b, rfl, ⟨xs, h1, h2⟩, h3, h4, _, h5⟩ := r1
        refine ⟨b, rfl, .inl ⟨⟨_, SqL.of h1⟩, h (.l b) w1 H1 p1 k1.st (.new h1 h3 h4 (fun y => ?_) h2)⟩⟩
        obtain ⟨_, _, _, o, ho⟩ := k.own_wr y
        rw [h5] at ho
        cases ho
      | _ => exact h.elim
    | peek o => exact h.elim
end
end Rx
/-! Rx8: targets; comprehensions. -/
namespace Rx
open PySem L2
def Tg.slots : Tg → List Nat
  | .slot i => [i]
  | .tup is => is
section
variable {G : GC} {X : Cx} {W0 : WX} {cf : CF} {w w' w2 : W} {H H' H2 H0 : Hp} {s s' s2 : St} {sl sl' sl2 : List L} {σ σ' σ2 : L2.St} {Q : VK} {pos : Pos} {a : Addr}
theorem EnvOk.setI (k : EnvOk G w H sl σ s) {i : Nat} {d : D} {v : V} (r : RepD G w H d v) (hi : i < sl.length) : EnvOk G w H (sl.set i (.imm d)) (σ.set i (some v)) s where
  st := k.st
  len := by rw [List.length_set, List.length_set]; exact k.len
  imm := fun j e h => by
    by_cases hj : i = j
    · subst hj
      rw [List.getElem?_set_self hi] at h
      cases h
      exact ⟨v, List.getElem?_set_self (by rw [← k.len]; exact hi), r⟩
    · rw [List.getElem?_set_ne hj] at h ⊢
      exact k.imm j e h
  own := fun j o h => by
    by_cases hj : i = j
    · subst hj
      rw [List.getElem?_set_self hi] at h
      cases h
    · rw [List.getElem?_set_ne hj] at h ⊢
      exact k.own j o h
  dist := fun j m o u b h1 h2 h3 h4 => by
    by_cases hj : i = j
    · subst hj; rw [List.getElem?_set_self hi] at h1; cases h1
    · by_cases hm : i = m
      · subst hm; rw [List.getElem?_set_self hi] at h2; cases h2
      · rw [List.getElem?_set_ne hj] at h1 h3
        rw [List.getElem?_set_ne hm] at h2 h4
        exact k.dist j m o u b h1 h2 h3 h4
/-- a slot gets an object of its own -/
theorem EnvOk.setO (k : EnvOk G w H sl σ s) {i : Nat} {o : O} {a : Addr} (r : RepO G w H o a) (hz : ¬ w.Z a) (hf : Off w s a) (hc : o.coll = true) (hn : ¬ Own sl σ a) (hi : i < sl.length) : EnvOk G w H (sl.set i (.own o)) (σ.set i (some (.ref a))) s where
  st := k.st
  len := by rw [List.length_set, List.length_set]; exact k.len
  imm := fun j e h => by
    by_cases hj : i = j
    · subst hj
      rw [List.getElem?_set_self hi] at h
      cases h
    · rw [List.getElem?_set_ne hj] at h ⊢
      exact k.imm j e h
  own := fun j o h => by
    by_cases hj : i = j
    · subst hj
      rw [List.getElem?_set_self hi] at h
      cases h
      exact ⟨a, List.getElem?_set_self (by rw [← k.len]; exact hi), r, hz, hf, hc⟩
    · rw [List.getElem?_set_ne hj] at h ⊢
      exact k.own j o h
  dist := fun j m o u b h1 h2 h3 h4 => by
    have hσ : i < σ.length := by rw [← k.len]; exact hi
    by_cases hj : i = j
    · by_cases hm : i = m
      · rw [← hj, ← hm]
      · subst hj
        rw [List.getElem?_set_ne hm] at h2 h4
        rw [List.getElem?_set_self hσ] at h3
        cases h3
        exact absurd ⟨m, u, h2, h4⟩ hn
    · by_cases hm : i = m
      · subst hm
        rw [List.getElem?_set_ne hj] at h1 h3
        rw [List.getElem?_set_self hσ] at h4
        cases h4
        exact absurd ⟨j, o, h1, h3⟩ hn
      · rw [List.getElem?_set_ne hj] at h1 h3
        rw [List.getElem?_set_ne hm] at h2 h4
        exact k.dist j m o u b h1 h2 h3 h4
/-! ### targets -/
/-- only these slots changed -/
def Chg (is : List Nat) (σ σ' : L2.St) : Prop := σ'.length = σ.length ∧ ∀ j, j ∉ is → σ'[j]? = σ[j]?
theorem Chg.set {i : Nat} {is : List Nat} {v : V} (h : i ∈ is) : Chg is σ (σ.set i (some v)) := ⟨List.length_set, fun j hj => List.getElem?_set_ne (fun e => hj (by rw [← e]; exact h))⟩
theorem Chg.trans {is : List Nat} (h : Chg is σ σ') (h2 : Chg is σ' σ2) : Chg is σ σ2 := ⟨h2.1.trans h.1, fun j hj => (h2.2 j hj).trans (h.2 j hj)⟩
/-- the names of targets' slots -/
inductive TgN (X : Cx) : List Nat → List Expr → Prop where
  | nil : TgN X [] []
  | cons {i : Nat} {x : Str} {p : Pos} {is : List Nat} {es : List Expr} : X.N[i]? = some x → Loc X.env.scope x → (X.fn x = true ∨ X.env.scope.names.lookup x = some .local) → TgN X is es → TgN X (i :: is) (.Name x p :: es)
/-- data to names, one behind another -/
def gDs (G : GC) (all : List Nat) (is : List Nat) : TGs := fun vs σ H Q => ∃ w sl s ds, EnvOk G w H sl σ s ∧ RepDs G w H ds vs ∧ (∀ i, i ∈ is → i ∈ all) ∧ match asgTups sl is ds with
  | some sl' => ∀ σ', EnvOk G w H sl' σ' s → Chg all σ σ' → Q σ' H
  | none => False
theorem pgs_mono {es : List Expr} {t t' : TGs} (h : PGs X es t) (m : ∀ vs σ H Q, t' vs σ H Q → t vs σ H Q) : PGs X es t' := ⟨fun pins s σ H vs us Q I r q => h.run pins s σ H vs us Q I r (m _ _ _ _ q)⟩
theorem pg_mono {e : Expr} {t t' : TG} (h : PG X e t) (m : ∀ v σ H Q, t' v σ H Q → t v σ H Q) : PG X e t' := ⟨fun pins s σ H v u Q I r q => h.run pins s σ H v u Q I r (m _ _ _ _ q)⟩
theorem pgs_ds {all : List Nat} (hN : X.N.Nodup) : ∀ {is : List Nat} {es : List Expr}, TgN X is es → PGs X es (gDs G all is)
  | _, _, .nil => pgs_mono pgs_nil fun vs σ H Q ⟨w, sl, s, ds, k, r, ha, h⟩ => by
    cases ds with
    | nil => cases r; exact ⟨rfl, h σ k ⟨rfl, fun _ _ => rfl⟩⟩
    | cons d ds => exact h.elim
  | _, _, .cons (i := i) (x := x) (p := p) (is := is) (es := es) hi hl hf r0 => by
    refine pgs_mono (pgs_cons (pg_name (pos := p) hN hi hl hf) (pgs_ds (all := all) hN r0)) fun vs σ H Q ⟨w, sl, s, ds, k, r, ha, h⟩ => ?_
    cases ds with
    | nil => exact h.elim
    | cons d ds =>
      cases r with
      | @cons _ v _ vs hd hr =>
      simp only [asgTups, setSl] at h
      by_cases hlt : i < sl.length
      · rw [if_pos hlt] at h
        refine ⟨v, vs, rfl, w, _, s, ds, k.setI hd hlt, hr, fun j hj => ha j (List.mem_cons_of_mem _ hj), ?_⟩
        simp only [Option.bind_some] at h
        cases e : asgTups (sl.set i (.imm d)) is ds with
        | none => rw [e] at h; exact h.elim
        | some sl' =>
          rw [e] at h
          exact fun σ' k' c => h σ' k' ((Chg.set (ha i List.mem_cons_self)).trans c)
      · rw [if_neg hlt] at h
        exact h.elim
/-- a target, of data -/
def tG (G : GC) (t : Tg) : TG := fun v σ H Q => ∃ w sl s d, EnvOk G w H sl σ s ∧ RepD G w H d v ∧ match asgTg sl s t (.imm d) with
  | some sl' => ∀ σ', EnvOk G w H sl' σ' s → Chg t.slots σ σ' → Q σ' H
  | none => False
theorem pg_or {e : Expr} {t t' : TG} (h : PG X e t) (h' : PG X e t') : PG X e (fun v σ H Q => t v σ H Q ∨ t' v σ H Q) := ⟨fun pins s σ H v u Q I r q => q.elim (h.run pins s σ H v u Q I r) (h'.run pins s σ H v u Q I r)⟩
theorem pg_slotX {i : Nat} {x : Str} {p : Pos} (hN : X.N.Nodup) (hi : X.N[i]? = some x) (hl : Loc X.env.scope x) (hf : X.fn x = true ∨ X.env.scope.names.lookup x = some .local) : PG X (.Name x p) (tG G (.slot i)) :=
  pg_mono (pg_name hN hi hl hf) fun v σ H Q ⟨w, sl, s, d, k, r, h⟩ => by
    simp only [asgTg, slotOf, Option.bind_some, setSl] at h
    by_cases hlt : i < sl.length
    · rw [if_pos hlt] at h
      exact h _ (k.setI r hlt) (Chg.set (by simp [Tg.slots]))
    · rw [if_neg hlt] at h
      exact h.elim
theorem pg_tupX {is : List Nat} {es : List Expr} {k1 : Nat} {p : Pos} (hc : X.calm = true) (hK : X.K = G.K) (hN : X.N.Nodup) (ht : TgN X is es) (hn : (assignEach es X.env).length = is.length) (hst : (assignEach es X.env).findIdx? (·.1) = none) :
    PG X (.Tuple es k1 p) (tG G (.tup is)) := by
  refine pg_mono (pg_or (pg_tup hc (pgs_ds (G := G) (all := is) hN ht) hn hst) (pg_lst hc (pgs_ds (G := G) (all := is) hN ht) hn hst)) fun v σ H Q ⟨w, sl, s, d, k, r, h⟩ => ?_
  have len : ∀ {sl sl' : List L} {is : List Nat} {ds : List D}, asgTups sl is ds = some sl' → ds.length = is.length := by
    intro sl sl' is
    induction is generalizing sl with
    | nil => intro ds e; cases ds with
      | nil => rfl
      | cons => cases e
    | cons i is ih => intro ds e; cases ds with
      | nil => cases e
      | cons d ds =>
        simp only [asgTups] at e
        obtain ⟨sl1, _, e2⟩ := Option.bind_eq_some_iff.mp e
        exact congrArg Nat.succ (ih e2)
  have r' := cur_of (G := G) (w := w) (H := H) (s := s) (H0 := H) (r := .imm d) (v := v) r k.st
  simp only [asgTg] at h
  rw [hK]
  cases hs : snap s (.imm d) with
  | tup ds =>
    rw [hs] at h r'
    dsimp only at h
    cases e : asgTups sl is ds with
    | none => rw [e] at h; exact h.elim
    | some sl' =>
      cases r' with
      | @tup b xs _ hq hr =>
      refine .inl ⟨b, xs, rfl, hq, by rw [← hr.len]; exact len e, w, sl, s, ds, k, hr, fun _ h => h, h⟩
  | lst ds =>
    rw [hs] at h r'
    dsimp only at h
    cases e : asgTups sl is ds with
    | none => rw [e] at h; exact h.elim
    | some sl' =>
      obtain ⟨b, xs, rfl, hq, hr⟩ := r'
      exact .inr ⟨b, xs, rfl, hq, by rw [← hr.len]; exact len e, w, sl, s, ds, k, hr, fun _ h => h, h⟩
  | _ => rw [hs] at h; exact h.elim
/-! ### wiped slots -/
theorem wipe_at {σ : L2.St} : ∀ {vs : List Nat} {j : Nat}, j ∉ vs → (wipe σ vs)[j]? = σ[j]?
  | [], _, _ => rfl
  | v :: vs, j, h => by
    simp only [List.mem_cons, not_or] at h
    unfold wipe
    rw [List.getElem?_set_ne (fun e => h.1 e.symm)]
    exact wipe_at h.2
theorem wipe_in {σ : L2.St} : ∀ {vs : List Nat} {j : Nat}, j ∈ vs → (wipe σ vs)[j]? = σ[j]?.map fun _ => none
  | v :: vs, j, h => by
    unfold wipe
    by_cases e : v = j
    · subst e
      by_cases hl : v < (wipe σ vs).length
      · rw [List.getElem?_set_self hl]
        rw [wipe_length] at hl
        rw [List.getElem?_eq_getElem hl] <;> rfl
      · rw [List.getElem?_eq_none (by simpa using hl)]
        rw [wipe_length] at hl
        rw [List.getElem?_eq_none (by simpa using hl)] <;> rfl
    · rw [List.getElem?_set_ne e]
      have h' : j ∈ vs := by
        rcases List.mem_cons.mp h with z | z
        · exact absurd z.symm e
        · exact z
      exact wipe_in h'
theorem wipeL_len {sl : List L} : ∀ vs : List Nat, (wipeL sl vs).length = sl.length
  | [] => rfl
  | v :: vs => by unfold wipeL; rw [List.length_set, wipeL_len vs]
theorem wipeL_some {sl : List L} {j : Nat} {l : L} (hl : l ≠ .un) : ∀ {vs : List Nat}, (wipeL sl vs)[j]? = some l → sl[j]? = some l ∧ j ∉ vs
  | [], h => ⟨h, by simp⟩
  | v :: vs, h => by
    unfold wipeL at h
    by_cases e : v = j
    · subst e
      by_cases hv : v < (wipeL sl vs).length
      · rw [List.getElem?_set_self hv] at h; cases h; exact absurd rfl hl
      · rw [List.getElem?_eq_none (by simpa using hv)] at h; cases h
    · rw [List.getElem?_set_ne e] at h
      obtain ⟨h1, h2⟩ := wipeL_some hl h
      exact ⟨h1, by simp only [List.mem_cons, not_or]; exact ⟨fun z => e z.symm, h2⟩⟩
theorem EnvOk.wipe (k : EnvOk G w H sl σ s) (vs : List Nat) : EnvOk G w H (wipeL sl vs) (L2.wipe σ vs) s where
  st := k.st
  len := by rw [wipeL_len, wipe_length]; exact k.len
  imm := fun j d h => by
    obtain ⟨h1, h2⟩ := wipeL_some (by intro z; cases z) h
    rw [wipe_at h2]
    exact k.imm j d h1
  own := fun j o h => by
    obtain ⟨h1, h2⟩ := wipeL_some (by intro z; cases z) h
    rw [wipe_at h2]
    exact k.own j o h1
  dist := fun i j o u b h1 h2 h3 h4 => by
    obtain ⟨g1, g2⟩ := wipeL_some (by intro z; cases z) h1
    obtain ⟨g3, g4⟩ := wipeL_some (by intro z; cases z) h2
    rw [wipe_at g2] at h3
    rw [wipe_at g4] at h4
    exact k.dist i j o u b g1 g3 h3 h4
theorem wipe_chg {is vs : List Nat} (h : Chg is (wipe σ vs) σ') (hs : ∀ i, i ∈ is → i ∈ vs) : wipe σ' vs = wipe σ vs := by
  apply List.ext_getElem?
  intro j
  by_cases hj : j ∈ vs
  · rw [wipe_in hj, wipe_in hj]
    have hl : σ'.length = σ.length := by rw [h.1, wipe_length]
    by_cases hlt : j < σ.length
    · rw [List.getElem?_eq_getElem hlt, List.getElem?_eq_getElem (by rw [hl]; exact hlt)] <;> rfl
    · rw [List.getElem?_eq_none (Nat.le_of_not_lt hlt), List.getElem?_eq_none (by rw [hl]; exact Nat.le_of_not_lt hlt)]
  · rw [wipe_at hj, wipe_at hj, h.2 j (fun z => hj (hs j z)), wipe_at hj]
/-! ### a test by its value -/
theorem ts_of_ev : ∀ {e : E} {s : St} {r : Rx.R Bool}, (evE cf sl e s).bind testR = r → (r ≠ .bad) → tsE cf sl e s = r
  | .and_ a b, s, r, h, hb => by
    rw [evE] at h
    rw [tsE]
    cases ea : evE cf sl a s with
    | bad => rw [ea] at h; exact absurd h.symm hb
    | exc x s1 =>
      rw [ea] at h
      have := ts_of_ev (e := a) (s := s) (r := .exc x s1) (by rw [ea]; rfl) (by intro z; cases z)
      rw [this]
      exact h
    | ok va s1 =>
      rw [ea] at h
      simp only [Rx.R.bind] at h
      split at h
      · rename_i e2
        split at e2
        · have := ts_of_ev (e := a) (s := s) (r := .ok true s1) (by rw [ea]; rfl) (by intro z; cases z)
          rw [this]
          simp only [Rx.R.bind, if_true]
          exact ts_of_ev (by rw [e2]; exact h) hb
        · have := ts_of_ev (e := a) (s := s) (r := .ok false s1) (by rw [ea]; rfl) (by intro z; cases z)
          rw [this]
          cases e2
          exact h
        · cases e2
      · rename_i e2
        split at e2
        · have := ts_of_ev (e := a) (s := s) (r := .ok true s1) (by rw [ea]; rfl) (by intro z; cases z)
          rw [this]
          simp only [Rx.R.bind, if_true]
          exact ts_of_ev (by rw [e2]; exact h) hb
        · cases e2
        · cases e2
      · exact absurd h.symm hb
  | .or_ a b, s, r, h, hb => by
    rw [evE] at h
    rw [tsE]
    cases ea : evE cf sl a s with
    | bad => rw [ea] at h; exact absurd h.symm hb
    | exc x s1 =>
      rw [ea] at h
      have := ts_of_ev (e := a) (s := s) (r := .exc x s1) (by rw [ea]; rfl) (by intro z; cases z)
      rw [this]
      exact h
    | ok va s1 =>
      rw [ea] at h
      simp only [Rx.R.bind] at h
      split at h
      · rename_i e2
        split at e2
        · have := ts_of_ev (e := a) (s := s) (r := .ok false s1) (by rw [ea]; rfl) (by intro z; cases z)
          rw [this]
          simp only [Rx.R.bind, Bool.false_eq_true, if_false]
          exact ts_of_ev (by rw [e2]; exact h) hb
        · have := ts_of_ev (e := a) (s := s) (r := .ok true s1) (by rw [ea]; rfl) (by intro z; cases z)
          rw [this]
          cases e2
          exact h
        · cases e2
      · rename_i e2
        split at e2
        · have := ts_of_ev (e := a) (s := s) (r := .ok false s1) (by rw [ea]; rfl) (by intro z; cases z)
          rw [this]
          simp only [Rx.R.bind, Bool.false_eq_true, if_false]
          exact ts_of_ev (by rw [e2]; exact h) hb
        · cases e2
        · cases e2
      · exact absurd h.symm hb
  | .not_ a, s, r, h, hb => by
    rw [evE] at h
    rw [tsE]
    cases ea : evE cf sl a s with
    | bad => rw [ea] at h; exact absurd h.symm hb
    | exc x s1 =>
      rw [ea] at h
      have := ts_of_ev (e := a) (s := s) (r := .exc x s1) (by rw [ea]; rfl) (by intro z; cases z)
      rw [this]
      exact h
    | ok va s1 =>
      rw [ea] at h
      simp only [Rx.R.bind] at h
      cases ht : truth (snap s1 va) with
      | none =>
        simp only [testR, ht] at h
        exact absurd h.symm hb
      | some k =>
        have := ts_of_ev (e := a) (s := s) (r := .ok k s1) (by rw [ea]; simp only [Rx.R.bind, testR, ht]) (by intro z; cases z)
        rw [this]
        simp only [testR, ht] at h
        simp only [Rx.R.bind, testR, snap, truth] at h
        exact h
  | .slot i, s, r, h, hb => by rw [tsE_plain rfl]; exact h
  | .cst d, s, r, h, hb => by rw [tsE_plain rfl]; exact h
  | .glob x d, s, r, h, hb => by rw [tsE_plain rfl]; exact h
  | .prim p as, s, r, h, hb => by rw [tsE_plain rfl]; exact h
  | .ite a b c, s, r, h, hb => by rw [tsE_plain rfl]; exact h
  | .chain p q a b c, s, r, h, hb => by rw [tsE_plain rfl]; exact h
  | .call f as, s, r, h, hb => by rw [tsE_plain rfl]; exact h
  | .tup as, s, r, h, hb => by rw [tsE_plain rfl]; exact h
  | .lst as, s, r, h, hb => by rw [tsE_plain rfl]; exact h
  | .frz e, s, r, h, hb => by rw [tsE_plain rfl]; exact h
  | .share e, s, r, h, hb => by rw [tsE_plain rfl]; exact h
  | .comp e t own it c, s, r, h, hb => by rw [tsE_plain rfl]; exact h
  | .dct ks as, s, r, h, hb => by rw [tsE_plain rfl]; exact h
/-! ### comprehensions -/
def NoW : WX := fun _ _ _ _ => False
/-- a block's tests -/
theorem pts_ifs {ifs : List Expr} {c : E} (h : (ifs = [] ∧ c = .cst (.bl true)) ∨ ∃ x, ifs = [x] ∧ PT X x (tB' G W0 cf c)) : PTs X ifs (tB' G W0 cf c) := by
  rcases h with ⟨rfl, rfl⟩ | ⟨x, rfl, h⟩
  · refine ⟨fun pins s σ H Q I hw => ?_⟩
    refine pts_nil.run pins s σ H Q I ?_
    obtain ⟨w, sl, s1, k, hw⟩ := hw
    unfold testE at hw
    rw [tsE_plain rfl, evE] at hw
    exact hw w H (.refl k.st) k.st
  · exact pts_one h
theorem comp_tLc {e c : E} {t : Tg} {it : It} {vs0 : List Nat} (hts : ∀ i, i ∈ t.slots → i ∈ vs0) (h0 : tE G W0 cf (.comp e t vs0 it c) σ H Q) : tLc (tI G W0 cf it) (tG G t) (tB' G NoW cf c) (tE G NoW cf e) vs0 σ H Q := by
  obtain ⟨w, sl, s, k, h⟩ := h0
  refine ⟨w, sl, s, k, ?_⟩
  rw [evE] at h
  cases ei : evIt cf sl it s with
  | bad => rw [ei] at h; exact h
  | exc x s1 => rw [ei] at h; exact h
  | ok ds s1 =>
    rw [ei] at h
    intro i w1 H1 p1 k1 wk
    have h : PostV G W0 σ w H s (compL (compF cf sl (vs0) t c e) ds [] s1) Q := h
    have e1 := k.stp p1 k1
    intro D hD
    refine ⟨fun j m H2 => m = ds.length - j ∧ j ≤ ds.length ∧ ∃ w2 s2 acc vs, Stp w1 H1 s1 w2 H2 s2 ∧ StOk G w2 H2 s2 ∧ H2 D = some (.lst vs) ∧ RepDs G w2 H2 acc vs ∧ ¬ w2.Z D ∧ Off w2 s2 D ∧ PostV G W0 σ w H s (compL (compF cf sl (vs0) t c e) (ds.drop j) acc s2) Q, ⟨ds.length, by simp, Nat.zero_le _, w1, s1, [], [], (Stp.refl k1).new hD, k1.wr (Wr.none hD) (k1.nz_new hD) (k1.off_new hD), upd_same, .nil, k1.nz_new hD, k1.off_new hD, ?_⟩, ?_⟩
    · rw [List.drop_zero]; exact h
    · rintro j m H2 ⟨rfl, hj, w2, s2, acc, vs, p2, k2, hDv, ra, hz, ho, hp⟩
      have wk2 := wk.rst e1 p2.r
      rcases Nat.lt_or_ge j ds.length with hlt | hge
      · obtain ⟨g1, g2⟩ := wk2.go hlt
        refine .inr ⟨g1, _, fun H' q => ⟨ds.length - (j + 1), by omega, q⟩, fun x H' y => ?_⟩
        obtain ⟨rfl, d, hd, hr⟩ := g2 x H' y
        have e2 := (e1.stp p2 k2).wipe (vs0)
        have hdr : ds.drop j = d :: ds.drop (j + 1) := by
          have := List.getElem?_eq_some_iff.mp hd
          obtain ⟨h1, h2⟩ := this
          rw [List.drop_eq_getElem_cons h1, h2]
        rw [hdr, compL, compF] at hp
        refine ⟨w2, _, s2, d, e2, hr, ?_⟩
        cases ea : asgTg (wipeL sl (vs0)) s2 t (.imm d) with
        | none => simp only [ea] at hp; exact hp.elim
        | some sl' =>
          simp only [ea] at hp
          intro σ' k' c'
          refine ⟨wipe_chg c' hts, w2, sl', s2, k', ?_⟩
          cases ec : evE cf sl' c s2 with
          | bad => simp only [ec, Rx.R.bind] at hp; exact hp.elim
          | exc x s3 => simp only [ec, Rx.R.bind] at hp; exact hp.elim
          | ok rc s3 =>
            simp only [ec, Rx.R.bind] at hp
            cases eb : testR rc s3 with
            | bad => simp only [eb] at hp; exact hp.elim
            | exc x s3 => simp only [eb] at hp; exact hp.elim
            | ok b s4 =>
              simp only [eb] at hp
              have et : testE cf c sl' s2 = .ok b s4 := ts_of_ev (by rw [ec]; exact eb) (by intro z; cases z)
              rw [et]
              intro w3 H3 p3 k3
              have k3' := k'.stp p3 k3
              cases b with
              | false =>
                simp only [Bool.false_eq_true, if_false] at hp ⊢
                exact ⟨trivial, hlt, w3, s4, acc, vs, p2.trans p3, k3, p3.keep _ _ hDv ho, ra.stp k2 p3, p3.nz hDv hz, p3.off hDv ho, hp⟩
              | true =>
                simp only [if_true] at hp ⊢
                refine ⟨w3, sl', s4, k3', ?_⟩
                cases ee : evE cf sl' e s4 with
                | bad => simp only [ee] at hp; exact hp.elim
                | exc x s3 => simp only [ee] at hp; exact hp.elim
                | ok re s5 =>
                  simp only [ee] at hp
                  intro y w4 H4 p4 k4 r4
                  cases re with
                  | imm de =>
                    dsimp only at hp
                    by_cases hl : acc.length < LIM
                    · rw [if_pos hl] at hp
                      have p34 := p3.trans p4
                      have ra4 := ra.stp k2 p34
                      have hD4 := p34.keep _ _ hDv ho
                      have hz4 := p34.nz hDv hz
                      have ho4 := p34.off hDv ho
                      have wr4 : Wr H4 D := ⟨fun _ z => (by rw [hD4] at z; cases z), fun _ _ z => (by rw [hD4] at z; cases z)⟩
                      refine ⟨vs, hD4, by rw [← ra4.len, sizeLine_eq]; exact hl, trivial, hlt, w4, s5, acc ++ [de], vs ++ [y], (p2.trans p34).new hD, k4.wr wr4 hz4 ho4, upd_same, (ra4.app (.cons r4 .nil)).wr wr4 hz4, hz4, ho4, hp⟩
                    · rw [if_neg hl] at hp
                      exact hp.elim
                  | _ => exact hp.elim
      · have hp' := hp
        rw [List.drop_eq_nil_of_le hge, compL] at hp'
        exact .inl ⟨wk2.stop hge, hp' _ w2 H2 (p1.trans p2) k2 ⟨D, rfl, ⟨vs, hDv, ra⟩, hz, ho, rfl, p1.back_none hD⟩⟩
theorem pe_compX {x tg iter : Expr} {ifs : List Expr} {scope : Scope} {own : List (Str × Nat)} {e c : E} {t : Tg} {it : It} (hc : X.calm = true) (hN : X.N.Nodup) (hi : PI X tg iter (tI G W0 cf it)) (ok : BlkOk X.N X.env.scope scope own)
    (hg : ∀ (s : Shared) (H : Hp) (C : Addr) (cl : List (Str × Addr)) (fp : List Addr), PG (X.blk s H scope (compEnvC scope cl C X.env) fp) tg (tG G t))
    (ht : ∀ (s : Shared) (H : Hp) (C : Addr) (cl : List (Str × Addr)) (fp : List Addr), PTs (X.blk s H scope (compEnvC scope cl C X.env) fp) ifs (tB' G NoW cf c))
    (he : ∀ (s : Shared) (H : Hp) (C : Addr) (cl : List (Str × Addr)) (fp : List Addr), PE (X.blk s H scope (compEnvC scope cl C X.env) fp) x (tE G NoW cf e))
    (hts : ∀ i, i ∈ t.slots → i ∈ own.map (·.2)) (hs : ∀ y, foldedSetIterable iter X.env y = pure y) :
    PE X (.ListComp x [⟨tg, iter, ifs, 0⟩] scope pos) (tE G W0 cf (.comp e t (own.map (·.2)) it c)) := by
  exact pe_mono (pe_lc hc hN hi ok hg ht he hs) fun σ H Q h => comp_tLc hts h
/-! ### displays of dicts -/
theorem mergeK_new : ∀ {kvs acc : List (L2.Key × V)}, ((acc ++ kvs).map (·.1)).Nodup → mergeK acc kvs = acc ++ kvs
  | [], acc, _ => by rw [List.append_nil]; rfl
  | q :: kvs, acc, h => by
    have e : putK acc q.1 q.2 = acc ++ [q] := by
      unfold putK
      rw [if_neg]
      intro z
      obtain ⟨x, hx, e⟩ := List.any_eq_true.mp z
      have e := of_decide_eq_true e
      rw [List.map_append, List.nodup_append] at h
      exact h.2.2 x.1 (List.mem_map.mpr ⟨x, hx, rfl⟩) q.1 (List.mem_map.mpr ⟨q, List.mem_cons_self, rfl⟩) e
    show mergeK (putK acc q.1 q.2) kvs = _
    rw [e, mergeK_new (by rw [List.append_assoc]; exact h), List.append_assoc]
    rfl
def trsOf (G : GC) (W0 : WX) (cf : CF) : List L2.Key → Es → List (TE × TE)
  | y :: ys, .cons e es => (tC (kV y), tE G W0 cf e) :: trsOf G W0 cf ys es
  | _, _ => []
theorem pairs_ok : ∀ {ys : List L2.Key} {as : Es} {w : W} {H : Hp} {s : St} {Q : List (V × V) → Hp → Prop}, ys.length = as.len → EnvOk G w H sl σ s → PostVs G W0 σ w H s (evEs cf sl as s) (fun us H' => Q ((ys.map kV).zip us) H') → tPairs (trsOf G W0 cf ys as) σ H Q
  | [], .nil, w, H, s, Q, _, k, h => by
    rw [evEs] at h
    exact h [] w H (.refl k.st) k.st .nil
  | y :: ys, .cons e es, w, H, s, Q, hl, k, h => by
    show tE G W0 cf e σ H _
    refine tE_then k ?_
    rw [evEs] at h
    cases ea : evE cf sl e s with
    | bad => rw [ea] at h; exact h
    | exc x s1 => rw [ea] at h; exact h
    | ok va s1 =>
      rw [ea] at h
      intro u w1 H1 p1 k1 r1
      refine pairs_ok (ys := ys) (as := es) (Nat.succ.inj hl) k1 ?_
      simp only [Rx.R.bind] at h
      cases eb : evEs cf sl es s1 with
      | bad => rw [eb] at h; exact h
      | exc x s2 => rw [eb] at h; exact fun c d w2 H2 p2 k2 rx => h c d w2 H2 (p1.trans p2) k2 rx
      | ok rs s2 =>
        rw [eb] at h
        exact fun us w2 H2 p2 k2 r2 => h (u :: us) w2 H2 (p1.trans p2) k2 (.cons (r1.stp k1.st p2) (r2.back p1))
theorem zip_rep {w : W} {H : Hp} : ∀ {ks : List D} {ys : List L2.Key} {ds : List D} {vs : List V}, ks.map keyD = ys.map some → RepDs G w H ds vs → ks.length = ds.length → RepK G w H (ks.zip ds) (ys.zip vs)
  | [], [], _, _, _, _, _ => .nil
  | k :: ks, y :: ys, _, _, h, .cons hd hr, hl => by
    simp only [List.map_cons, List.cons.injEq] at h
    exact .cons h.1 hd (zip_rep h.2 hr (Nat.succ.inj hl))
  | _ :: _, _ :: _, _, _, _, .nil, hl => by cases hl
theorem pe_dctX {keys : List (Option Expr)} {values : List Expr} {ks : List D} {ys : List L2.Key} {as : Es} (hk : ks.map keyD = ys.map some) (hn : ys.Nodup) (hp : PPs X pos keys values (trsOf G W0 cf ys as)) (hall : keys.all (·.isSome) = true) (hl : keys.length = values.length) (h0 : keys ≠ []) (h15 : keys.length ≤ 15) (hys : ys.length = as.len) (h15' : ys.length ≤ 15) :
    PE X (.Dict keys values pos) (tE G W0 cf (.dct ks as)) := by
  refine pe_mono (pe_disp hp hall hl h0 h15) fun σ H Q ⟨w, sl, s, k, h⟩ p hp0 => ?_
  have pn : Stp w H s w (upd H p (.dK [])) s := (Stp.refl k.st).new hp0
  have k1 := k.stp pn (k.st.wr (Wr.none hp0) (k.st.nz_new hp0) (k.st.off_new hp0))
  refine pairs_ok hys k1 ?_
  rw [evE] at h
  cases ea : evEs cf sl as s with
  | bad => rw [ea] at h; exact h
  | exc x s1 => rw [ea] at h; exact fun c d w2 H2 p2 k2 rx => h c d w2 H2 (pn.trans p2) k2 rx
  | ok rs s1 =>
    rw [ea] at h
    intro us w2 H2 p2 k2 r2
    simp only [Rx.R.bind] at h
    cases hi : immsOf rs with
    | none => rw [hi] at h; exact h.elim
    | some ds =>
      rw [hi] at h
      have r3 := imms_ok r2 hi
      have hks : ks.length = ys.length := by have := congrArg List.length hk; simpa using this
      have hds : ds.length = as.len := by rw [imms_len hi, evEs_len ea]
      have hus : us.length = ys.length := by rw [← r3.len, hds, hys]
      have o0 : Off w s p := k.st.off_new hp0
      have e2 := p2.keep p _ upd_same o0
      have nz := p2.nz (u := .dK []) upd_same (k.st.nz_new hp0)
      have off := p2.off (o := .dK []) upd_same o0
      have wr : Wr H2 p := ⟨fun _ z => (by rw [e2] at z; cases z), fun _ _ z => (by rw [e2] at z; cases z)⟩
      refine ⟨e2, ys.zip us, ?_, ?_, ?_⟩
      · rw [List.zip_map_left]
        apply List.map_congr_left
        intro q _
        rfl
      · rw [List.length_zip]; omega
      · have em : mergeK [] (ys.zip us) = ys.zip us := by
          rw [mergeK_new]
          · rfl
          · show ((ys.zip us).map (·.1)).Nodup
            rw [List.map_fst_zip (by omega)]
            exact hn
        rw [em]
        refine h _ w2 _ ((pn.trans p2).new hp0) (k2.wr wr nz off) ⟨p, rfl, ⟨_, upd_same, (zip_rep hk r3 (by omega)).wr wr nz⟩, nz, off, rfl, hp0⟩
theorem pe_dct0X : PE X (.Dict [] [] pos) (tE G W0 cf (.dct [] .nil)) := pe_mono pe_dnewK fun σ H Q ⟨w, sl, s, k, h⟩ p hp => by
  rw [evE, evEs] at h
  exact h _ w _ ((Stp.refl k.st).new hp) (k.st.wr (Wr.none hp) (k.st.nz_new hp) (k.st.off_new hp)) ⟨p, rfl, ⟨[], upd_same, .nil⟩, k.st.nz_new hp, k.st.off_new hp, rfl, hp⟩
end
end Rx
/-! Rx9: statements. -/
namespace Rx
open PySem L2
section
variable {G : GC} {X : Cx} {W0 : WX} {cf : CF} {w w' w2 : W} {H H' H2 H0 : Hp} {s s' s2 : St} {sl sl' sl2 : List L} {σ σ' σ2 : L2.St} {Q : VK} {pos : Pos} {a : Addr} {D : Ends}
theorem own_nil : ¬ Own [] [] a := fun ⟨i, o, h, _⟩ => by simp at h
theorem RStp.same (k : StOk G w H s) (own : ∀ a, Own sl' σ' a → Own sl σ a ∨ H a = none) : RStp sl σ w H s sl' σ' w H s :=
  ⟨fun _ _ h _ _ => h, fun _ h => h, fun _ h => .inl h, Nat.le_refl _, fun _ _ => rfl, fun n o h => .inl ⟨k.lt n o h, o, h⟩, fun _ o h => ⟨o, h⟩, own⟩
theorem RStp.fin (p : RStp sl σ w H s sl' σ' w' H' s') : RStp sl σ w H s [] [] w' H' s' :=
  ⟨p.keep, p.zk, p.zn, p.nx, p.gk, p.live, p.there, fun _ h => absurd h own_nil⟩
/-- a returned value: an object of nobody else -/
def RepT (G : GC) (w : W) (H : Hp) (s : St) (P : Addr → Prop) : RV → V → Prop
  | .imm d, v => RepD G w H d v
  | .own o, v => ∃ a, v = .ref a ∧ RepO G w H o a ∧ ¬ w.Z a ∧ Off w s a ∧ o.coll = true ∧ P a
  | .peek _, _ => False
/-- what a statement's outcome asks -/
def PostF (G : GC) (X : WX) (sl : List L) (σ : L2.St) (w : W) (H : Hp) (s : St) (r : F) (D : Ends) : Prop := match r with
  | .nx sl' s' => ∀ σ' w' H', RStp sl σ w H s sl' σ' w' H' s' → EnvOk G w' H' sl' σ' s' → D.nx σ' H'
  | .brk sl' s' => ∀ σ' w' H', RStp sl σ w H s sl' σ' w' H' s' → EnvOk G w' H' sl' σ' s' → D.bk σ' H'
  | .cnt sl' s' => ∀ σ' w' H', RStp sl σ w H s sl' σ' w' H' s' → EnvOk G w' H' sl' σ' s' → D.ct σ' H'
  | .ret v s' => ∀ u w' H', RStp sl σ w H s [] [] w' H' s' → StOk G w' H' s' → RepT G w' H' s' (fun a => Own sl σ a ∨ H a = none) v u → D.rt u H'
  | .exc x sl' s' => ∀ c d σ' w' H', RStp sl σ w H s sl' σ' w' H' s' → EnvOk G w' H' sl' σ' s' → RepX G w' H' x c d → X c d σ' H'
  | .bad => False
theorem PostF.late {r : F} (h : PostF G W0 sl σ w H s r D) (p : RStp sl σ w H s sl' σ' w' H' s') : PostF G W0 sl' σ' w' H' s' r D := by
  cases r with
  | nx sl2 s2 => exact fun σ2 w2 H2 q k => h σ2 w2 H2 (p.trans q) k
  | brk sl2 s2 => exact fun σ2 w2 H2 q k => h σ2 w2 H2 (p.trans q) k
  | cnt sl2 s2 => exact fun σ2 w2 H2 q k => h σ2 w2 H2 (p.trans q) k
  | exc x sl2 s2 => exact fun c d σ2 w2 H2 q k => h c d σ2 w2 H2 (p.trans q) k
  | bad => exact h
  | ret v s2 =>
    intro u w2 H2 q k r
    refine h u w2 H2 (p.trans q) k ?_
    cases v with
    | imm d => exact r
    | peek o => exact r
    | own o =>
      obtain ⟨a, h1, h2, h3, h4, h5, h6⟩ := r
      refine ⟨a, h1, h2, h3, h4, h5, ?_⟩
      rcases h6 with y | y
      · exact p.own a y
      · refine .inr ?_
        cases e : H a with
        | none => rfl
        | some o =>
          obtain ⟨u, hu⟩ := p.there a o e
          rw [hu] at y
          cases y
def tS (G : GC) (X : WX) (cf : CF) (a : Sm) : TS := fun D σ H => ∃ w sl s, EnvOk G w H sl σ s ∧ PostF G X sl σ w H s (exS cf a sl s) D
def tSs (G : GC) (X : WX) (cf : CF) (a : Ss) : TS := fun D σ H => ∃ w sl s, EnvOk G w H sl σ s ∧ PostF G X sl σ w H s (exSs cf a sl s) D
/-- an expression within a statement -/
theorem bindS {e : E} {f : RV → St → F} {Q' : VK} (k : EnvOk G w H sl σ s) (h : PostF G W0 sl σ w H s ((evE cf sl e s).st sl f) D)
    (hQ : ∀ v s1 u w1 H1, Stp w H s w1 H1 s1 → EnvOk G w1 H1 sl σ s1 → RepR G w1 H1 s1 H v u → PostF G W0 sl σ w H s (f v s1) D → Q' u H1) : tE G W0 cf e σ H Q' := by
  refine tE_then k ?_
  cases ea : evE cf sl e s with
  | bad => rw [ea] at h; exact h
  | exc x s1 => rw [ea] at h; exact fun c d w1 H1 p1 k1 rx => h c d σ w1 H1 p1.r (k.stp p1 k1) rx
  | ok va s1 =>
    rw [ea] at h
    intro u w1 H1 p1 k1 r1
    exact hQ va s1 u w1 H1 p1 k1 r1 h
theorem bindSs {e : Es} {f : List RV → St → F} {Q' : List V → Hp → Prop} (k : EnvOk G w H sl σ s) (h : PostF G W0 sl σ w H s ((evEs cf sl e s).st sl f) D)
    (hQ : ∀ v s1 u w1 H1, Stp w H s w1 H1 s1 → EnvOk G w1 H1 sl σ s1 → RepRs G w1 H1 s1 H v u → PostF G W0 sl σ w H s (f v s1) D → Q' u H1) : tEs G W0 cf e σ H Q' := by
  refine ⟨w, sl, s, k, ?_⟩
  cases ea : evEs cf sl e s with
  | bad => rw [ea] at h; exact h
  | exc x s1 => rw [ea] at h; exact fun c d w1 H1 p1 k1 rx => h c d σ w1 H1 p1.r (k.stp p1 k1) rx
  | ok va s1 =>
    rw [ea] at h
    intro u w1 H1 p1 k1 r1
    exact hQ va s1 u w1 H1 p1 (k.stp p1 k1) r1 h
theorem bindSb {e : E} {f : Bool → St → F} {Q' : Bool → Hp → Prop} (k : EnvOk G w H sl σ s) (h : PostF G W0 sl σ w H s ((testE cf e sl s).st sl f) D)
    (hQ : ∀ v s1 w1 H1, Stp w H s w1 H1 s1 → EnvOk G w1 H1 sl σ s1 → PostF G W0 sl σ w H s (f v s1) D → Q' v H1) : tB' G W0 cf e σ H Q' := by
  refine ⟨w, sl, s, k, ?_⟩
  cases ea : testE cf e sl s with
  | bad => rw [ea] at h; exact h
  | exc x s1 => rw [ea] at h; exact fun c d w1 H1 p1 k1 rx => h c d σ w1 H1 p1.r (k.stp p1 k1) rx
  | ok va s1 =>
    rw [ea] at h
    intro w1 H1 p1 k1
    exact hQ va s1 w1 H1 p1 (k.stp p1 k1) h
theorem tSs_of {a : Ss} (k : EnvOk G w H sl σ s) (h : PostF G W0 sl σ w H s (exSs cf a sl s) D) : tSs G W0 cf a D σ H := ⟨w, sl, s, k, h⟩
/-! ### small statements -/
theorem ps_passX {st : Stmt} (h : PS X st tNext) : PS X st (tS G W0 cf .pass) := ps_mono h fun D σ H ⟨w, sl, s, k, h⟩ => by
  rw [exS] at h
  exact h σ w H (.same k.st fun _ h => .inl h) k
theorem ps_brkX : PS X (.Break pos) (tS G W0 cf .brk) := ps_mono ps_break fun D σ H ⟨w, sl, s, k, h⟩ => by
  rw [exS] at h
  exact h σ w H (.same k.st fun _ h => .inl h) k
theorem ps_cntX : PS X (.Continue pos) (tS G W0 cf .cnt) := ps_mono ps_continue fun D σ H ⟨w, sl, s, k, h⟩ => by
  rw [exS] at h
  exact h σ w H (.same k.st fun _ h => .inl h) k
theorem ps_exprX {x : Expr} {e : E} (he : PE X x (tE G W0 cf e)) (hs : swapsWith x none pos.line X.env = pure false) : PS X (.Expr x pos) (tS G W0 cf (.expr e)) :=
  ps_mono (ps_expr he hs) fun D σ H ⟨w, sl, s, k, h⟩ => by
    rw [exS] at h
    exact bindS k h fun v s1 u w1 H1 p1 k1 r1 h1 => h1 σ w1 H1 p1.r k1
theorem ps_retX {x : Expr} {e : E} (he : PE X x (tE G W0 cf e)) : PS X (.Return (some x) pos) (tS G W0 cf (.ret e)) :=
  ps_mono (ps_ret he) fun D σ H ⟨w, sl, s, k, h⟩ => by
    rw [exS] at h
    refine bindS k h fun v s1 u w1 H1 p1 k1 r1 h1 => ?_
    cases v with
    | imm d => exact h1 u w1 H1 p1.r.fin k1.st r1
    | peek o => exact h1.elim
    | own o =>
      obtain ⟨a, g1, g2, g3, g4, g5, g6⟩ := r1
      exact h1 u w1 H1 p1.r.fin k1.st ⟨a, g1, g2, g3, g4, g5, .inr g6⟩
theorem ps_retNX : PS X (.Return none pos) (tS G W0 cf (.ret (.cst .non))) := ps_mono ps_retN fun D σ H ⟨w, sl, s, k, h⟩ => by
  rw [exS, evE] at h
  exact h .non w H (RStp.same k.st fun _ h => .inl h).fin k.st .non
/-- a slot's own object, handed out -/
theorem ps_retOwnX {x : Expr} {i : Nat} (he : PE X x (tVar i)) : PS X (.Return (some x) pos) (tS G W0 cf (.retOwn i)) :=
  ps_mono (ps_ret he) fun D σ H ⟨w, sl, s, k, h⟩ => by
    rw [exS] at h
    have q : RStp sl σ w H s [] [] w H s := (RStp.same k.st fun _ h => .inl h).fin
    split at h
    · rename_i o e
      obtain ⟨a, h1, h2, h3, h4, h5⟩ := k.own i o e
      exact ⟨_, h1, h _ w H q k.st ⟨a, rfl, h2, h3, h4, h5, .inl ⟨i, o, e, h1⟩⟩⟩
    · rename_i d e
      obtain ⟨v, h1, h2⟩ := k.imm i d e
      exact ⟨v, h1, h v w H q k.st h2⟩
    · exact h.elim
/-! ### stores -/
theorem setSl_own {i j : Nat} {o : O} {d : Rx.D} (e : setSl sl i (.imm d) = some sl') (h : sl'[j]? = some (.own o)) : sl[j]? = some (.own o) ∧ j ≠ i := by
  unfold setSl at e
  split at e
  · rename_i hi
    cases e
    by_cases c : i = j
    · subst c; rw [List.getElem?_set_self hi] at h; cases h
    · rw [List.getElem?_set_ne c] at h; exact ⟨h, fun z => c z.symm⟩
  · cases e
theorem asgTups_own : ∀ {is : List Nat} {ds : List Rx.D} {sl sl' : List L} {j : Nat} {o : O}, asgTups sl is ds = some sl' → sl'[j]? = some (.own o) → sl[j]? = some (.own o) ∧ j ∉ is
  | [], [], _, _, _, _, e, h => by cases e; exact ⟨h, by simp⟩
  | i :: is, d :: ds, sl, sl', j, o, e, h => by
    simp only [asgTups] at e
    obtain ⟨sl1, e1, e2⟩ := Option.bind_eq_some_iff.mp e
    obtain ⟨h1, h2⟩ := asgTups_own e2 h
    obtain ⟨h3, h4⟩ := setSl_own e1 h1
    exact ⟨h3, by simp only [List.mem_cons, not_or]; exact ⟨h4, h2⟩⟩
theorem asgTg_own {t : Tg} {d : Rx.D} {j : Nat} {o : O} (e : asgTg sl s t (.imm d) = some sl') (h : sl'[j]? = some (.own o)) : sl[j]? = some (.own o) ∧ j ∉ t.slots := by
  cases t with
  | slot i =>
    simp only [asgTg, slotOf, Option.bind_some] at e
    obtain ⟨h1, h2⟩ := setSl_own e h
    exact ⟨h1, by simpa [Tg.slots] using h2⟩
  | tup is =>
    simp only [asgTg] at e
    split at e
    · exact asgTups_own e h
    · exact asgTups_own e h
    · cases e
/-- a step that only stores data in slots -/
theorem RStp.chg {is : List Nat} (k : StOk G w H s) (c : Chg is σ σ') (h : ∀ j o, sl'[j]? = some (L.own o) → sl[j]? = some (L.own o) ∧ j ∉ is) : RStp sl σ w H s sl' σ' w H s :=
  .same k fun a ⟨j, o, h1, h2⟩ => by
    obtain ⟨h3, h4⟩ := h j o h1
    rw [c.2 j h4] at h2
    exact .inl ⟨j, o, h3, h2⟩
theorem gName_ok {i : Nat} {r : RV} {v : V} {Q : L2.St → Hp → Prop} (k0 : EnvOk G w H sl σ s) (p : Stp w H s w' H' s') (k : EnvOk G w' H' sl σ s') (r1 : RepR G w' H' s' H r v)
    (h : match (slotOf r).bind (setSl sl i) with
      | some sl' => ∀ σ', RStp sl σ w H s sl' σ' w' H' s' → EnvOk G w' H' sl' σ' s' → Q σ' H'
      | none => False) : gName i v σ H' Q := by
  cases r with
  | peek o => exact h.elim
  | imm d =>
    simp only [slotOf, Option.bind_some] at h
    cases e : setSl sl i (.imm d) with
    | none => rw [e] at h; exact h.elim
    | some sl' =>
      rw [e] at h
      have e' := e
      unfold setSl at e'
      split at e'
      · rename_i hi
        cases e'
        exact h _ (p.r.trans (RStp.chg k.st (Chg.set (is := [i]) (by simp)) fun j o hj => by
          obtain ⟨h1, h2⟩ := setSl_own e hj
          exact ⟨h1, by simpa using h2⟩)) (k.setI r1 hi)
      · cases e'
  | own o =>
    simp only [slotOf, Option.bind_some, setSl] at h
    by_cases hi : i < sl.length
    · rw [if_pos hi] at h
      obtain ⟨a, rfl, g1, g2, g3, g4, g5⟩ := r1
      have hn : ¬ Own sl σ a := fun y => by
        obtain ⟨_, _, _, o, ho⟩ := k0.own_wr y
        rw [g5] at ho
        cases ho
      refine h _ ?_ (k.setO g1 g2 g3 g4 hn hi)
      have hσ : i < σ.length := by rw [← k.len]; exact hi
      exact ⟨p.r.keep, p.zk, p.r.zn, p.nx, p.gk, p.r.live, p.there, fun b ⟨j, u, h1, h2⟩ => by
        by_cases c : i = j
        · subst c
          rw [List.getElem?_set_self hσ] at h2
          cases h2
          exact .inr g5
        · rw [List.getElem?_set_ne c] at h1 h2
          exact .inl ⟨j, u, h1, h2⟩⟩
    · rw [if_neg hi] at h
      exact h.elim
/-- name = e, whatever way the value comes -/
theorem asg_mono {i : Nat} {e : E} (h : tS G W0 cf (.asg (.slot i) e) D σ H) : tAsg (tE G W0 cf e) (gName i) D σ H := by
  obtain ⟨w, sl, s, k, h⟩ := h
  rw [exS] at h
  refine bindS k h fun v s1 u w1 H1 p1 k1 r1 h1 => gName_ok k p1 k1 r1 ?_
  simp only [asgTg] at h1
  cases e2 : (slotOf v).bind (setSl sl i) with
  | none => rw [e2] at h1; exact h1.elim
  | some sl' => rw [e2] at h1; exact fun σ' q k' => h1 σ' w1 H1 q k'
theorem ps_setX {i : Nat} {x : Str} {y : Expr} {e : E} {pos' : Pos} (hN : X.N.Nodup) (hi : X.N[i]? = some x) (hx : Loc X.env.scope x) (he : PE X y (tE G W0 cf e)) (hs : swapsWith y (some (.Name x pos')) pos.line X.env = pure false) (hf : X.fn x = true ∨ X.env.scope.names.lookup x = some .local) :
    PS X (.Assign [.Name x pos'] y pos) (tS G W0 cf (.asg (.slot i) e)) := ps_mono (ps_set hN hi hx he hs hf) fun D σ H h => asg_mono h
theorem ps_setCompX {i : Nat} {y : Str} {py : Pos} {x tg iter : Expr} {ifs : List Expr} {scope : Scope} {own : List (Str × Nat)} {e c : E} {t : Tg} {it : It} {cpos : Pos} (hc : X.calm = true) (hN : X.N.Nodup) (hy : X.N[i]? = some y) (hyl : X.env.scope.names.lookup y = some .local)
    (hsw : swapsWith (.ListComp x [⟨tg, iter, ifs, 0⟩] scope cpos) (some (.Name y py)) pos.line X.env = pure true) (hi : PI X tg iter (tI G W0 cf it)) (ok : BlkOk X.N X.env.scope scope own)
    (hg : ∀ (s : Shared) (H : Hp) (C : Addr) (cl : List (Str × Addr)) (fp : List Addr), PG (X.blk s H scope (compEnvC scope cl C X.env) fp) tg (tG G t))
    (ht : ∀ (s : Shared) (H : Hp) (C : Addr) (cl : List (Str × Addr)) (fp : List Addr), PTs (X.blk s H scope (compEnvC scope cl C X.env) fp) ifs (tB' G NoW cf c))
    (he : ∀ (s : Shared) (H : Hp) (C : Addr) (cl : List (Str × Addr)) (fp : List Addr), PE (X.blk s H scope (compEnvC scope cl C X.env) fp) x (tE G NoW cf e))
    (hts : ∀ i, i ∈ t.slots → i ∈ own.map (·.2)) (hs : ∀ y, foldedSetIterable iter X.env y = pure y) :
    PS X (.Assign [.Name y py] (.ListComp x [⟨tg, iter, ifs, 0⟩] scope cpos) pos) (tS G W0 cf (.asg (.slot i) (.comp e t (own.map (·.2)) it c))) := by
  refine ps_mono (ps_setLc hc hN hy hyl hsw hi ok hg ht he hs) fun D σ H h => comp_tLc hts (asg_mono h)
/-- (a, b, ..) = a pair that stands -/
theorem ps_tupX {is : List Nat} {es : List Expr} {k1 : Nat} {p : Pos} {y : Expr} {e : E} (hc : X.calm = true) (hK : X.K = G.K) (hN : X.N.Nodup) (ht : TgN X is es) (hn : (assignEach es X.env).length = is.length) (hst : (assignEach es X.env).findIdx? (·.1) = none)
    (he : PE X y (tE G W0 cf e)) (hs : swapsWithSole [.Tuple es k1 p] y pos.line X.env = pure false) (hw : swappedStores [.Tuple es k1 p] y X.env = pure none) (h1 : (assignEach [.Tuple es k1 p] X.env).map (·.2) = [assign (.Tuple es k1 p) X.env]) :
    PS X (.Assign [.Tuple es k1 p] y pos) (tS G W0 cf (.asg (.tup is) e)) := by
  refine ps_mono (ps_asg he (pg_or (pg_tup hc (pgs_ds (G := G) (all := is) hN ht) hn hst) (pg_lst hc (pgs_ds (G := G) (all := is) hN ht) hn hst)) hs hw h1) fun D σ H ⟨w, sl, s, k, h⟩ => ?_
  rw [exS] at h
  refine bindS k h fun v s1 u w1 H1 p1 k1 r1 h1 => ?_
  have r' := cur_of r1 k1.st
  simp only [asgTg] at h1
  rw [hK]
  have len : ∀ {is : List Nat} {sl sl' : List L} {ds : List Rx.D}, asgTups sl is ds = some sl' → ds.length = is.length := by
    intro is
    induction is with
    | nil => intro sl sl' ds e; cases ds with
      | nil => rfl
      | cons => cases e
    | cons i is ih => intro sl sl' ds e; cases ds with
      | nil => cases e
      | cons d ds =>
        simp only [asgTups] at e
        obtain ⟨sl1, _, e2⟩ := Option.bind_eq_some_iff.mp e
        exact congrArg Nat.succ (ih e2)
  have fin : ∀ {ds : List Rx.D} {xs : List V}, RepDs G w1 H1 ds xs → PostF G W0 sl σ w H s (match asgTups sl is ds with
    | some sl' => F.nx sl' s1
    | none => F.bad) D → xs.length = is.length ∧ gDs G is is xs σ H1 D.nx := fun {ds xs} hr h2 => by
    cases e2 : asgTups sl is ds with
    | none => rw [e2] at h2; exact h2.elim
    | some sl' =>
      rw [e2] at h2
      refine ⟨by rw [← hr.len]; exact len e2, w1, sl, s1, ds, k1, hr, fun _ h => h, ?_⟩
      rw [e2]
      exact fun σ' k' c => h2 σ' w1 H1 (p1.r.trans (RStp.chg k1.st c fun j o hj => asgTups_own e2 hj)) k'
  cases hs : snap s1 v with
  | tup ds =>
    rw [hs] at h1 r'
    cases r' with
    | @tup b xs _ hq hr =>
    obtain ⟨h3, h4⟩ := fin hr h1
    exact .inl ⟨b, xs, rfl, hq, h3, h4⟩
  | lst ds =>
    rw [hs] at h1 r'
    obtain ⟨b, xs, rfl, hq, hr⟩ := r'
    obtain ⟨h3, h4⟩ := fin hr h1
    exact .inr ⟨b, xs, rfl, hq, h3, h4⟩
  | _ => rw [hs] at h1; exact h1.elim
theorem ps_parX {i j : Nat} {x y : Str} {a b : Expr} {ea eb : E} {px py pt : Pos} {kt k2 pt2} (hc : X.calm = true) (hN : X.N.Nodup) (hi : X.N[i]? = some x) (hj : X.N[j]? = some y) (hij : i ≠ j)
    (hx : X.env.scope.names.lookup x = some .local) (hy : X.env.scope.names.lookup y = some .local) (ha : PA X [a, b] (tEs G W0 cf (.cons ea (.cons eb .nil))))
    (hw : swappedStores [.Tuple [.Name x px, .Name y py] kt pt] (.Tuple [a, b] k2 pt2) X.env = pure (some [x, y]))
    (hs : swapsWithSole [.Tuple [.Name x px, .Name y py] kt pt] (.Tuple [a, b] k2 pt2) pos.line X.env = pure false) :
    PS X (.Assign [.Tuple [.Name x px, .Name y py] kt pt] (.Tuple [a, b] k2 pt2) pos) (tS G W0 cf (.par i j ea eb)) := by
  refine ps_mono (ps_par hc hN hi hj hij hx hy ha hw hs) fun D σ H ⟨w, sl, s, k, h⟩ => ?_
  rw [exS] at h
  have h' : PostF G W0 sl σ w H s ((evEs cf sl (.cons ea (.cons eb .nil)) s).st sl fun rs s2 => match rs with
    | [.imm x, .imm y] => (match (setSl sl i (.imm x)).bind fun sl' => setSl sl' j (.imm y) with
      | some sl' => .nx sl' s2
      | none => .bad)
    | _ => .bad) D := by
    simp only [evEs]
    revert h
    cases evE cf sl ea s with
    | bad => exact fun h => h
    | exc x s1 => exact fun h => h
    | ok va s1 =>
      simp only [Rx.R.st, Rx.R.bind]
      cases evE cf sl eb s1 with
      | bad => exact fun h => h
      | exc x s1 => exact fun h => h
      | ok vb s1 => cases va <;> cases vb <;> exact fun h => h
  refine bindSs k h' fun rs s1 us w1 H1 p1 k1 r1 h1 => ?_
  split at h1
  · rename_i d1 d2
    cases r1 with
    | @cons _ v1 _ _ q1 r1 =>
    cases r1 with
    | @cons _ v2 _ _ q2 r1 =>
    cases r1
    refine ⟨v1, v2, rfl, ?_⟩
    cases e1 : setSl sl i (.imm d1) with
    | none => rw [e1] at h1; exact h1.elim
    | some sl1 =>
      rw [e1] at h1
      simp only [Option.bind_some] at h1
      cases e2 : setSl sl1 j (.imm d2) with
      | none => rw [e2] at h1; exact h1.elim
      | some sl2 =>
        rw [e2] at h1
        have hi1 : i < sl.length := by unfold setSl at e1; split at e1 <;> first | assumption | cases e1
        have z1 : sl1 = sl.set i (.imm d1) := by unfold setSl at e1; rw [if_pos hi1] at e1; exact (Option.some.inj e1).symm
        have hj1 : j < sl1.length := by unfold setSl at e2; split at e2 <;> first | assumption | cases e2
        have z2 : sl2 = sl1.set j (.imm d2) := by unfold setSl at e2; rw [if_pos hj1] at e2; exact (Option.some.inj e2).symm
        subst z1 z2
        refine h1 _ w1 H1 (p1.r.trans (RStp.chg (is := [i, j]) k1.st ((Chg.set (by simp)).trans (Chg.set (by simp))) fun m o hm => ?_)) ((k1.setI q1 hi1).setI q2 hj1)
        obtain ⟨g1, g2⟩ := setSl_own e2 hm
        obtain ⟨g3, g4⟩ := setSl_own e1 g1
        exact ⟨g3, by simp only [List.mem_cons, List.not_mem_nil, or_false, not_or]; exact ⟨g4, g2⟩⟩
  · exact h1.elim
end
end Rx
/-! Rx10: things written; blocks, loops. -/
namespace Rx
open PySem L2
section
variable {G : GC} {X : Cx} {W0 : WX} {cf : CF} {w w' w2 : W} {H H' H2 H0 : Hp} {s s' s2 : St} {sl sl' sl2 : List L} {σ σ' σ2 : L2.St} {Q : VK} {pos : Pos} {a : Addr} {D : Ends}
theorem set_ob {o u : O} {n m : Nat} (h : (s.set n o).ob m = some u) : (m = n ∧ u = o) ∨ (m ≠ n ∧ s.ob m = some u) := by
  have h' : (if m = n then some o else s.ob m) = some u := h
  by_cases e : m = n
  · rw [if_pos e] at h'; cases h'; exact .inl ⟨e, rfl⟩
  · rw [if_neg e] at h'; exact .inr ⟨e, h'⟩
theorem set_there {o u v : O} {n m : Nat} (h0 : s.ob n = some o) (h : (s.set n u).ob m = some v) : ∃ q, s.ob m = some q := by
  rcases set_ob h with ⟨rfl, _⟩ | ⟨_, h⟩
  · exact ⟨o, h0⟩
  · exact ⟨v, h⟩
theorem StOk.put {o o' : O} {u : HO} {n : Nat} (k : StOk G w H s) (h : s.ob n = some o) (r : RepO G w (upd H (w.g n) u) o' (w.g n)) : StOk G w (upd H (w.g n) u) (s.set n o') where
  nx := k.nx
  lt := fun m v hm => by obtain ⟨q, hq⟩ := set_there h hm; exact k.lt m q hq
  rep := fun m v hm => by
    rcases set_ob hm with ⟨rfl, rfl⟩ | ⟨e, hm⟩
    · exact r
    · exact (k.rep m v hm).wrO (k.rep n o h).wr (k.nz n o h) fun z => e (k.inj m n v o hm h z)
  nz := fun m v hm => by obtain ⟨q, hq⟩ := set_there h hm; exact k.nz m q hq
  inj := fun m l v v2 hm hl e => by
    obtain ⟨q, hq⟩ := set_there h hm
    obtain ⟨q2, hq2⟩ := set_there h hl
    exact k.inj m l q q2 hq hq2 e
  zs := fun b hb => by
    obtain ⟨v, hv⟩ := k.zs b hb
    exact ⟨v, by rw [upd_ne (fun e => k.nz n o h (by rw [← e]; exact hb))]; exact hv⟩
theorem Stp.put {o o' : O} {u : HO} {n : Nat} (k : StOk G w H s) (h : s.ob n = some o) : Stp w H s w (upd H (w.g n) u) (s.set n o') where
  keep := fun b v hb hf => by rw [upd_ne (fun e => hf n o h e.symm)]; exact hb
  zk := fun _ h => h
  zn := fun _ h => .inl h
  nx := Nat.le_refl _
  gk := fun _ _ => rfl
  live := fun m v hm => by obtain ⟨q, hq⟩ := set_there h hm; exact .inl ⟨k.lt m q hq, q, hq⟩
  there := fun b v hb => by
    by_cases e : b = w.g n
    · rw [e, upd_same]; exact ⟨_, rfl⟩
    · rw [upd_ne e]; exact ⟨v, hb⟩
theorem EnvOk.putOwn {o o' : O} {u : HO} {m : Nat} (k : EnvOk G w H sl σ s) (h : sl[m]? = some (.own o)) (ha : σ[m]? = some (some (.ref a))) (r : RepO G w (upd H a u) o' a) (hc : o'.coll = true) : EnvOk G w (upd H a u) (sl.set m (.own o')) σ s := by
  obtain ⟨q, z, f, _⟩ := k.own_wr ⟨m, o, h, ha⟩
  have hm : m < sl.length := (List.getElem?_eq_some_iff.mp h).1
  have back : ∀ {j : Nat} {v : O}, (sl.set m (.own o'))[j]? = some (L.own v) → ∃ v', sl[j]? = some (L.own v') := fun {j v} hj => by
    by_cases e : m = j
    · subst e; exact ⟨o, h⟩
    · rw [List.getElem?_set_ne e] at hj; exact ⟨v, hj⟩
  refine ⟨k.st.wr q z f, by rw [List.length_set]; exact k.len, fun j d hj => ?_, fun j v hj => ?_, fun i j v v2 b h1 h2 h3 h4 => ?_⟩
  · by_cases e : m = j
    · subst e; rw [List.getElem?_set_self hm] at hj; cases hj
    · rw [List.getElem?_set_ne e] at hj
      obtain ⟨v, g1, g2⟩ := k.imm j d hj
      exact ⟨v, g1, g2.wr q z⟩
  · by_cases e : m = j
    · subst e; rw [List.getElem?_set_self hm] at hj; cases hj
      exact ⟨a, ha, r, z, f, hc⟩
    · rw [List.getElem?_set_ne e] at hj
      obtain ⟨b, g1, g2, g3, g4, g5⟩ := k.own j v hj
      exact ⟨b, g1, g2.wrO q z (fun e2 => e (k.dist m j o v a h hj ha (by rw [← e2]; exact g1))), g3, g4, g5⟩
  · obtain ⟨x, hx⟩ := back h1
    obtain ⟨y, hy⟩ := back h2
    exact k.dist i j x y b hx hy h3 h4
theorem RStp.putOwn {o o' : O} {u : HO} {m : Nat} (k : EnvOk G w H sl σ s) (h : sl[m]? = some (.own o)) (ha : σ[m]? = some (some (.ref a))) : RStp sl σ w H s (sl.set m (.own o')) σ w (upd H a u) s where
  keep := fun b v hb _ hn => by rw [upd_ne (fun e => hn ⟨m, o, h, by rw [e]; exact ha⟩)]; exact hb
  zk := fun _ h => h
  zn := fun _ h => .inl h
  nx := Nat.le_refl _
  gk := fun _ _ => rfl
  live := fun n v hn => .inl ⟨k.st.lt n v hn, v, hn⟩
  there := fun b v hb => by
    by_cases e : b = a
    · rw [e, upd_same]; exact ⟨_, rfl⟩
    · rw [upd_ne e]; exact ⟨v, hb⟩
  own := fun b ⟨j, v, h1, h2⟩ => by
    by_cases e : m = j
    · subst e; exact .inl ⟨m, o, h, h2⟩
    · rw [List.getElem?_set_ne e] at h1; exact .inl ⟨j, v, h1, h2⟩
theorem bnd_ok {m : Nat} (k : EnvOk G w H sl σ s) (h : bndL sl m = true) : ∃ v, σ[m]? = some (some v) := by
  unfold bndL at h
  split at h
  · rename_i d e; obtain ⟨v, h1, _⟩ := k.imm m d e; exact ⟨v, h1⟩
  · rename_i d e; obtain ⟨v, h1, _⟩ := k.own m d e; exact ⟨_, h1⟩
  · cases h
/-! ### c[i] = v -/
theorem RepO.lstw {ds : List Rx.D} {xs : List V} (h : RepO G w H (.lst ds) a) (z : ¬ w.Z a) (r : RepDs G w H ds xs) {es : List Rx.D} {us : List V} (q : RepDs G w H es us) : RepO G w (upd H a (.lst us)) (.lst es) a := ⟨us, upd_same, q.wr h.wr z⟩
/-- a list is written at an index -/
theorem put_lst {o o' : O} {d k : Rx.D} {x y : V} (h : RepO G w H o a) (z : ¬ w.Z a) (hk : RepD G w H k x) (hd : RepD G w H d y) (e : putAt o k d = some o') {Q : Hp → Prop} (q : ∀ u, RepO G w (upd H a u) o' a → o'.coll = true → Q (upd H a u)) : rSetL (.ref a) x y H Q := by
  cases o with
  | dic ks => cases k <;> cases e
  | ins c fs => cases e
  | lst ds =>
    cases k with
    | int i =>
      cases hk
      simp only [putAt, Option.map_eq_some_iff] at e
      obtain ⟨j, e1, rfl⟩ := e
      obtain ⟨xs, h1, h2⟩ := h
      refine ⟨a, xs, i, j, rfl, rfl, h1, by rw [← h2.len, ← ixOf_ixN]; exact e1, q _ (RepO.lstw ⟨xs, h1, h2⟩ z h2 (RepDs.set hd j h2)) rfl⟩
    | _ => cases e
theorem ps_setIdxX {xc xi xv : Expr} {c i v : E} {tpos : Pos} (hc : PE X xc (tE G W0 cf c)) (hi : PE X xi (tE G W0 cf i)) (hv : PE X xv (tE G W0 cf v))
    (hs : swapsWithSole [.Subscript xc xi tpos] xv pos.line X.env = pure false) (hw : swappedStores [.Subscript xc xi tpos] xv X.env = pure none) (h1 : (assignEach [.Subscript xc xi tpos] X.env).map (·.2) = [assign (.Subscript xc xi tpos) X.env])
    (ha : ∀ v, assign (.Subscript xc xi tpos) X.env v = (do
      let ov ← holding [v] (eval xc X.env)
      let iv ← holding [v, ov] (eval xi X.env)
      standAt tpos
      holding [v, ov, iv] (setItem ov iv v)
      release [v, ov, iv] [])) : PS X (.Assign [.Subscript xc xi tpos] xv pos) (tS G W0 cf (.setIdx c i v)) :=
  ps_mono (ps_asg hv (pg_sub hc hi set_list ha) hs hw h1) fun D σ H ⟨w, sl, s, k, h⟩ => by
    rw [exS] at h
    refine bindS k h fun rv s1 u w1 H1 p1 k1 r1 g1 => ?_
    cases rv with
    | imm x =>
      simp only at g1
      refine bindS k1 (g1.late p1.r) fun ro s2 o w2 H2 p2 k2 r2 g2 => ?_
      refine bindS k2 (g2.late p2.r) fun rk s3 i w3 H3 p3 k3 r3 g3 => ?_
      split at g3
      · rename_i k n
        cases e : s3.ob n with
        | none => rw [e] at g3; exact g3.elim
        | some ob =>
          rw [e] at g3
          simp only at g3
          cases e2 : putAt ob k x with
          | none => rw [e2] at g3; exact g3.elim
          | some o' =>
            rw [e2] at g3
            have ro : o = .ref (w3.g n) := by
              have := r2.stp k2.st p3
              cases (show RepD G w3 H3 (.ref n) o from this)
              rfl
            subst ro
            refine put_lst (k3.st.rep n ob e) (k3.st.nz n ob e) r3 ((r1.stp k1.st p2).stp k2.st p3) e2 fun u q1 q2 => ?_
            exact g3 σ w3 _ (p3.r.trans (Stp.put k3.st e).r) (k3.stp (Stp.put k3.st e) (k3.st.put e q1))
      · exact g3.elim
    | _ => exact g1.elim
theorem ps_setSlotX {xc xi xv : Expr} {m : Nat} {i v : E} {tpos : Pos} (hc : PE X xc (tVar m)) (hi : PE X xi (tE G W0 cf i)) (hv : PE X xv (tE G W0 cf v))
    (hs : swapsWithSole [.Subscript xc xi tpos] xv pos.line X.env = pure false) (hw : swappedStores [.Subscript xc xi tpos] xv X.env = pure none) (h1 : (assignEach [.Subscript xc xi tpos] X.env).map (·.2) = [assign (.Subscript xc xi tpos) X.env])
    (ha : ∀ v, assign (.Subscript xc xi tpos) X.env v = (do
      let ov ← holding [v] (eval xc X.env)
      let iv ← holding [v, ov] (eval xi X.env)
      standAt tpos
      holding [v, ov, iv] (setItem ov iv v)
      release [v, ov, iv] [])) : PS X (.Assign [.Subscript xc xi tpos] xv pos) (tS G W0 cf (.setSlot m i v)) :=
  ps_mono (ps_asg hv (pg_sub hc hi set_list ha) hs hw h1) fun D σ H ⟨w, sl, s, k, h⟩ => by
    rw [exS] at h
    refine bindS k h fun rv s1 u w1 H1 p1 k1 r1 g1 => ?_
    cases hb : bndL sl m with
    | false => rw [hb] at g1; exact g1.elim
    | true =>
    rw [hb] at g1
    obtain ⟨ov, hov⟩ := bnd_ok k hb
    cases rv with
    | imm x =>
      simp only at g1
      · refine ⟨ov, hov, bindS k1 (g1.late p1.r) fun rk s3 i w3 H3 p3 k3 r3 g3 => ?_⟩
        split at g3
        · rename_i k n hm
          cases e : s3.ob n with
          | none => rw [e] at g3; exact g3.elim
          | some ob =>
            rw [e] at g3
            simp only at g3
            cases e2 : putAt ob k x with
            | none => rw [e2] at g3; exact g3.elim
            | some o' =>
              rw [e2] at g3
              obtain ⟨v, h3, h4⟩ := k3.imm m _ hm
              rw [hov] at h3
              cases h3
              cases h4
              refine put_lst (k3.st.rep n ob e) (k3.st.nz n ob e) r3 (r1.stp k1.st p3) e2 fun u q1 q2 => ?_
              exact g3 σ w3 _ (p3.r.trans (Stp.put k3.st e).r) (k3.stp (Stp.put k3.st e) (k3.st.put e q1))
        · rename_i k ob hm
          cases e2 : putAt ob k x with
          | none => rw [e2] at g3; exact g3.elim
          | some o' =>
            rw [e2] at g3
            obtain ⟨b, h3, h4, h5, h6, h7⟩ := k3.own m _ hm
            rw [hov] at h3
            cases h3
            refine put_lst h4 h5 r3 (r1.stp k1.st p3) e2 fun u q1 q2 => ?_
            exact g3 σ w3 _ (p3.r.trans (RStp.putOwn k3 hm hov)) (k3.putOwn hm hov q1 q2)
        · exact g3.elim
    | _ => exact g1.elim
/-! ### a thing changed by a method -/
theorem has_ok {m : Nat} (k : EnvOk G w H sl σ s) (h : hasM sl s m = true) : ∃ a, σ[m]? = some (some (.ref a)) ∧ ∃ xs, H a = some (.lst xs) := by
  unfold hasM at h
  split at h
  · rename_i ds e
    obtain ⟨a, h1, ⟨xs, h2, _⟩, _⟩ := k.own m _ e
    exact ⟨a, h1, xs, h2⟩
  · rename_i n e
    obtain ⟨v, h1, h2⟩ := k.imm m _ e
    cases h2
    split at h
    · rename_i xs e2
      obtain ⟨ys, h3, _⟩ := k.st.rep n _ e2
      exact ⟨_, h1, ys, h3⟩
    · cases h
  · cases h
theorem RepDs.dropLast : ∀ {ds : List Rx.D} {vs : List V}, RepDs G w H ds vs → RepDs G w H ds.dropLast vs.dropLast
  | _, _, .nil => .nil
  | _, _, .cons _ .nil => .nil
  | _, _, .cons h (.cons q r) => .cons h (RepDs.dropLast (.cons q r))
/-- how a change is read -/
def MutR (G : GC) (op : M) (r : V → List V → Hp → VK → Prop) : Prop := ∀ w H o a ds vs o' d (Q : VK), RepO G w H o a → ¬ w.Z a → RepDs G w H ds vs → mutD op o ds = some (o', d) →
  (∀ u v, RepO G w (upd H a u) o' a → o'.coll = true → RepD G w (upd H a u) d v → Q v (upd H a u)) → r (.ref a) vs H Q
theorem mut_app : MutR G .app rAppend := fun w H o a ds vs o' d Q h z r e q => by
  match o, ds, e with
  | .lst xs, [x], e =>
    simp only [mutD] at e
    split at e
    · rename_i hl
      cases e
      obtain ⟨ys, h1, h2⟩ := h
      cases r with
      | @cons _ v _ _ r1 r2 =>
      cases r2
      refine ⟨a, ys, v, rfl, rfl, h1, by rw [← h2.len, sizeLine_eq]; exact hl, q _ _ (RepO.lstw ⟨ys, h1, h2⟩ z h2 (h2.app (.cons r1 .nil))) rfl .non⟩
    · cases e
  | .dic ks, _, e => simp [mutD] at e
theorem mut_pop : MutR G .pop rPop := fun w H o a ds vs o' d Q h z r e q => by
  match o, ds, e with
  | .lst xs, [], e =>
    simp only [mutD, Option.map_eq_some_iff] at e
    obtain ⟨d1, e1, e2⟩ := e
    cases e2
    obtain ⟨ys, h1, h2⟩ := h
    cases r
    rw [List.getLast?_eq_getElem?] at e1
    obtain ⟨v, h3, h4⟩ := h2.get e1
    exact ⟨a, ys, v, rfl, rfl, h1, by rw [← h2.len]; exact h3, q _ _ (RepO.lstw ⟨ys, h1, h2⟩ z h2 h2.dropLast) rfl (h4.wr (RepO.wr (o := .lst xs) ⟨ys, h1, h2⟩) z)⟩
  | .dic ks, _, e => simp [mutD] at e
theorem tMut {m : Nat} {op : M} {as : Es} {t : Option Nat} {r : V → List V → Hp → VK → Prop} {Q' : VK} (hr : MutR G op r) (hK : X.K = G.K) (k : EnvOk G w H sl σ s) (h : PostF G W0 sl σ w H s (exS cf (.mut t m op as) sl s) D)
    (hQ : ∀ v sl1 d w1 H1 s1, RStp sl σ w H s sl1 σ w1 H1 s1 → EnvOk G w1 H1 sl1 σ s1 → RepD G w1 H1 d v → PostF G W0 sl σ w H s (match asgO sl1 t d with
      | some sl' => .nx sl' s1
      | none => .bad) D → Q' v H1) : tBM X.K "list" r (tVar m) (tEs G W0 cf as) σ H Q' := by
  rw [exS] at h
  split at h
  · rename_i hm
    obtain ⟨a, h1, xs, h2⟩ := has_ok k hm
    refine ⟨_, h1, .inl ⟨rfl, xs, SqL.of h2⟩, bindSs k h fun rs s1 us w1 H1 p1 k1 r1 g1 => ?_⟩
    split at g1
    · rename_i ds o ei es
      obtain ⟨b, h3, h4, h5, h6, h7⟩ := k1.own m o es
      rw [h1] at h3
      cases h3
      cases e : mutD op o ds with
      | none => rw [e] at g1; exact g1.elim
      | some x =>
        obtain ⟨o', d⟩ := x
        rw [e] at g1
        refine hr w1 H1 o _ ds us o' d _ h4 h5 (imms_ok r1 ei) e fun u v q1 q2 q3 => ?_
        exact hQ v _ d w1 _ s1 (p1.r.trans (RStp.putOwn k1 es h1)) (k1.putOwn es h1 q1 q2) q3 g1
    · rename_i ds n ei es
      obtain ⟨v, h3, h4⟩ := k1.imm m _ es
      rw [h1] at h3
      cases h3
      cases e0 : s1.ob n with
      | none => rw [e0] at g1; exact g1.elim
      | some o =>
        rw [e0] at g1
        simp only [Option.bind_some] at g1
        cases e : mutD op o ds with
        | none => rw [e] at g1; exact g1.elim
        | some x =>
          obtain ⟨o', d⟩ := x
          rw [e] at g1
          cases (show RepD G w1 H1 (.ref n) (.ref a) from h4)
          refine hr w1 H1 o _ ds us o' d _ (k1.st.rep n o e0) (k1.st.nz n o e0) (imms_ok r1 ei) e fun u v q1 q2 q3 => ?_
          exact hQ v sl d w1 _ _ (p1.r.trans (Stp.put k1.st e0).r) (k1.stp (Stp.put k1.st e0) (k1.st.put e0 q1)) q3 g1
    · exact g1.elim
  · exact h.elim
end
end Rx
/-! Rx11: methods that change; blocks, loops. -/
namespace Rx
open PySem L2
section
variable {G : GC} {X : Cx} {W0 : WX} {cf : CF} {w w' w2 : W} {H H' H2 H0 : Hp} {s s' s2 : St} {sl sl' sl2 : List L} {σ σ' σ2 : L2.St} {Q : VK} {pos : Pos} {a : Addr} {D : Ends}
theorem ps_mutX {m : Nat} {op : M} {as : Es} {r : V → List V → Hp → VK → Prop} {x : Expr} (hr : MutR G op r) (hK : X.K = G.K) (he : PE X x (tBM X.K "list" r (tVar m) (tEs G W0 cf as))) (hs : swapsWith x none pos.line X.env = pure false) : PS X (.Expr x pos) (tS G W0 cf (.mut none m op as)) :=
  ps_mono (ps_expr he hs) fun D σ H ⟨w, sl, s, k, h⟩ => by
    refine tMut hr hK k h fun v sl1 d w1 H1 s1 p1 k1 r1 g1 => ?_
    exact g1 σ w1 H1 p1 k1
theorem ps_mutSetX {m i : Nat} {op : M} {as : Es} {r : V → List V → Hp → VK → Prop} {x : Expr} {y : Str} {py : Pos} (hr : MutR G op r) (hK : X.K = G.K) (he : PE X x (tBM X.K "list" r (tVar m) (tEs G W0 cf as))) (hN : X.N.Nodup) (hi : X.N[i]? = some y) (hx : Loc X.env.scope y) (hs : swapsWith x (some (.Name y py)) pos.line X.env = pure false) (hf : X.fn y = true ∨ X.env.scope.names.lookup y = some .local) :
    PS X (.Assign [.Name y py] x pos) (tS G W0 cf (.mut (some i) m op as)) :=
  ps_mono (ps_set hN hi hx he hs hf) fun D σ H ⟨w, sl, s, k, h⟩ => by
    refine tMut hr hK k h fun v sl1 d w1 H1 s1 p1 k1 r1 g1 => ?_
    simp only [asgO] at g1
    cases e : setSl sl1 i (.imm d) with
    | none => rw [e] at g1; exact g1.elim
    | some sl' =>
      rw [e] at g1
      have e' := e
      unfold setSl at e'
      split at e'
      · rename_i hi
        cases e'
        exact g1 _ w1 H1 (p1.trans (RStp.chg (is := [i]) k1.st (Chg.set (by simp)) fun j o hj => by
          obtain ⟨h1, h2⟩ := setSl_own e hj
          exact ⟨h1, by simpa using h2⟩)) (k1.setI r1 hi)
      · cases e'
/-! ### blocks -/
theorem pss_nilX : PSs X [] (tSs G W0 cf .nil) := pss_mono pss_nil fun D σ H ⟨w, sl, s, k, h⟩ => by
  rw [exSs] at h
  exact h σ w H (.same k.st fun _ h => .inl h) k
theorem seqF {r : F} {f : List L → St → F} (h : PostF G W0 sl σ w H s (r.seq f) D) {P : L2.St → Hp → Prop} (hP : ∀ σ' w' H' sl' s', RStp sl σ w H s sl' σ' w' H' s' → EnvOk G w' H' sl' σ' s' → PostF G W0 sl' σ' w' H' s' (f sl' s') D → P σ' H') :
    PostF G W0 sl σ w H s r { D with nx := P } := by
  cases r with
  | nx sl' s' => exact fun σ' w' H' p k => hP σ' w' H' sl' s' p k (PostF.late h p)
  | _ => exact h
theorem pss_consX {st : Stmt} {rest : List Stmt} {a : Sm} {r : Ss} (h1 : PS X st (tS G W0 cf a)) (h2 : PSs X rest (tSs G W0 cf r)) : PSs X (st :: rest) (tSs G W0 cf (.cons a r)) :=
  pss_mono (pss_cons h1 h2) fun D σ H ⟨w, sl, s, k, h⟩ => by
    rw [exSs] at h
    exact ⟨w, sl, s, k, seqF h fun σ' w' H' sl' s' p k' h' => ⟨w', sl', s', k', h'⟩⟩
/-- a list that stays as it is from here on -/
theorem pss_frzX {sts : List Stmt} {i : Nat} {r : Ss} (h2 : PSs X sts (tSs G W0 cf r)) : PSs X sts (tSs G W0 cf (.cons (.frz i) r)) :=
  pss_mono h2 fun D σ H ⟨w, sl, s, k, h⟩ => by
    rw [exSs, exS] at h
    split at h
    · rename_i ds e
      obtain ⟨a, h1, h2, h3, h4, h5⟩ := k.own i _ e
      obtain ⟨xs, h6, h7⟩ := h2
      have up : ∀ b, w.Z b → (w.frz a).Z b := fun _ z => Or.inl z
      have hi : i < sl.length := (List.getElem?_eq_some_iff.mp e).1
      have hid : sl.set i (L.imm (.lst ds)) = sl.set i (.imm (.lst ds)) := rfl
      have p : RStp sl σ w H s (sl.set i (.imm (.lst ds))) σ (w.frz a) H s :=
        ⟨fun _ _ h _ _ => h, up, fun b z => z.elim .inl fun z => .inr (.inr (by rw [z]; exact ⟨i, _, e, h1⟩)), Nat.le_refl _, fun _ _ => rfl, fun n o h => .inl ⟨k.st.lt n o h, o, h⟩, fun _ o h => ⟨o, h⟩, fun b ⟨j, o, g1, g2⟩ => by
          by_cases c : i = j
          · subst c; rw [List.getElem?_set_self hi] at g1; cases g1
          · rw [List.getElem?_set_ne c] at g1; exact .inl ⟨j, o, g1, g2⟩⟩
      refine ⟨w.frz a, sl.set i (.imm (.lst ds)), s, ⟨k.st.frz h4 ⟨_, h6⟩, by rw [List.length_set]; exact k.len, fun j d hj => ?_, fun j o hj => ?_, fun j m o u b g1 g2 g3 g4 => ?_⟩, PostF.late h p⟩
      · by_cases c : i = j
        · subst c; rw [List.getElem?_set_self hi] at hj; cases hj
          exact ⟨_, h1, .lst (.inl ⟨h6, .inr rfl⟩) (h7.mono (w' := w.frz a) up (Nat.le_refl _) (fun _ _ => rfl))⟩
        · rw [List.getElem?_set_ne c] at hj
          obtain ⟨v, g1, g2⟩ := k.imm j d hj
          exact ⟨v, g1, g2.mono (w' := w.frz a) up (Nat.le_refl _) (fun _ _ => rfl)⟩
      · by_cases c : i = j
        · subst c; rw [List.getElem?_set_self hi] at hj; cases hj
        · rw [List.getElem?_set_ne c] at hj
          obtain ⟨b, g1, g2, g3, g4, g5⟩ := k.own j o hj
          refine ⟨b, g1, g2.mono (w' := w.frz a) up (Nat.le_refl _) (fun _ _ => rfl), fun z => z.elim g3 fun z => c ?_, g4, g5⟩
          exact k.dist i j _ o a e hj h1 (by rw [← z]; exact g1)
      · have g1' : j ≠ i ∧ sl[j]? = some (.own o) := by
          by_cases c : i = j
          · subst c; rw [List.getElem?_set_self hi] at g1; cases g1
          · rw [List.getElem?_set_ne c] at g1; exact ⟨fun z => c z.symm, g1⟩
        have g2' : m ≠ i ∧ sl[m]? = some (.own u) := by
          by_cases c : i = m
          · subst c; rw [List.getElem?_set_self hi] at g2; cases g2
          · rw [List.getElem?_set_ne c] at g2; exact ⟨fun z => c z.symm, g2⟩
        exact k.dist j m o u b g1'.2 g2'.2 g3 g4
    · rename_i ds e
      obtain ⟨a, h1, h2, h3, h4, h5⟩ := k.own i _ e
      obtain ⟨xs, h6, h7⟩ := h2
      have up : ∀ b, w.Z b → (w.frz a).Z b := fun _ z => Or.inl z
      have hi : i < sl.length := (List.getElem?_eq_some_iff.mp e).1
      have hid : sl.set i (L.imm (.dic ds)) = sl.set i (.imm (.dic ds)) := rfl
      have p : RStp sl σ w H s (sl.set i (.imm (.dic ds))) σ (w.frz a) H s :=
        ⟨fun _ _ h _ _ => h, up, fun b z => z.elim .inl fun z => .inr (.inr (by rw [z]; exact ⟨i, _, e, h1⟩)), Nat.le_refl _, fun _ _ => rfl, fun n o h => .inl ⟨k.st.lt n o h, o, h⟩, fun _ o h => ⟨o, h⟩, fun b ⟨j, o, g1, g2⟩ => by
          by_cases c : i = j
          · subst c; rw [List.getElem?_set_self hi] at g1; cases g1
          · rw [List.getElem?_set_ne c] at g1; exact .inl ⟨j, o, g1, g2⟩⟩
      refine ⟨w.frz a, sl.set i (.imm (.dic ds)), s, ⟨k.st.frz h4 ⟨_, h6⟩, by rw [List.length_set]; exact k.len, fun j d hj => ?_, fun j o hj => ?_, fun j m o u b g1 g2 g3 g4 => ?_⟩, PostF.late h p⟩
      · by_cases c : i = j
        · subst c; rw [List.getElem?_set_self hi] at hj; cases hj
          exact ⟨_, h1, .dic ⟨h6, .inr rfl⟩ (h7.mono (w' := w.frz a) up (Nat.le_refl _) (fun _ _ => rfl))⟩
        · rw [List.getElem?_set_ne c] at hj
          obtain ⟨v, g1, g2⟩ := k.imm j d hj
          exact ⟨v, g1, g2.mono (w' := w.frz a) up (Nat.le_refl _) (fun _ _ => rfl)⟩
      · by_cases c : i = j
        · subst c; rw [List.getElem?_set_self hi] at hj; cases hj
        · rw [List.getElem?_set_ne c] at hj
          obtain ⟨b, g1, g2, g3, g4, g5⟩ := k.own j o hj
          refine ⟨b, g1, g2.mono (w' := w.frz a) up (Nat.le_refl _) (fun _ _ => rfl), fun z => z.elim g3 fun z => c ?_, g4, g5⟩
          exact k.dist i j _ o a e hj h1 (by rw [← z]; exact g1)
      · have g1' : j ≠ i ∧ sl[j]? = some (.own o) := by
          by_cases c : i = j
          · subst c; rw [List.getElem?_set_self hi] at g1; cases g1
          · rw [List.getElem?_set_ne c] at g1; exact ⟨fun z => c z.symm, g1⟩
        have g2' : m ≠ i ∧ sl[m]? = some (.own u) := by
          by_cases c : i = m
          · subst c; rw [List.getElem?_set_self hi] at g2; cases g2
          · rw [List.getElem?_set_ne c] at g2; exact ⟨fun z => c z.symm, g2⟩
        exact k.dist j m o u b g1'.2 g2'.2 g3 g4
    · exact ⟨w, sl, s, k, h⟩
    · exact h.elim
theorem ps_ifX {x : Expr} {p q : List Stmt} {c : E} {a b : Ss} (hc : PT X x (tB' G W0 cf c)) (ha : PSs X p (tSs G W0 cf a)) (hb : PSs X q (tSs G W0 cf b)) : PS X (.If x p q pos) (tS G W0 cf (.ifS c a b)) :=
  ps_mono (ps_if hc ha hb) fun D σ H ⟨w, sl, s, k, h⟩ => by
    rw [exS] at h
    refine bindSb k h fun v s1 w1 H1 p1 k1 g1 => ?_
    have g2 := g1.late p1.r
    cases v with
    | true => rw [if_pos rfl]; exact tSs_of k1 g2
    | false => rw [if_neg Bool.false_ne_true]; exact tSs_of k1 g2
/-! ### loops -/
/-- a loop's body's outcome, asked for more -/
theorem PostF.to {r : F} {D' : Ends} (h : PostF G W0 sl σ w H s r D) (hn : ∀ sl' s', r = .nx sl' s' → ∀ σ' w' H', RStp sl σ w H s sl' σ' w' H' s' → EnvOk G w' H' sl' σ' s' → D'.nx σ' H') (hc : ∀ sl' s', r = .cnt sl' s' → ∀ σ' w' H', RStp sl σ w H s sl' σ' w' H' s' → EnvOk G w' H' sl' σ' s' → D'.ct σ' H')
    (hb : ∀ sl' s', r = .brk sl' s' → ∀ σ' w' H', RStp sl σ w H s sl' σ' w' H' s' → EnvOk G w' H' sl' σ' s' → D'.bk σ' H') (hr : D'.rt = D.rt) : PostF G W0 sl σ w H s r D' := by
  cases r with
  | nx sl' s' => exact hn _ _ rfl
  | cnt sl' s' => exact hc _ _ rfl
  | brk sl' s' => exact hb _ _ rfl
  | exc x sl' s' => exact h
  | bad => exact h
  | ret v s' => intro u w' H' p k q; rw [hr]; exact h u w' H' p k q
theorem ps_whileX {x : Expr} {body : List Stmt} {c : E} {b : Ss} (hp : PassesOwn (model X.prog X.w) X.A X.env X.xe) (hc : PT X x (tB' G W0 cf c)) (hb : PSs X body (tSs G W0 cf b)) : PS X (.While x body [] pos) (tS G W0 cf (.whileS c b)) := by
  refine ps_mono (ps_while hp hc hb) fun D σ H ⟨w, sl, s, k, h⟩ => ?_
  rw [exS] at h
  have hne : whileF (testE cf c) (exSs cf b) sl s ≠ .bad := fun e => by rw [e] at h; exact h
  obtain ⟨n, hn⟩ := whileF_some hne
  generalize whileF (testE cf c) (exSs cf b) sl s = r at h hn
  refine ⟨fun m σ' H' => ∃ w' sl' s', RStp sl σ w H s sl' σ' w' H' s' ∧ EnvOk G w' H' sl' σ' s' ∧ whileN (testE cf c) (exSs cf b) m sl' s' = some r, ⟨n, w, sl, s, .same k.st fun _ h => .inl h, k, hn⟩, ?_⟩
  rintro m σ1 H1 ⟨w1, sl1, s1, p1, k1, h1⟩
  have h' := h.late p1
  cases m with
  | zero => cases h1
  | succ m =>
    rw [whileN] at h1
    refine ⟨w1, sl1, s1, k1, ?_⟩
    cases ec : testE cf c sl1 s1 with
    | bad => rw [ec] at h1; cases h1; exact h'
    | exc x s2 =>
      rw [ec] at h1; cases h1
      exact fun c d w2 H2 p2 k2 rx => h' c d σ1 w2 H2 p2.r (k1.stp p2 k2) rx
    | ok t s2 =>
      rw [ec] at h1
      intro w2 H2 p2 k2
      have k2' := k1.stp p2 k2
      cases t with
      | false =>
        cases h1
        rw [if_neg Bool.false_ne_true]
        exact h' σ1 w2 H2 p2.r k2'
      | true =>
        rw [if_pos rfl]
        simp only at h1
        refine ⟨fun σ' H' => ∃ w' sl' s', RStp sl σ w H s sl' σ' w' H' s' ∧ EnvOk G w' H' sl' σ' s' ∧ whileN (testE cf c) (exSs cf b) m sl' s' = some r, fun σ' H' q => ⟨m, Nat.lt_succ_self m, q⟩, w2, sl1, s2, k2', ?_⟩
        have h2 := h.late (p1.trans p2.r)
        cases eb : exSs cf b sl1 s2 with
        | nx sl' s' =>
          rw [eb] at h1
          exact fun σ' w' H' p' k' => ⟨w', sl', s', (p1.trans p2.r).trans p', k', h1⟩
        | cnt sl' s' =>
          rw [eb] at h1
          exact fun σ' w' H' p' k' => ⟨w', sl', s', (p1.trans p2.r).trans p', k', h1⟩
        | brk sl' s' =>
          rw [eb] at h1
          cases h1
          exact h2
        | ret v s' => rw [eb] at h1; cases h1; exact h2
        | exc x sl' s' => rw [eb] at h1; cases h1; exact h2
        | bad => rw [eb] at h1; cases h1; exact h2
theorem ps_forX {tg iter : Expr} {body : List Stmt} {t : Tg} {it : It} {b : Ss} (hp : PassesOwn (model X.prog X.w) X.A X.env X.xe) (hc : X.calm = true) (hi : PI X tg iter (tI G W0 cf it)) (hg : PG X tg (tG G t)) (hb : PSs X body (tSs G W0 cf b)) (hs : ∀ x, foldedSetIterable iter X.env x = pure x) :
    PS X (.For tg iter body [] pos) (tS G W0 cf (.forS t it b)) := by
  refine ps_mono (ps_for hp hc hi hg hb hs) fun D σ H ⟨w, sl, s, k, h⟩ => ⟨w, sl, s, k, ?_⟩
  rw [exS] at h
  cases ei : evIt cf sl it s with
  | bad => rw [ei] at h; exact h
  | exc x s1 => rw [ei] at h; exact fun c d w1 H1 p1 k1 rx => h c d σ w1 H1 p1.r (k.stp p1 k1) rx
  | ok ds s1 =>
    rw [ei] at h
    intro i w1 H1 p1 k1 wk
    simp only [Rx.R.st] at h
    have h : PostF G W0 sl σ w H s (forL (forB cf t b) ds sl s1) D := h
    obtain ⟨f, hf⟩ : ∃ f, f = forB cf t b := ⟨_, rfl⟩
    rw [← hf] at h
    have e1 := k.stp p1 k1
    refine ⟨fun j m σ' H' => m = ds.length - j ∧ j ≤ ds.length ∧ ∃ w2 sl2 s2, RStp sl σ w1 H1 s1 sl2 σ' w2 H' s2 ∧ EnvOk G w2 H' sl2 σ' s2 ∧ PostF G W0 sl2 σ' w2 H' s2 (forL f (ds.drop j) sl2 s2) D, ⟨ds.length, by simp, Nat.zero_le _, w1, sl, s1, .same k1 fun _ h => .inl h, e1, ?_⟩, ?_⟩
    · rw [List.drop_zero]; exact h.late p1.r
    · rintro j m σ2 H2 ⟨rfl, hj, w2, sl2, s2, p2, k2, hp2⟩
      have wk2 := wk.rst e1 p2
      rcases Nat.lt_or_ge j ds.length with hlt | hge
      · obtain ⟨g1, g2⟩ := wk2.go hlt
        refine .inr ⟨g1, _, fun σ' H' q => ⟨ds.length - (j + 1), by omega, q⟩, fun x H' y => ?_⟩
        obtain ⟨rfl, d, hd, hr⟩ := g2 x H' y
        have hdr : ds.drop j = d :: ds.drop (j + 1) := by
          obtain ⟨h1, h2⟩ := List.getElem?_eq_some_iff.mp hd
          rw [List.drop_eq_getElem_cons h1, h2]
        rw [hdr, forL] at hp2
        refine ⟨w2, sl2, s2, d, k2, hr, ?_⟩
        have ef : f d sl2 s2 = match asgTg sl2 s2 t (.imm d) with
          | some sl2' => exSs cf b sl2' s2
          | none => .bad := by rw [hf]; rfl
        rw [ef] at hp2
        cases ea : asgTg sl2 s2 t (.imm d) with
        | none => rw [ea] at hp2; exact hp2.elim
        | some sl3 =>
          rw [ea] at hp2
          dsimp only at hp2 ⊢
          intro σ3 k3 c3
          have p3 : RStp sl2 σ2 w2 H' s2 sl3 σ3 w2 H' s2 := RStp.chg k2.st c3 fun m o hm => asgTg_own ea hm
          refine ⟨w2, sl3, s2, k3, ?_⟩
          cases eb : exSs cf b sl3 s2 with
          | nx sl' s' =>
            rw [eb] at hp2
            exact fun σ' w' H4 p' k' => ⟨rfl, hlt, w', sl', s', (p2.trans p3).trans p', k', hp2.late (p3.trans p')⟩
          | cnt sl' s' =>
            rw [eb] at hp2
            exact fun σ' w' H4 p' k' => ⟨rfl, hlt, w', sl', s', (p2.trans p3).trans p', k', hp2.late (p3.trans p')⟩
          | brk sl' s' =>
            rw [eb] at hp2
            exact hp2.late p3
          | ret v s' => rw [eb] at hp2; exact hp2.late p3
          | exc x sl' s' => rw [eb] at hp2; exact hp2.late p3
          | bad => rw [eb] at hp2; exact hp2.elim
      · rw [List.drop_eq_nil_of_le hge, forL] at hp2
        exact .inl ⟨wk2.stop hge, hp2 σ2 w2 H2 (.same k2.st fun _ h => .inl h) k2⟩
end
end Rx
/-! Rx12: does a def's text say what the small language says: expressions. -/
namespace Rx
open PySem L2 PyProof.Rows
/-- what the module's names are -/
structure Tb where
  fns : List (Str × Nat)
  free : List Str
  gi : List (Str × Int)
  gs : List (Str × String)
structure Cxt (G : GC) (T : Tb) (W0 : WX) (cf : CF) (X : Cx) : Prop where
  nd : X.N.Nodup
  K : X.K = G.K
  calm : X.calm = true
  units : X.A.units + 64 < cLine
  fns : ∀ (i : Nat) (x : Str) (n : Nat), T.fns[i]? = some (x, n) → ∃ (k : Nat) (f : Addr) (fd : FuncData) (ps : List Str), ps.length = n ∧ FnOk X.prog X.w X.K X.mg X.base (L2.CX X.prog X.w) k f fd ps (spF G cf i ps.length) ∧ Room k X.A ∧ X.mg x = some (.ref f) ∧ PySem.W.keepIn X.K (.ref f) = true ∧ Binds X.K fd ps []
  free : ∀ x, x ∈ T.free → X.mg x = none
  gi : ∀ x i, (x, i) ∈ T.gi → ∃ t, X.mg x = some (.int i t)
  gs : ∀ x i, (x, i) ∈ T.gs → ∃ t, X.mg x = some (.str (Str.ofString i) t)
  takes : Takes X W0
section
variable {G : GC} {T : Tb} {X : Cx} {W0 : WX} {cf : CF} {pos : Pos}
theorem Cxt.blk (c : Cxt G T W0 cf X) (s : Shared) (H : Hp) (scope : Scope) (cenv : Env) (fp : List Addr) : Cxt G T NoW cf (X.blk s H scope cenv fp) :=
  ⟨c.nd, c.K, c.calm, c.units, c.fns, c.free, c.gi, c.gs, fun u s' ⟨_, _, _, _, _, _, _, _, _, _, _, _, _, _, _, _, w⟩ => False.elim w⟩
/-! ### what is looked at -/
def locB (sc : Scope) (x : Str) : Bool := decide (sc.names.lookup x = some .local) || decide (sc.names.lookup x = some .cell)
def visB (sc : Scope) (x : Str) : Bool := locB sc x || decide (sc.names.lookup x = some .free)
def glB (sc : Scope) (x : Str) : Bool := decide (sc.names.lookup x = some .globalImplicit)
def dbg (x : Str) : Bool := x == ("__debug__" : Str) || x == ("__classdict__" : Str) || x == ("__name__" : Str)
theorem loc_ok {sc : Scope} {x : Str} (h : locB sc x = true) : L2.Loc sc x := by
  simpa [locB, L2.Loc] using h
theorem vis_ok {sc : Scope} {x : Str} (h : visB sc x = true) : Vis sc x := by
  simp only [visB, locB, Bool.or_eq_true, decide_eq_true_eq] at h
  rcases h with (h | h) | h
  · exact .inl h
  · exact .inr (.inl h)
  · exact .inr (.inr h)
theorem gl_ok {x : Str} {sc : Scope} (hs : X.env.scope = sc) (h : glB sc x = true) : Gl X x := by
  have h' : sc.names.lookup x = some .globalImplicit := of_decide_eq_true h
  show X.env.kindOf x = some .globalImplicit
  rw [← hs] at h'
  exact h'
theorem dbg_ok {x : Str} (h : dbg x = false) : (x == ("__debug__" : Str)) = false ∧ (x == ("__classdict__" : Str)) = false ∧ x ≠ "__name__" := by
  simp only [dbg, Bool.or_eq_false_iff] at h
  exact ⟨h.1.1, h.1.2, fun e => by rw [e] at h; simp at h⟩
def noStar : Expr → Bool
  | .Starred _ _ => false
  | _ => true
theorem star1 {x : Expr} {xs : List Expr} {env : Env} (h : noStar x = true) : starEach (x :: xs) env = (false, eval x env) :: starEach xs env := by
  cases x <;> first | rfl | cases h
theorem stars {env : Env} : ∀ {xs : List Expr}, xs.all noStar = true → starEach xs env = xs.map fun x => (false, eval x env)
  | [], _ => rfl
  | x :: xs, h => by
    simp only [List.all_cons, Bool.and_eq_true] at h
    rw [star1 h.1, stars h.2]
    rfl
theorem backs {env : Env} {xs : List Expr} (h : xs.all noStar = true) : (backTo pos (starEach xs env)).any (·.1) = false := by
  rw [stars h]
  induction xs with
  | nil => rfl
  | cons x xs ih =>
    simp only [List.all_cons, Bool.and_eq_true] at h
    simp only [backTo, List.map_cons, List.any_cons, Bool.false_or]
    exact ih h.2
/-- expressions, each by its reading -/
def PEs (G : GC) (W0 : WX) (cf : CF) (X : Cx) : Es → List Expr → Prop
  | .nil, [] => True
  | .cons e es, x :: xs => PE X x (tE G W0 cf e) ∧ PEs G W0 cf X es xs
  | _, _ => False
theorem PEs.pa : ∀ {es : Es} {xs : List Expr}, PEs G W0 cf X es xs → xs.all noStar = true → PA X xs (tEs G W0 cf es)
  | .nil, [], _, _ => pa_nil'
  | .cons e es, x :: xs, h, hs => by
    simp only [List.all_cons, Bool.and_eq_true] at hs
    exact pa_cons' h.1 (PEs.pa h.2 hs.2) (star1 hs.1)
theorem PEs.len : ∀ {es : Es} {xs : List Expr}, PEs G W0 cf X es xs → es.len = xs.length
  | .nil, [], _ => rfl
  | .cons e es, x :: xs, h => congrArg Nat.succ (PEs.len h.2)
/-- the shapes of what one operation makes -/
inductive Kd where
  | bin (op : Operator) | cmp (op : CmpOp) | isNone (neg : Bool) | neg | sub | call (f : Str) | isi (f : Str) (ty : Str)
def vw : Expr → Option (Kd × List Expr)
  | .BinOp a op b _ => some (.bin op, [a, b])
  | .Compare a [.Is] [.Constant .none _ _] _ => some (.isNone false, [a])
  | .Compare a [.IsNot] [.Constant .none _ _] _ => some (.isNone true, [a])
  | .Compare a [op] [b] _ => if behindInMarks op b then none else some (.cmp op, [a, b])
  | .UnaryOp .USub a _ => some (.neg, [a])
  | .Subscript _ (.Slice _ _ _ _) _ => none
  | .Subscript a b _ => some (.sub, [a, b])
  | .Call (.Name f _) [a, .Name ty p] [] _ => if f == ("isinstance" : Str) then some (.isi f ty, [a]) else some (.call f, [a, .Name ty p])
  | .Call (.Name f _) args [] _ => some (.call f, args)
  | _ => none
def binP : Operator → Option P
  | .Add => some .add | .Sub => some .sub | .Mult => some .mul | .FloorDiv => some .fdiv | .Mod => some .mod | .Pow => some .pow
  | _ => none
def cmpP : CmpOp → Option P
  | .Eq => some .eq | .NotEq => some .ne | .Lt => some .lt | .LtE => some .le | .Gt => some .gt | .GtE => some .ge | .In => some .inn | .NotIn => some .nin
  | _ => none
def blP (f : Str) : Option P :=
  if f = "len" then some .len else if f = "max" then some .max2 else if f = "min" then some .min2 else if f = "abs" then some .absI else if f = "int" then some .int1 else if f = "all" then some .allL else if f = "any" then some .anyL else none
def frB (T : Tb) (sc : Scope) (f : Str) : Bool := glB sc f && T.free.contains f
def prB (T : Tb) (sc : Scope) (p : P) (args : List Expr) : Kd → Bool
  | .bin op => decide (binP op = some p)
  | .cmp op => decide (cmpP op = some p)
  | .isNone n => decide (p = if n then .notN else .isN)
  | .neg => decide (p = .neg)
  | .sub => decide (p = .idx)
  | .call f => decide (blP f = some p) && frB T sc f && args.all noStar && !args.isEmpty
  | .isi f ty => (match p with
    | .isi t => decide (ty = Str.ofString t) && isTys.contains t && frB T sc ty && frB T sc f && decide (f = "isinstance") && args.all noStar
    | _ => false)
/-- a test whose text is no special one -/
def ifx : Expr → Bool
  | .IfExp _ _ _ _ => true
  | _ => false
theorem immP (p : P) : ImmP p := by
  intro ds x e
  unfold primD at e
  split at e <;> (try split at e) <;> (try simp only [Option.map_eq_some_iff] at e) <;> first
    | (cases e; done)
    | (cases e; exact ⟨_, rfl⟩)
    | (obtain ⟨a, _, rfl⟩ := e; exact ⟨_, rfl⟩)
def cmpy : P → Bool
  | .eq | .ne | .lt | .le | .gt | .ge | .inn | .nin | .isN | .notN | .isi _ | .allL | .anyL => true
  | _ => false
theorem boolP {p : P} (h : cmpy p = true) : BoolP p := by
  intro ds x e
  unfold primD at e
  split at e <;> first
    | (cases h; done)
    | ((try split at e) <;> (try simp only [Option.map_eq_some_iff] at e) <;> first
      | (cases e; done)
      | (cases e; exact ⟨_, rfl⟩)
      | (obtain ⟨a, _, rfl⟩ := e; exact ⟨_, rfl⟩))
theorem pe_pt {x : Expr} {e : E} (hK : X.K = G.K) (hp : e.plain = true) (h : PE X x (tE G W0 cf e)) (hx : ∀ whole, isTrue x X.env whole = (do let v ← whole; standAt x.pos; holding [v] (truthy v))) : PE X x (tE G W0 cf e) ∧ (ifx x = false → PT X x (tB' G W0 cf e)) :=
  ⟨h, fun _ => pt_plain hp h hK hx⟩
theorem bin_ok {a b : Expr} {ea eb : E} {op : Operator} {p : P} (h : binP op = some p) (ha : PE X a (tE G W0 cf ea)) (hb : PE X b (tE G W0 cf eb)) : PE X (.BinOp a op b pos) (tE G W0 cf (.prim p (.cons ea (.cons eb .nil)))) := by
  cases op <;> first | (cases h; done) | skip
  case Add => cases h; exact pe_bin op_addX pr_add (immP _) ha hb
  case Sub => cases h; exact pe_bin op_sub pr_sub (immP _) ha hb
  case Mult => cases h; exact pe_bin op_mul pr_mul (immP _) ha hb
  case FloorDiv => cases h; exact pe_bin op_fd pr_fdiv (immP _) ha hb
  case Mod => cases h; exact pe_bin op_modN pr_mod (immP _) ha hb
  case Pow => cases h; exact pe_bin op_pow pr_pow (immP _) ha hb
theorem cmp_at (c : Cxt G T W0 cf X) {op : CmpOp} {p : P} (h : cmpP op = some p) : ∃ r, OpR X (compareOp op) r ∧ Pr2 G p r ∧ BoolP p := by
  cases op <;> first | (cases h; done) | skip
  case Eq => cases h; exact ⟨_, op_eqD c.units, by rw [c.K]; exact pr_eq, boolP rfl⟩
  case NotEq => cases h; exact ⟨_, op_neD c.units, by rw [c.K]; exact pr_ne, boolP rfl⟩
  case Lt => cases h; exact ⟨_, op_lt, pr_lt, boolP rfl⟩
  case LtE => cases h; exact ⟨_, op_le, pr_le, boolP rfl⟩
  case Gt => cases h; exact ⟨_, op_gt, pr_gt, boolP rfl⟩
  case GtE => cases h; exact ⟨_, op_ge, pr_ge, boolP rfl⟩
  case In => cases h; exact ⟨_, op_inX (by have := c.units; omega), by rw [c.K]; exact pr_inn, boolP rfl⟩
  case NotIn => cases h; exact ⟨_, op_ninX (by have := c.units; omega), by rw [c.K]; exact pr_nin, boolP rfl⟩
theorem bl_ok (c : Cxt G T W0 cf X) {f : Str} {e : Expr} {es : List Expr} {as : Es} {p : P} {pn : Pos} {sc : Scope} (hsc : X.env.scope = sc) (h : blP f = some p) (hf : frB T sc f = true) (hst : (e :: es).all noStar = true) (ha : PEs G W0 cf X as (e :: es)) : PE X (.Call (.Name f pn) (e :: es) [] pos) (tE G W0 cf (.prim p as)) := by
  obtain ⟨hg, hm⟩ := Bool.and_eq_true_iff.mp hf
  have hg := gl_ok hsc hg
  have hm := c.free f (List.contains_iff_mem.mp hm)
  have hs : (noStar e = true) ∧ es.all noStar = true := by simpa [List.all_cons, Bool.and_eq_true] using hst
  have pa := ha.pa hst
  have he := star1 (xs := es) (env := X.env) hs.1
  have hp := backs (pos := pos) (env := X.env) hs.2
  unfold blP at h
  split at h
  · rename_i q; subst q; cases h; exact pe_blt call_len (by rw [c.K]; exact pn_len) (immP _) hg hm boot_len pa (by decide) (by decide) he hp
  split at h
  · rename_i q; subst q; cases h; exact pe_blt (call_max2 c.calm) pn_max2 (immP _) hg hm boot_max pa (by decide) (by decide) he hp
  split at h
  · rename_i q; subst q; cases h; exact pe_blt (call_min2 c.calm) pn_min2 (immP _) hg hm boot_min pa (by decide) (by decide) he hp
  split at h
  · rename_i q; subst q; cases h; exact pe_blt call_abs pn_abs (immP _) hg hm boot_abs pa (by decide) (by decide) he hp
  split at h
  · rename_i q; subst q; cases h; exact pe_bty call_int1 pn_int1 (immP _) hg hm boot_int pa (by decide) (by decide) he hp
  split at h
  · rename_i q; subst q; cases h; exact pe_blt (cr_all c.calm) (by rw [c.K]; exact pn_all) (immP _) hg hm boot_all pa (by decide) (by decide) he hp
  split at h
  · rename_i q; subst q; cases h; exact pe_blt (cr_any c.calm) (by rw [c.K]; exact pn_any) (immP _) hg hm boot_any pa (by decide) (by decide) he hp
  · cases h
theorem PEs.two {as : Es} {a b : Expr} (h : PEs G W0 cf X as [a, b]) : ∃ ea eb, as = .cons ea (.cons eb .nil) ∧ PE X a (tE G W0 cf ea) ∧ PE X b (tE G W0 cf eb) := by
  match as, h with
  | .cons ea (.cons eb .nil), h => exact ⟨ea, eb, rfl, h.1, h.2.1⟩
theorem PEs.one {as : Es} {a : Expr} (h : PEs G W0 cf X as [a]) : ∃ ea, as = .cons ea .nil ∧ PE X a (tE G W0 cf ea) := by
  match as, h with
  | .cons ea .nil, h => exact ⟨ea, rfl, h.1⟩
theorem isNon_ok {w : W} {H : Hp} {d : D} {v : V} (hd : Cur G w H d v) : decide (v = .non) = isNon d := by
  cases d with
  | non => cases hd; rfl
  | bl _ => cases hd; rfl
  | int _ => cases hd; rfl
  | str _ => cases hd; rfl
  | tup _ => cases hd; rfl
  | lst _ => obtain ⟨_, _, rfl, _⟩ := hd; rfl
  | dic _ => obtain ⟨_, _, rfl, _⟩ := hd; rfl
  | ref _ => cases hd; rfl
theorem isN_rd {n : Bool} {ea : E} {σ : L2.St} {H : Hp} {Q : VK} (h : tE G W0 cf (.prim (if n then .notN else .isN) (.cons ea .nil)) σ H Q) : tUn (fun v H Q => V.non = .non ∧ Q (.bl (if n then !decide (v = .non) else decide (v = .non))) H) (tE G W0 cf ea) σ H Q := by
  obtain ⟨w, sl, s, k, h⟩ := h
  refine one (p := if n then .notN else .isN) (a := ea) (fun w H d x v Q hd hp q => ⟨rfl, ?_⟩) (immP _) k h
  rw [isNon_ok hd]
  cases n with
  | false => simp only [primD, Bool.false_eq_true, if_false] at hp ⊢; cases hp; exact q _ _ rfl (.bl _)
  | true => simp only [primD, if_true] at hp ⊢; cases hp; exact q _ _ rfl (.bl _)
theorem isN_ok {a : Expr} {ea : E} {j : Nat} {p2 : Pos} (ha : PE X a (tE G W0 cf ea)) : PE X (.Compare a [.Is] [.Constant .none j p2] pos) (tE G W0 cf (.prim .isN (.cons ea .nil))) ∧ PT X (.Compare a [.Is] [.Constant .none j p2] pos) (tB' G W0 cf (.prim .isN (.cons ea .nil))) :=
  ⟨pe_mono (pe_cmpR op_isN ha pe_non rfl) fun σ H Q h => isN_rd (n := false) h, pt_mono (pt_cmpR op_isN ha pe_non rfl) fun σ H Q ⟨w, sl, s, k, h⟩ => isN_rd (n := false) ⟨w, sl, s, k, tB_val rfl k (prim_bool (boolP rfl)) h⟩⟩
theorem notN_ok {a : Expr} {ea : E} {j : Nat} {p2 : Pos} (ha : PE X a (tE G W0 cf ea)) : PE X (.Compare a [.IsNot] [.Constant .none j p2] pos) (tE G W0 cf (.prim .notN (.cons ea .nil))) ∧ PT X (.Compare a [.IsNot] [.Constant .none j p2] pos) (tB' G W0 cf (.prim .notN (.cons ea .nil))) :=
  ⟨pe_mono (pe_cmpR op_notN ha pe_non rfl) fun σ H Q h => isN_rd (n := true) h, pt_mono (pt_cmpR op_notN ha pe_non rfl) fun σ H Q ⟨w, sl, s, k, h⟩ => isN_rd (n := true) ⟨w, sl, s, k, tB_val rfl k (prim_bool (boolP rfl)) h⟩⟩
theorem plainIx {b : Expr} (h : ∀ x y z p, b ≠ .Slice x y z p) : PlainIx b := by
  intro o i
  cases b <;> first | rfl | exact absurd rfl (h _ _ _ _)
theorem isTys_ok : (isTys.all fun t => decide (bootBuiltins (Str.ofString t) = some (.type t)) && !dbg (Str.ofString t)) = true := by decide +kernel
theorem isi_ok (c : Cxt G T W0 cf X) {sc : Scope} (hsc : X.env.scope = sc) {a : Expr} {ea : E} {t : String} {p1 p2 : Pos} (ht : isTys.contains t = true) (h1 : frB T sc (Str.ofString t) = true) (h2 : frB T sc ("isinstance" : Str) = true) (hn : noStar a = true) (ha : PE X a (tE G W0 cf ea)) :
    PE X (.Call (.Name ("isinstance" : Str) p1) [a, .Name (Str.ofString t) p2] [] pos) (tE G W0 cf (.prim (.isi t) (.cons ea .nil))) := by
  obtain ⟨g1, m1⟩ := Bool.and_eq_true_iff.mp h1
  obtain ⟨g2, m2⟩ := Bool.and_eq_true_iff.mp h2
  have q := List.all_eq_true.mp isTys_ok t (List.contains_iff_mem.mp ht)
  obtain ⟨q1, q2⟩ := Bool.and_eq_true_iff.mp q
  have q3 := dbg_ok (x := Str.ofString t) (by simpa using q2)
  have hty : PE X (.Name (Str.ofString t) p2) (tC (.ty t)) := pe_bltn (gl_ok hsc g1) (c.free _ (List.contains_iff_mem.mp m1)) (of_decide_eq_true q1) rfl q3.2.2 q3.1
  have pa : PA X [a, .Name (Str.ofString t) p2] (tCons (tE G W0 cf ea) (tCons (tC (.ty t)) tNil)) := pa_cons ha (pa_cons hty pa_nil rfl) (star1 hn)
  refine pe_mono (pe_callB call_isi (gl_ok hsc g2) (c.free _ (List.contains_iff_mem.mp m2)) boot_isinstance pa (by decide) (by decide) (star1 hn) rfl) fun σ H Q ⟨w, sl, s, k, h⟩ => ?_
  exact one (p := .isi t) (a := ea) (r := fun v H Q => rIsi X.K [v, .ty t] H Q) (fun w H d x v Q hd hp q => by
    rw [c.K]
    exact pn_isi ht w H [d] x [v] Q (.cons hd .nil) hp q) (immP _) k h
theorem prim_ok (c : Cxt G T W0 cf X) {sc : Scope} (hsc : X.env.scope = sc) {x : Expr} {k : Kd} {args : List Expr} {p : P} {as : Es} (hv : vw x = some (k, args)) (hp : prB T sc p args k = true) (ha : PEs G W0 cf X as args) :
    PE X x (tE G W0 cf (.prim p as)) ∧ (ifx x = false → PT X x (tB' G W0 cf (.prim p as))) := by
  unfold vw at hv
  split at hv
  · cases hv
    obtain ⟨ea, eb, rfl, h1, h2⟩ := ha.two
    exact pe_pt c.K rfl (bin_ok (of_decide_eq_true hp) h1 h2) fun _ => rfl
  · cases hv
    obtain ⟨ea, rfl, h1⟩ := ha.one
    obtain rfl := of_decide_eq_true hp
    exact ⟨(isN_ok h1).1, fun _ => (isN_ok h1).2⟩
  · cases hv
    obtain ⟨ea, rfl, h1⟩ := ha.one
    obtain rfl := of_decide_eq_true hp
    exact ⟨(notN_ok h1).1, fun _ => (notN_ok h1).2⟩
  · split at hv
    · cases hv
    · rename_i hm
      cases hv
      obtain ⟨ea, eb, rfl, h1, h2⟩ := ha.two
      obtain ⟨r, g1, g2, g3⟩ := cmp_at c (of_decide_eq_true hp)
      have hm := Bool.eq_false_iff.mpr hm
      exact ⟨pe_cmpX g1 g2 g3.imm h1 h2 hm, fun _ => pt_cmpX g1 g2 g3 h1 h2 hm⟩
  · cases hv
    obtain ⟨ea, rfl, h1⟩ := ha.one
    obtain rfl := of_decide_eq_true hp
    exact pe_pt c.K rfl (pe_negX h1) fun _ => rfl
  · cases hv
  · rename_i hns
    cases hv
    obtain ⟨ea, eb, rfl, h1, h2⟩ := ha.two
    obtain rfl := of_decide_eq_true hp
    refine pe_pt c.K rfl (pe_ixX h1 h2 c.K (by have := c.units; omega) ?_) fun _ => rfl
    exact plainIx fun x y z p e => hns x y z p e
  · split at hv
    · rename_i hf
      cases hv
      obtain ⟨ea, rfl, h1⟩ := ha.one
      simp only [prB] at hp
      split at hp
      · simp only [Bool.and_eq_true, decide_eq_true_eq, List.all_cons, List.all_nil, and_true] at hp
        obtain ⟨⟨⟨⟨⟨e1, e2⟩, e3⟩, e4⟩, e5⟩, e6⟩ := hp
        subst e1 e5
        exact pe_pt c.K rfl (isi_ok c hsc e2 e3 e4 e6 h1) fun _ => rfl
      · cases hp
    · cases hv
      simp only [prB, Bool.and_eq_true, decide_eq_true_eq] at hp
      obtain ⟨⟨⟨e1, e2⟩, e3⟩, _⟩ := hp
      exact pe_pt c.K rfl (bl_ok c hsc e1 e2 e3 ha) fun _ => rfl
  · cases hv
    simp only [prB, Bool.and_eq_true, decide_eq_true_eq] at hp
    obtain ⟨⟨⟨e1, e2⟩, e3⟩, e4⟩ := hp
    cases args with
    | nil => cases e4
    | cons y ys => exact pe_pt c.K rfl (bl_ok c hsc e1 e2 e3 ha) fun _ => rfl
  · cases hv
end
end Rx
/-! Rx13: does an expression's text say what the small language says. -/
namespace Rx
open PySem L2 PyProof.Rows
def slotB (N : List Str) (sc : Scope) (i : Nat) : Expr → Bool
  | .Name y _ => decide (N[i]? = some y) && visB sc y && !dbg y
  | _ => false
def cstB : D → Expr → Bool
  | .int i, .Constant (.int j) _ _ => decide (i = j)
  | .str s, .Constant (.str x) _ _ => decide (x = Str.ofString s)
  | .bl b, .Constant (.bool k) _ _ => decide (b = k)
  | .non, .Constant .none _ _ => true
  | _, _ => false
def globB (T : Tb) (sc : Scope) (y : String) (d : D) : Expr → Bool
  | .Name x _ => glB sc x && !dbg x && decide (x = Str.ofString y) && (match d with
    | .int i => T.gi.contains (x, i)
    | .str s => T.gs.contains (x, s)
    | _ => false)
  | _ => false
def bopRest (op : BoolOp) (z : Expr) (r : List Expr) (p : Pos) : Expr := match r with
  | [] => z
  | _ => .BoolOp op (z :: r) p
def noSet : Expr → Bool
  | .Set _ _ _ => false
  | _ => true
def blkB (N : List Str) (sc scope : Scope) (own : List (Str × Nat)) : Bool :=
  decide (scope.kind = .function) && scope.names.all (fun y => decide (scope.names.lookup y.1 = some y.2)) && own.all (fun p => decide (N[p.2]? = some p.1)) &&
  scope.names.all (fun y => decide (y.2 ≠ .free) || (decide (sc.names.lookup y.1 = some .cell) || decide (sc.names.lookup y.1 = some .free))) && scope.names.all (fun y => !(decide (y.2 = .local) || decide (y.2 = .cell)) || (decide (y.1 ∈ own.map (·.1)) || decide (y.1 ∉ N)))
def tgB (fr : Bool) (N : List Str) (sc : Scope) (i : Nat) : Expr → Bool
  | .Name y _ => decide (N[i]? = some y) && (decide (sc.names.lookup y = some .local) || (fr && decide (sc.names.lookup y = some .cell)))
  | _ => false
def tgsB (fr : Bool) (N : List Str) (sc : Scope) : List Nat → List Expr → Bool
  | [], [] => true
  | i :: is, e :: es => tgB fr N sc i e && tgsB fr N sc is es
  | _, _ => false
def chTg (fr : Bool) (N : List Str) (sc : Scope) : Tg → Expr → Bool
  | .slot i, x => tgB fr N sc i x
  | .tup is, x => (match x with
    | .Tuple es _ _ => tgsB fr N sc is es
    | _ => false)
def ownOf (N : List Str) (own : List Nat) : List (Str × Nat) := own.map fun i => (N.getD i "", i)
def plainX : Expr → Bool
  | .BoolOp _ _ _ | .UnaryOp _ _ _ | .IfExp _ _ _ _ | .Compare _ _ _ _ => false
  | _ => true
theorem plainX_ok {x : Expr} {env : Env} (h : plainX x = true) (whole : Sem Value) : PySem.isTrue x env whole = (do let v ← whole; standAt x.pos; holding [v] (truthy v)) := by
  cases x <;> first | rfl | cases h
def isT : E → Bool
  | .cst (.bl true) => true
  | _ => false
def keysB : List D → List (Option Expr) → Bool
  | [], [] => true
  | k :: ks, some e :: es => isKey k && cstB k e && keysB ks es
  | _, _ => false
mutual
def chE (T : Tb) (N : List Str) : E → Scope → Expr → Bool
  | .slot i, sc, x => slotB N sc i x
  | .cst d, _, x => cstB d x
  | .glob y d, sc, x => globB T sc y d x
  | .prim p as, sc, x => (match vw x with
    | some (k, args) => prB T sc p args k && chEs T N as sc args
    | none => false)
  | .and_ a b, sc, x => (match x with
    | .BoolOp .And (y :: z :: r) p => chE T N a sc y && chE T N b sc (bopRest .And z r p) && !ifx y && !ifx (bopRest .And z r p)
    | _ => false)
  | .or_ a b, sc, x => (match x with
    | .BoolOp .Or (y :: z :: r) p => chE T N a sc y && chE T N b sc (bopRest .Or z r p) && !ifx y && !ifx (bopRest .Or z r p)
    | _ => false)
  | .not_ a, sc, x => (match x with
    | .UnaryOp .Not y _ => chE T N a sc y && !ifx y
    | _ => false)
  | .ite c a b, sc, x => (match x with
    | .IfExp y z u _ => chE T N c sc y && chE T N a sc z && chE T N b sc u && c.plain && !ifx y
    | _ => false)
  | .chain p q a b c, sc, x => (match x with
    | .Compare y [o1, o2] [z, u] _ => decide (cmpP o1 = some p) && decide (cmpP o2 = some q) && !lastMarks [o1, o2] [z, u] && chE T N a sc y && chE T N b sc z && chE T N c sc u
    | _ => false)
  | .call f as, sc, x => (match x with
    | .Call (.Name g _) ys [] _ => glB sc g && !dbg g && decide (T.fns[f]? = some (g, as.len)) && ys.all noStar && chEs T N as sc ys
    | _ => false)
  | .tup as, sc, x => (match x with
    | .Tuple ys _ _ => ys.all noStar && decide (as.len ≤ LIM) && chEs T N as sc ys
    | _ => false)
  | .lst as, sc, x => (match x with
    | .List ys _ => ys.all noStar && decide (as.len ≤ LIM) && chEs T N as sc ys
    | _ => false)
  | .dct ks as, sc, x => (match x with
    | .Dict keys values _ => keysB ks keys && decide (ks.filterMap keyD).Nodup && decide (ks.length ≤ 15) && decide (ks.length = as.len) && chEs T N as sc values
    | _ => false)
  | .frz e, sc, x => chE T N e sc x && plainX x
  | .share e, sc, x => chE T N e sc x && plainX x
  | .comp e t own it c, sc, x => (match x with
    | .ListComp y [⟨tg, iter, ifs, as⟩] scope _ => decide (as = 0) && blkB N sc scope (ownOf N own) && chIt T N it sc iter && noSet iter && chTg false N (relS scope sc) t tg && chE T N e (relS scope sc) y && t.slots.all (fun i => own.contains i) &&
      (match ifs with
      | [] => isT c
      | [z] => chE T N c (relS scope sc) z && !ifx z
      | _ => false)
    | _ => false)
def chEs (T : Tb) (N : List Str) : Es → Scope → List Expr → Bool
  | .nil, _, xs => xs.isEmpty
  | .cons e es, sc, xs => (match xs with
    | x :: xs => chE T N e sc x && chEs T N es sc xs
    | [] => false)
def chIt (T : Tb) (N : List Str) : It → Scope → Expr → Bool
  | .range1 a, sc, x => (match x with
    | .Call (.Name f _) [y] [] _ => decide (f = "range") && frB T sc f && noStar y && chE T N a sc y
    | _ => false)
  | .range2 a b, sc, x => (match x with
    | .Call (.Name f _) [y, z] [] _ => decide (f = "range") && frB T sc f && noStar y && noStar z && chE T N a sc y && chE T N b sc z
    | _ => false)
  | .seq a, sc, x => chE T N a sc x
end
section
variable {G : GC} {T : Tb} {X : Cx} {W0 : WX} {cf : CF} {pos : Pos} {N : List Str} {sc : Scope}
theorem slot_ok {i : Nat} {x : Expr} (hN : X.N = N) (hs : X.env.scope = sc) (h : slotB N sc i x = true) : PE X x (tE G W0 cf (.slot i)) ∧ PE X x (tVar i) := by
  cases x with
  | Name y p =>
    simp only [slotB, Bool.and_eq_true, decide_eq_true_eq, Bool.not_eq_true'] at h
    obtain ⟨⟨h1, h2⟩, h3⟩ := h
    subst hN hs
    have q := dbg_ok h3
    exact ⟨pe_slot h1 (vis_ok h2) q.1 q.2.1, pe_var h1 (vis_ok h2) q.1 q.2.1⟩
  | _ => cases h
theorem cst_ok {d : D} {x : Expr} (hK : X.K = G.K) (h : cstB d x = true) : PE X x (tE G W0 cf (.cst d)) ∧ (ifx x = false → PT X x (tB' G W0 cf (.cst d))) := by
  unfold cstB at h
  split at h
  · cases of_decide_eq_true h; exact pe_pt hK rfl (pe_cst pe_int fun _ _ => .int _) fun _ => rfl
  · cases of_decide_eq_true h; exact pe_pt hK rfl (pe_cst pe_str fun _ _ => .str _) fun _ => rfl
  · cases of_decide_eq_true h; exact pe_pt hK rfl (pe_cst pe_bl fun _ _ => .bl _) fun _ => rfl
  · exact pe_pt hK rfl (pe_cst pe_non fun _ _ => .non) fun _ => rfl
  · cases h
theorem glob_ok (c : Cxt G T W0 cf X) (hs : X.env.scope = sc) {y : String} {d : D} {x : Expr} (h : globB T sc y d x = true) : PE X x (tE G W0 cf (.glob y d)) ∧ (ifx x = false → PT X x (tB' G W0 cf (.glob y d))) := by
  cases x with
  | Name z p =>
    simp only [globB, Bool.and_eq_true, decide_eq_true_eq, Bool.not_eq_true'] at h
    obtain ⟨⟨⟨h1, h2⟩, h3⟩, h4⟩ := h
    have q := dbg_ok h2
    split at h4
    · obtain ⟨t, ht⟩ := c.gi _ _ (List.contains_iff_mem.mp h4)
      exact pe_pt c.K rfl (pe_glb (pe_glob (v := .int _) (gl_ok hs h1) ht ⟨t, rfl⟩ q.1) fun _ _ => .int _) fun _ => rfl
    · obtain ⟨t, ht⟩ := c.gs _ _ (List.contains_iff_mem.mp h4)
      exact pe_pt c.K rfl (pe_glb (pe_glob (v := .str _) (gl_ok hs h1) ht ⟨t, rfl⟩ q.1) fun _ _ => .str _) fun _ => rfl
    · cases h4
  | _ => cases h
theorem pw_bool {op : BoolOp} {vs : List Expr} {p : Pos} {t : TT} (h : PT X (.BoolOp op vs p) t) : PW X (.BoolOp op vs p) t := ⟨fun wh pins s σ H Q I q => by
  have := h.run pins s σ H Q I q
  rw [PySem.isTrue] at this ⊢
  exact this⟩
theorem pw_rest {op : BoolOp} {z : Expr} {r : List Expr} {p : Pos} {t : TT} (h : PT X (bopRest op z r p) t) : PW X (.BoolOp op (z :: r) p) t := by
  cases r with
  | nil => cases op with
    | And => exact pw_and1 h
    | Or => exact pw_or1 h
  | cons y r => exact pw_bool h
theorem pe_rest {op : BoolOp} {z : Expr} {r : List Expr} {p : Pos} {t : TE} (h : PE X (bopRest op z r p) t) : PE X (.BoolOp op (z :: r) p) t := by
  cases r with
  | nil => exact pe_one h
  | cons y r => exact h
theorem pe_andR {a z : Expr} {r : List Expr} {ea eb : E} {p2 : Pos} (ha : PE X a (tE G W0 cf ea)) (hb : PE X (.BoolOp .And (z :: r) p2) (tE G W0 cf eb)) : PE X (.BoolOp .And (a :: z :: r) p2) (tE G W0 cf (.and_ ea eb)) :=
  pe_mono (pe_and ha hb) fun σ H Q ⟨w, sl, s, k, h⟩ => by
    rw [evE] at h
    refine bindV k h fun v s1 u w1 H1 p1 k1 r1 h1 => ?_
    split at h1
    · rw [bl_of r1]; exact ⟨true, rfl, by rw [if_pos rfl]; exact tE_of k1 h1⟩
    · rw [bl_of r1]; exact ⟨false, rfl, by rw [if_neg Bool.false_ne_true]; exact h1 _ _ _ (.refl k1.st) k1.st (.bl _)⟩
    · exact h1.elim
theorem pe_orR {a z : Expr} {r : List Expr} {ea eb : E} {p2 : Pos} (ha : PE X a (tE G W0 cf ea)) (hb : PE X (.BoolOp .Or (z :: r) p2) (tE G W0 cf eb)) : PE X (.BoolOp .Or (a :: z :: r) p2) (tE G W0 cf (.or_ ea eb)) :=
  pe_mono (pe_or ha hb) fun σ H Q ⟨w, sl, s, k, h⟩ => by
    rw [evE] at h
    refine bindV k h fun v s1 u w1 H1 p1 k1 r1 h1 => ?_
    split at h1
    · rw [bl_of r1]; exact ⟨false, rfl, by rw [if_neg Bool.false_ne_true]; exact tE_of k1 h1⟩
    · rw [bl_of r1]; exact ⟨true, rfl, by rw [if_pos rfl]; exact h1 _ _ _ (.refl k1.st) k1.st (.bl _)⟩
    · exact h1.elim
/-! ### targets -/
theorem tgN_ok {fr : Bool} (hN : X.N = N) (hs : X.env.scope = sc) (hfr : fr = true → ∀ x, X.fn x = true) {i : Nat} {x : Expr} (h : tgB fr N sc i x = true) : ∃ y p, x = .Name y p ∧ X.N[i]? = some y ∧ L2.Loc X.env.scope y ∧ (X.fn y = true ∨ X.env.scope.names.lookup y = some .local) := by
  cases x with
  | Name y p =>
    simp only [tgB, Bool.and_eq_true, Bool.or_eq_true, decide_eq_true_eq] at h
    obtain ⟨h1, h2⟩ := h
    subst hN hs
    rcases h2 with h2 | ⟨h2, h3⟩
    · exact ⟨y, p, rfl, h1, .inl h2, .inr h2⟩
    · exact ⟨y, p, rfl, h1, .inr h3, .inl (hfr h2 y)⟩
  | _ => cases h
theorem tgs_ok {fr : Bool} (hN : X.N = N) (hs : X.env.scope = sc) (hfr : fr = true → ∀ x, X.fn x = true) : ∀ {is : List Nat} {es : List Expr}, tgsB fr N sc is es = true → TgN X is es
  | [], [], _ => .nil
  | i :: is, e :: es, h => by
    obtain ⟨h1, h2⟩ := Bool.and_eq_true_iff.mp h
    obtain ⟨y, p, rfl, g1, g2, g3⟩ := tgN_ok hN hs hfr h1
    exact .cons g1 g2 g3 (tgs_ok hN hs hfr h2)
theorem tgs_each : ∀ {is : List Nat} {es : List Expr}, TgN X is es → (assignEach es X.env).length = is.length ∧ (assignEach es X.env).findIdx? (·.1) = none
  | _, _, .nil => ⟨rfl, rfl⟩
  | _, _, .cons _ _ _ r => by
    obtain ⟨h1, h2⟩ := tgs_each r
    refine ⟨congrArg Nat.succ h1, ?_⟩
    rw [assignEach]
    · simp only [List.findIdx?_cons, Bool.false_eq_true, if_false, h2]
      rfl
    · intro t p e; cases e
theorem tg_ok {fr : Bool} (c : Cxt G T W0 cf X) (hN : X.N = N) (hs : X.env.scope = sc) (hfr : fr = true → ∀ x, X.fn x = true) {t : Tg} {x : Expr} (h : chTg fr N sc t x = true) : PG X x (tG G t) := by
  cases t with
  | slot i =>
    obtain ⟨y, p, rfl, g1, g2, g3⟩ := tgN_ok hN hs hfr h
    exact pg_slotX c.nd g1 g2 g3
  | tup is =>
    simp only [chTg] at h
    split at h
    · have q := tgs_ok hN hs hfr h
      exact pg_tupX c.calm c.K c.nd q (tgs_each q).1 (tgs_each q).2
    · cases h
theorem blk_ok {scope : Scope} {own : List (Str × Nat)} (hN : X.N = N) (hs : X.env.scope = sc) (h : blkB N sc scope own = true) : BlkOk X.N X.env.scope scope own := by
  subst hN hs
  simp only [blkB, Bool.and_eq_true, decide_eq_true_eq, List.all_eq_true, Bool.or_eq_true, Bool.not_eq_true', Bool.or_eq_false_iff, decide_eq_false_iff_not] at h
  obtain ⟨⟨⟨⟨h1, h2⟩, h3⟩, h4⟩, h5⟩ := h
  refine ⟨h1, fun y hy => h2 y hy, fun p hp => h3 p hp, fun y hy e => ?_, fun y hy e => ?_⟩
  · rcases h4 y hy with z | z
    · exact absurd e z
    · exact z
  · rcases h5 y hy with z | z
    · rcases e with e | e
      · exact absurd e z.1
      · exact absurd e z.2
    · exact z
theorem set_ok {x : Expr} (h : noSet x = true) (env : Env) (y : Value) : foldedSetIterable x env y = pure y := by
  cases x <;> first | rfl | cases h
/-! ### calls -/
theorem pe_call0X {k f i : Nat} {fd : FuncData} {ps : List Str} {x : Str} {pn : Pos} (F : FnOk X.prog X.w X.K X.mg X.base (L2.CX X.prog X.w) k f fd ps (spF G cf i ps.length)) (hn : 0 = ps.length) (hr : Room k X.A) (hg : Gl X x) (hm : X.mg x = some (.ref f)) (hk : PySem.W.keepIn X.K (.ref f) = true) (hb : Binds X.K fd ps [])
    (tk : Takes X W0) (hdb : (x == ("__debug__" : Str)) = false) : PE X (.Call (.Name x pn) [] [] pos) (tE G W0 cf (.call i .nil)) := by
  have base : PE X (.Call (.Name x pn) [] [] pos) (fun σ H Q => spF G cf i ps.length [] H Q (WE W0 σ)) := by
    refine ⟨fun pins s σ H Q I h => ?_⟩
    refine wpAny_Call_Name_kw (ld_glob I hg hm ?_ hdb)
    exact PySem.W.callWith_K0 I.kIn hk (run_fnS (E := WE W0) (us := []) F hr hb (passAt tk σ) I .nil h)
  refine pe_mono base fun σ H Q ⟨w, sl, s, k, h⟩ => ?_
  rw [evE, evEs] at h
  simp only [Rx.R.bind, immsOf] at h
  exact ⟨w, s, [], k.st, .nil, hn, h⟩
theorem call_ok (c : Cxt G T W0 cf X) (hs : X.env.scope = sc) {f : Nat} {as : Es} {g : Str} {pn : Pos} {ys : List Expr} (h1 : glB sc g = true) (h2 : dbg g = false) (h3 : T.fns[f]? = some (g, as.len)) (h4 : ys.all noStar = true) (ha : PEs G W0 cf X as ys) :
    PE X (.Call (.Name g pn) ys [] pos) (tE G W0 cf (.call f as)) := by
  obtain ⟨k, fa, fd, ps, e1, e2, e3, e4, e5, e6⟩ := c.fns _ _ _ h3
  cases ys with
  | nil => match as, ha with
    | .nil, _ => exact pe_call0X e2 e1.symm e3 (gl_ok hs h1) e4 e5 e6 c.takes (dbg_ok h2).1
  | cons y ys =>
    have hst : noStar y = true ∧ ys.all noStar = true := by simpa [List.all_cons, Bool.and_eq_true] using h4
    exact pe_callX e2 e1.symm e3 (gl_ok hs h1) e4 e5 e6 c.takes (ha.pa h4) (dbg_ok h2).1 (star1 hst.1) (backs hst.2)
theorem keys_ok : ∀ {ks : List D} {keys : List (Option Expr)} {as : Es} {values : List Expr}, keysB ks keys = true → PEs G W0 cf X as values → ks.length = as.len →
    ks.map keyD = (ks.filterMap keyD).map some ∧ PPs X pos keys values (trsOf G W0 cf (ks.filterMap keyD) as) ∧ keys.all (·.isSome) = true ∧ keys.length = values.length ∧ keys.length = ks.length
  | [], [], .nil, [], _, _, _ => ⟨rfl, pps_nil, rfl, rfl, rfl⟩
  | k :: ks, some e :: es, .cons a as, v :: vs, h, hv, hl => by
    simp only [keysB, Bool.and_eq_true] at h
    obtain ⟨⟨h1, h2⟩, h3⟩ := h
    obtain ⟨g1, g2, g3, g4, g5⟩ := keys_ok h3 hv.2 (Nat.succ.inj hl)
    have ky : ∃ y, keyD k = some y ∧ PE X e (tC (kV y)) := by
      unfold cstB at h2
      split at h2
      · cases of_decide_eq_true h2; exact ⟨_, rfl, pe_int⟩
      · cases of_decide_eq_true h2; exact ⟨_, rfl, pe_str⟩
      · cases h1
      · cases h1
      · cases h2
    obtain ⟨y, hy, pe⟩ := ky
    refine ⟨?_, ?_, ?_, congrArg Nat.succ g4, congrArg Nat.succ g5⟩
    · rw [List.map_cons, List.filterMap_cons_some hy, List.map_cons, hy, g1]
    · rw [List.filterMap_cons_some hy]
      exact pps_cons pe hv.1 g2
    · simpa using g3
  | [], [], .cons _ _, _, _, _, hl => by cases hl
  | _ :: _, _ :: _, .nil, _, _, _, hl => by cases hl
theorem not_ifx {x : Expr} (h : (!ifx x) = true) : ifx x = false := by simpa using h
mutual
theorem chE_ok : ∀ (e : E) {X : Cx} {W0 : WX} {sc : Scope} {x : Expr}, Cxt G T W0 cf X → X.N = N → X.env.scope = sc → chE T N e sc x = true → PE X x (tE G W0 cf e) ∧ (ifx x = false → PT X x (tB' G W0 cf e))
  | .slot i, X, W0, sc, x, c, hN, hs, h => by
    unfold chE at h
    have q := (slot_ok (G := G) (W0 := W0) (cf := cf) hN hs h).1
    cases x with
    | Name y p => exact pe_pt c.K rfl q fun _ => rfl
    | _ => cases h
  | .cst d, X, W0, sc, x, c, hN, hs, h => by rw [chE] at h; exact cst_ok c.K h
  | .glob y d, X, W0, sc, x, c, hN, hs, h => by rw [chE] at h; exact glob_ok c hs h
  | .prim p as, X, W0, sc, x, c, hN, hs, h => by
    unfold chE at h
    split at h
    · rename_i k args hv
      obtain ⟨h1, h2⟩ := Bool.and_eq_true_iff.mp h
      exact prim_ok c hs hv h1 (chEs_ok as c hN hs h2)
    · cases h
  | .and_ a b, X, W0, sc, x, c, hN, hs, h => by
    unfold chE at h
    split at h
    · rename_i y z r p
      simp only [Bool.and_eq_true] at h
      obtain ⟨⟨⟨h1, h2⟩, h3⟩, h4⟩ := h
      obtain ⟨a1, a2⟩ := chE_ok a c hN hs h1
      obtain ⟨b1, b2⟩ := chE_ok b c hN hs h2
      exact ⟨pe_andR a1 (pe_rest b1), fun _ => (pw_mono (pw_and (a2 (not_ifx h3)) (pw_rest (b2 (not_ifx h4)))) fun σ H Q q => tB_and q).pt⟩
    · cases h
  | .or_ a b, X, W0, sc, x, c, hN, hs, h => by
    unfold chE at h
    split at h
    · rename_i y z r p
      simp only [Bool.and_eq_true] at h
      obtain ⟨⟨⟨h1, h2⟩, h3⟩, h4⟩ := h
      obtain ⟨a1, a2⟩ := chE_ok a c hN hs h1
      obtain ⟨b1, b2⟩ := chE_ok b c hN hs h2
      exact ⟨pe_orR a1 (pe_rest b1), fun _ => (pw_mono (pw_or (a2 (not_ifx h3)) (pw_rest (b2 (not_ifx h4)))) fun σ H Q q => tB_or q).pt⟩
    · cases h
  | .not_ a, X, W0, sc, x, c, hN, hs, h => by
    unfold chE at h
    split at h
    · simp only [Bool.and_eq_true] at h
      obtain ⟨a1, a2⟩ := chE_ok a c hN hs h.1
      exact ⟨pe_notX a1 c.K, fun _ => pt_mono (pt_not (a2 (not_ifx h.2))) fun σ H Q q => tB_not q⟩
    · cases h
  | .ite q a b, X, W0, sc, x, c, hN, hs, h => by
    unfold chE at h
    split at h
    · simp only [Bool.and_eq_true] at h
      obtain ⟨⟨⟨⟨h1, h2⟩, h3⟩, h4⟩, h5⟩ := h
      exact ⟨pe_iteX ((chE_ok q c hN hs h1).2 (not_ifx h5)) h4 (chE_ok a c hN hs h2).1 (chE_ok b c hN hs h3).1, fun z => by cases z⟩
    · cases h
  | .chain p q a b d, X, W0, sc, x, c, hN, hs, h => by
    unfold chE at h
    split at h
    · simp only [Bool.and_eq_true, decide_eq_true_eq, Bool.not_eq_true'] at h
      obtain ⟨⟨⟨⟨⟨h1, h2⟩, h3⟩, h4⟩, h5⟩, h6⟩ := h
      obtain ⟨r1, g1, g2, g3⟩ := cmp_at c h1
      obtain ⟨r2, k1, k2, k3⟩ := cmp_at c h2
      have a1 := (chE_ok a c hN hs h4).1
      have b1 := (chE_ok b c hN hs h5).1
      have d1 := (chE_ok d c hN hs h6).1
      exact ⟨pe_chainX g1 k1 g2 k2 g3 k3.imm a1 b1 d1 h3, fun _ => pt_chainX g1 k1 g2 k2 g3 k3 a1 b1 d1 h3⟩
    · cases h
  | .call f as, X, W0, sc, x, c, hN, hs, h => by
    unfold chE at h
    split at h
    · simp only [Bool.and_eq_true, decide_eq_true_eq, Bool.not_eq_true'] at h
      obtain ⟨⟨⟨⟨h1, h2⟩, h3⟩, h4⟩, h5⟩ := h
      exact pe_pt c.K rfl (call_ok c hs h1 h2 h3 h4 (chEs_ok as c hN hs h5)) fun _ => rfl
    · cases h
  | .tup as, X, W0, sc, x, c, hN, hs, h => by
    unfold chE at h
    split at h
    · simp only [Bool.and_eq_true, decide_eq_true_eq] at h
      exact pe_pt c.K rfl (pe_tupX ((chEs_ok as c hN hs h.2).pa h.1.1) h.1.2) fun _ => rfl
    · cases h
  | .lst as, X, W0, sc, x, c, hN, hs, h => by
    unfold chE at h
    split at h
    · simp only [Bool.and_eq_true, decide_eq_true_eq] at h
      exact pe_pt c.K rfl (pe_lstX ((chEs_ok as c hN hs h.2).pa h.1.1) h.1.2) fun _ => rfl
    · cases h
  | .dct ks as, X, W0, sc, x, c, hN, hs, h => by
    unfold chE at h
    split at h
    · rename_i keys values p
      simp only [Bool.and_eq_true, decide_eq_true_eq] at h
      obtain ⟨⟨⟨⟨h1, h2⟩, h3⟩, h4⟩, h5⟩ := h
      have hv := chEs_ok as c hN hs h5
      obtain ⟨g1, g2, g3, g4, g5⟩ := keys_ok (pos := p) h1 hv h4
      refine pe_pt c.K rfl ?_ fun _ => rfl
      have hlen : (ks.filterMap keyD).length = ks.length := by have := congrArg List.length g1; simpa using this.symm
      cases ks with
      | nil =>
        have e1 : keys = [] := List.length_eq_zero_iff.mp g5
        subst e1
        have e2 : values = [] := List.length_eq_zero_iff.mp g4.symm
        subst e2
        cases as with
        | nil => exact pe_dct0X
        | cons _ _ => cases h4
      | cons k ks => exact pe_dctX g1 h2 g2 g3 g4 (fun z => by rw [z] at g5; cases g5) (by rw [g5]; exact h3) (by rw [hlen]; exact h4) (by rw [hlen]; exact h3)
    · cases h
  | .frz e, X, W0, sc, x, c, hN, hs, h => by
    unfold chE at h
    obtain ⟨h1, h2⟩ := Bool.and_eq_true_iff.mp h
    exact pe_pt c.K rfl (pe_frz (chE_ok e c hN hs h1).1) (plainX_ok h2)
  | .share e, X, W0, sc, x, c, hN, hs, h => by
    unfold chE at h
    obtain ⟨h1, h2⟩ := Bool.and_eq_true_iff.mp h
    exact pe_pt c.K rfl (pe_share (chE_ok e c hN hs h1).1) (plainX_ok h2)
  | .comp e t own it q, X, W0, sc, x, c, hN, hs, h => by
    unfold chE at h
    split at h
    · rename_i y tg iter ifs as scope p
      simp only [Bool.and_eq_true, decide_eq_true_eq] at h
      obtain ⟨⟨⟨⟨⟨⟨⟨h1, h2⟩, h3⟩, h4⟩, h5⟩, h6⟩, h7⟩, h8⟩ := h
      subst h1
      have eo : (ownOf N own).map (·.2) = own := by
        unfold ownOf
        rw [List.map_map]
        exact List.map_id' _
      have bs : ∀ (C : Addr) (cl : List (Str × Addr)), (compEnvC scope cl C X.env).scope = relS scope sc := fun C cl => by rw [← hs]; rfl
      have hp : PE X (.ListComp y [⟨tg, iter, ifs, 0⟩] scope p) (tE G W0 cf (.comp e t ((ownOf N own).map (·.2)) it q)) := by
        refine pe_compX c.calm c.nd (chIt_ok it c hN hs h3 tg) (blk_ok hN hs h2) (fun s H C cl fp => ?_) (fun s H C cl fp => ?_) (fun s H C cl fp => ?_) (fun i hi => ?_) (fun y => set_ok h4 _ y)
        · exact tg_ok (fr := false) (c.blk s H scope (compEnvC scope cl C X.env) fp) hN (bs C cl) (fun z => by cases z) h5
        · refine pts_ifs ?_
          split at h8
          · refine .inl ⟨rfl, ?_⟩
            unfold isT at h8
            split at h8
            · rfl
            · cases h8
          · simp only [Bool.and_eq_true] at h8
            exact .inr ⟨_, rfl, (chE_ok q (c.blk s H scope (compEnvC scope cl C X.env) fp) hN (bs C cl) h8.1).2 (not_ifx h8.2)⟩
          · cases h8
        · exact (chE_ok e (c.blk s H scope (compEnvC scope cl C X.env) fp) hN (bs C cl) h6).1
        · rw [eo]
          exact List.contains_iff_mem.mp (List.all_eq_true.mp h7 i hi)
      rw [eo] at hp
      exact pe_pt c.K rfl hp fun _ => rfl
    · cases h
theorem chEs_ok : ∀ (es : Es) {X : Cx} {W0 : WX} {sc : Scope} {xs : List Expr}, Cxt G T W0 cf X → X.N = N → X.env.scope = sc → chEs T N es sc xs = true → PEs G W0 cf X es xs
  | .nil, X, W0, sc, xs, c, hN, hs, h => by
    unfold chEs at h
    cases xs with
    | nil => trivial
    | cons => cases h
  | .cons e es, X, W0, sc, xs, c, hN, hs, h => by
    unfold chEs at h
    cases xs with
    | nil => cases h
    | cons x xs =>
      obtain ⟨h1, h2⟩ := Bool.and_eq_true_iff.mp h
      exact ⟨(chE_ok e c hN hs h1).1, chEs_ok es c hN hs h2⟩
theorem chIt_ok : ∀ (it : It) {X : Cx} {W0 : WX} {sc : Scope} {x : Expr}, Cxt G T W0 cf X → X.N = N → X.env.scope = sc → chIt T N it sc x = true → ∀ tg, PI X tg x (tI G W0 cf it)
  | .range1 a, X, W0, sc, x, c, hN, hs, h => by
    unfold chIt at h
    split at h
    · simp only [Bool.and_eq_true, decide_eq_true_eq] at h
      obtain ⟨⟨⟨h1, h2⟩, h3⟩, h4⟩ := h
      subst h1
      obtain ⟨g, m⟩ := Bool.and_eq_true_iff.mp h2
      exact fun tg => pi_r1 (gl_ok hs g) (c.free _ (List.contains_iff_mem.mp m)) (chE_ok a c hN hs h4).1 (star1 h3)
    · cases h
  | .range2 a b, X, W0, sc, x, c, hN, hs, h => by
    unfold chIt at h
    split at h
    · simp only [Bool.and_eq_true, decide_eq_true_eq] at h
      obtain ⟨⟨⟨⟨⟨h1, h2⟩, h3⟩, h5⟩, h4⟩, h6⟩ := h
      subst h1
      obtain ⟨g, m⟩ := Bool.and_eq_true_iff.mp h2
      exact fun tg => pi_r2 (gl_ok hs g) (c.free _ (List.contains_iff_mem.mp m)) (chE_ok a c hN hs h4).1 (chE_ok b c hN hs h6).1 (by rw [star1 h3, star1 h5]; rfl) (by rw [star1 h5]; rfl)
    · cases h
  | .seq a, X, W0, sc, x, c, hN, hs, h => by
    unfold chIt at h
    exact fun tg => pi_seqX (chE_ok a c hN hs h).1 c.K
end
end
end Rx
/-! Rx14: does a block's text say what the small language says. -/
namespace Rx
open PySem L2 PyProof.Rows
def noComp : Expr → Bool
  | .ListComp _ _ _ _ | .SetComp _ _ _ _ | .DictComp _ _ _ _ _ => false
  | _ => true
def noTup : Expr → Bool
  | .Tuple _ _ _ => false
  | _ => true
def noSl : Expr → Bool
  | .Slice _ _ _ _ => false
  | _ => true
/-- name = [..]: is the store exchanged -/
def swC (sc : Scope) (y : Str) (py : Pos) (scope : Scope) (pos : Pos) : Bool :=
  decide (sc.names.lookup y = some .local) && (py.line == pos.line) && !(scope.names.any fun (n, k) => n == y && (k == .local || k == .cell))
def swB (sc : Scope) (y : Str) (py : Pos) : Expr → Bool
  | .ListComp _ _ scope pos => !swC sc y py scope pos
  | .SetComp _ _ _ _ | .DictComp _ _ _ _ _ => false
  | _ => true
theorem sw_no {v : Expr} (h : noComp v = true) {t : Option Expr} {l : Nat} {env : Env} : swapsWith v t l env = pure false := by
  cases v <;> first | rfl | cases h
theorem swC_eq {env : Env} {sc : Scope} (hs : env.scope = sc) (hk : sc.kind = .function) {y : Str} {py pos : Pos} {elt : Expr} {gs : List Comprehension} {scope : Scope} {l : Nat} : swapsWith (.ListComp elt gs scope pos) (some (.Name y py)) l env = pure (swC sc y py scope pos) := by
  have hb : env.blockKind = .function := by unfold Env.blockKind; rw [hs, hk]; rfl
  have ky : env.kindOf y = sc.names.lookup y := by rw [← hs]; rfl
  unfold swapsWith swC
  simp only [hb, ky, Expr.pos]
  have e : (sc.names.lookup y == some NameKind.local) = decide (sc.names.lookup y = some .local) := by
    by_cases q : sc.names.lookup y = some .local <;> simp [q]
  rw [e]
  rfl
theorem swB_ok {env : Env} {sc : Scope} (hs : env.scope = sc) (hk : sc.kind = .function) {y : Str} {py : Pos} {v : Expr} {l : Nat} (h : swB sc y py v = true) : swapsWith v (some (.Name y py)) l env = pure false := by
  cases v with
  | ListComp elt gs scope pos =>
    simp only [swB, Bool.not_eq_true'] at h
    rw [swC_eq hs hk, h]
  | SetComp => cases h
  | DictComp => cases h
  | _ => rfl
def isFrz : Sm → Bool
  | .frz _ => true
  | _ => false
/-- the list methods that change -/
def mOf (f : Str) (n : Nat) : Option M :=
  if f = "append" then (if n = 1 then some .app else none) else if f = "pop" then (if n = 0 then some .pop else none) else none
/-- x.m(..), a slot's -/
def mutB (T : Tb) (N : List Str) (sc : Scope) (m : Nat) (op : M) (as : Es) : Expr → Bool
  | .Call (.Attribute o f apos) ys [] cpos => slotB N sc m o && decide (mOf f ys.length = some op) && ys.all noStar && chEs T N as sc ys && (apos.endLine == cpos.line) && decide (ys.length < 30)
  | _ => false
mutual
def chS (T : Tb) (N : List Str) (sc : Scope) : Sm → Stmt → Bool
  | .asg t e, st => (match t, st with
    | .slot i, .Assign [.Name y py] v _ => tgB true N sc i (.Name y py) && chE T N e sc v && (swB sc y py v || (match e, v with
      | .comp _ _ _ _ _, .ListComp _ _ scope cpos => swC sc y py scope cpos
      | _, _ => false))
    | .tup is, .Assign [.Tuple es _ _] v _ => tgsB true N sc is es && chE T N e sc v && noTup v
    | _, _ => false)
  | .par i j a b, st => (match st with
    | .Assign [.Tuple [.Name x px, .Name y py] kt pt] (.Tuple [va, vb] k2 pt2) pos => decide (N[i]? = some x) && decide (N[j]? = some y) && decide (i ≠ j) && decide (sc.names.lookup x = some .local) && decide (sc.names.lookup y = some .local) &&
      decide (x ≠ y) && (py.line == px.line) && !([va, vb].all (foldedForSure 8)) && !([va, vb].all (constantsAlone 8)) && noStar va && noStar vb && chE T N a sc va && chE T N b sc vb
    | _ => false)
  | .setIdx c i v, st => (match st with
    | .Assign [.Subscript xc xi _] xv _ => chE T N c sc xc && chE T N i sc xi && chE T N v sc xv && noSl xi && noComp xv
    | _ => false)
  | .setSlot m i v, st => (match st with
    | .Assign [.Subscript xc xi _] xv _ => slotB N sc m xc && chE T N i sc xi && chE T N v sc xv && noSl xi && noComp xv
    | _ => false)
  | .mut t m op as, st => (match t, st with
    | none, .Expr x _ => mutB T N sc m op as x
    | some i, .Assign [.Name y py] x _ => tgB true N sc i (.Name y py) && mutB T N sc m op as x
    | _, _ => false)
  | .expr e, st => (match st with
    | .Expr v _ => chE T N e sc v && noComp v
    | _ => false)
  | .ifS c a b, st => (match st with
    | .If x p q _ => chE T N c sc x && !ifx x && chSs T N sc a p && chSs T N sc b q
    | _ => false)
  | .forS t it b, st => (match st with
    | .For tg iter body [] _ => chTg true N sc t tg && chIt T N it sc iter && noSet iter && chSs T N sc b body
    | _ => false)
  | .whileS c b, st => (match st with
    | .While x body [] _ => chE T N c sc x && !ifx x && chSs T N sc b body
    | _ => false)
  | .ret e, st => (match st with
    | .Return (some x) _ => chE T N e sc x
    | .Return none _ => (match e with
      | .cst .non => true
      | _ => false)
    | _ => false)
  | .retOwn i, st => (match st with
    | .Return (some x) _ => slotB N sc i x
    | _ => false)
  | .pass, st => (match st with
    | .Pass _ => true
    | .Expr (.Constant (.str _) _ _) _ => true
    | _ => false)
  | .brk, st => (match st with
    | .Break _ => true
    | _ => false)
  | .cnt, st => (match st with
    | .Continue _ => true
    | _ => false)
  | .frz _, _ => false
def chSs (T : Tb) (N : List Str) (sc : Scope) : Ss → List Stmt → Bool
  | .nil, sts => sts.isEmpty
  | .cons a r, sts => if isFrz a then chSs T N sc r sts else (match sts with
    | st :: rest => chS T N sc a st && chSs T N sc r rest
    | [] => false)
end
section
variable {G : GC} {T : Tb} {X : Cx} {W0 : WX} {cf : CF} {pos : Pos} {N : List Str} {sc : Scope}
/-- a def's frame -/
structure Fr (G : GC) (T : Tb) (W0 : WX) (cf : CF) (X : Cx) (N : List Str) (sc : Scope) : Prop where
  c : Cxt G T W0 cf X
  hN : X.N = N
  hs : X.env.scope = sc
  kind : X.env.scope.kind = .function
  fn : ∀ x, X.fn x = true
  own : PassesOwn (model X.prog X.w) X.A X.env X.xe
theorem mut_rd {op : M} (hK : X.K = G.K) {f : Str} {n : Nat} (h : mOf f n = some op) : ∃ (id : String) (r : V → List V → Hp → VK → Prop), Slot "list" f id ∧ typeOf (.builtin id) = pure (.type "method_descriptor") ∧ MtR X id r ∧ MutR G op r := by
  unfold mOf at h
  by_cases q : f = "append"
  · rw [if_pos q] at h
    subst q
    split at h
    · cases h; exact ⟨_, _, PySem.F.slot_list_append, PySem.F.type_list_append, mt_append, mut_app⟩
    · cases h
  rw [if_neg q] at h
  by_cases q : f = "pop"
  · rw [if_pos q] at h
    subst q
    split at h
    · cases h; exact ⟨_, _, PySem.F.slot_list_pop, PySem.F.type_list_pop, mt_pop, mut_pop⟩
    · cases h
  rw [if_neg q] at h
  cases h
theorem attr_base {o : Expr} {f : Str} {env : Env} {t : Sem Value} (h : ∃ y p, o = .Name y p) : attributeBase o f env t = t := by
  obtain ⟨y, p, rfl⟩ := h
  rfl
theorem few {ys : List Expr} {cpos : Pos} {env : Env} (h : ys.all noStar = true) (hl : ys.length < 30) : ((backTo cpos (starEach ys env)).all (fun x => !x.1) && (backToKw cpos (keywordEach [] env)).all (fun x => x.1.isSome)
    && decide (ys.length + ([] : List Keyword).length + (if ([] : List Keyword).isEmpty then 0 else 1) < 30)) = true := by
  have h1 : (backTo cpos (starEach ys env)).all (fun x => !x.1) = true := by
    rw [stars h]
    clear h hl
    induction ys with
    | nil => rfl
    | cons y ys ih => simp only [backTo, List.map_cons, List.all_cons, Bool.not_false, Bool.true_and]; exact ih
  rw [h1]
  have h2 : (backToKw cpos (keywordEach [] env)).all (fun x => x.1.isSome) = true := rfl
  rw [h2]
  simpa using hl
theorem mut_ok (F : Fr G T W0 cf X N sc) {m : Nat} {op : M} {as : Es} {x : Expr} (h : mutB T N sc m op as x = true) : ∃ r, MutR G op r ∧ PE X x (tBM X.K "list" r (tVar m) (tEs G W0 cf as)) ∧ noComp x = true := by
  unfold mutB at h
  split at h
  · rename_i o f apos ys cpos
    simp only [Bool.and_eq_true, decide_eq_true_eq] at h
    obtain ⟨⟨⟨⟨⟨h1, h2⟩, h3⟩, h4⟩, h5⟩, h6⟩ := h
    obtain ⟨id, r, s1, s2, s3, s4⟩ := mut_rd (X := X) (G := G) F.c.K h2
    have ho : ∃ y p, o = .Name y p := by
      cases o with
      | Name y p => exact ⟨y, p, rfl⟩
      | _ => cases h1
    have po := (slot_ok (G := G) (W0 := W0) (cf := cf) F.hN F.hs h1).2
    have pas := chEs_ok as F.c F.hN F.hs h4
    refine ⟨r, s4, ?_, rfl⟩
    cases ys with
    | nil =>
      match as, pas with
      | .nil, _ =>
        have q := pe_bm0 (cpos := cpos) (apos := apos) PySem.F.plainAttrs_list s1 s2 s3 po (attr_base ho) h5
        refine pe_mono q fun σ H Q ⟨v, g1, g2, w, sl, s, k, g3⟩ => ⟨v, g1, g2, ?_⟩
        rw [evEs] at g3
        exact g3 [] w H (.refl k.st) k.st .nil
    | cons y ys =>
      have hst : noStar y = true ∧ ys.all noStar = true := by simpa [List.all_cons, Bool.and_eq_true] using h3
      exact pe_bm PySem.F.plainAttrs_list s1 s2 s3 po (pas.pa h3) (attr_base ho) (few h3 h6) h5 (star1 hst.1) (backs hst.2)
  · cases h
theorem each1 {t : Expr} {env : Env} (h : noStar t = true) : (assignEach [t] env).map (·.2) = [assign t env] := by
  cases t <;> first | rfl | cases h
theorem sub_asg {xc xi : Expr} {p : Pos} (h : noSl xi = true) (env : Env) (v : Value) : assign (.Subscript xc xi p) env v = (do
      let ov ← holding [v] (eval xc env)
      let iv ← holding [v, ov] (eval xi env)
      standAt p
      holding [v, ov, iv] (setItem ov iv v)
      release [v, ov, iv] []) := by
  cases xi <;> first | rfl | cases h
theorem par_sw {x y : Str} {px py pt pt2 : Pos} {kt k2 : Nat} {va vb : Expr} (hs : X.env.scope = sc) (hk : X.env.scope.kind = .function) (h1 : sc.names.lookup x = some .local) (h2 : sc.names.lookup y = some .local) (h3 : x ≠ y) (h4 : (py.line == px.line) = true) (h5 : ([va, vb].all (foldedForSure 8)) = false) (h6 : ([va, vb].all (constantsAlone 8)) = false) (h7 : noStar va = true) (h8 : noStar vb = true) :
    swappedStores [.Tuple [.Name x px, .Name y py] kt pt] (.Tuple [va, vb] k2 pt2) X.env = pure (some [x, y]) := by
  have hb : X.env.blockKind = .function := by unfold Env.blockKind; rw [hk]; rfl
  have k1 : X.env.kindOf x = some .local := by rw [← hs] at h1; exact h1
  have k2 : X.env.kindOf y = some .local := by rw [← hs] at h2; exact h2
  have hst : ([va, vb].any fun | .Starred .. => true | _ => false) = false := by
    cases va <;> first | (cases h7; done) | (cases vb <;> first | rfl | cases h8)
  have e1 : (px.line == px.line) = true := by simp
  have ne : (y == x) = false := by simpa using fun e => h3 e.symm
  have ne2 : (x == y) = false := by simpa using h3
  unfold swappedStores
  simp only [List.length_cons, List.length_nil, hb, hst, List.head?_cons, Option.map_some, Option.getD_some, Expr.pos, List.filterMap_cons, List.filterMap_nil, k1, k2, e1, h4, h5, h6]
  simp [List.eraseDups, List.eraseDupsBy, List.eraseDupsBy.loop, ne, ne2]
  intro z
  rcases z with z | z
  · cases va <;> first | (cases h7; done) | (cases z; done)
  · cases vb <;> first | (cases h8; done) | (cases z; done)
theorem sw_tup {es : List Expr} {k : Nat} {p : Pos} {v : Expr} {l : Nat} {env : Env} : swapsWithSole [.Tuple es k p] v l env = pure false := by
  cases v <;> rfl
theorem sw_sub {a b v : Expr} {p : Pos} {l : Nat} {env : Env} : swapsWithSole [.Subscript a b p] v l env = pure false := by
  cases v <;> rfl
theorem ss_tup {es : List Expr} {k : Nat} {p : Pos} {v : Expr} {env : Env} (h : noTup v = true) : swappedStores [.Tuple es k p] v env = pure none := by
  cases v <;> first | rfl | cases h
theorem ss_sub {a b v : Expr} {p : Pos} {env : Env} : swappedStores [.Subscript a b p] v env = pure none := by
  cases v <;> rfl
theorem compSet_ok (F : Fr G T W0 cf X N sc) {i : Nat} {y : Str} {py : Pos} {e q : E} {t : Tg} {own : List Nat} {it : It} {v : Expr} {gs : List Comprehension} {scope : Scope} {cpos : Pos} (ht : tgB true N sc i (.Name y py) = true) (h : chE T N (.comp e t own it q) sc (.ListComp v gs scope cpos) = true) (hw : swC sc y py scope cpos = true) :
    PS X (.Assign [.Name y py] (.ListComp v gs scope cpos) pos) (tS G W0 cf (.asg (.slot i) (.comp e t own it q))) := by
  have hs := F.hs
  have hN := F.hN
  have c := F.c
  unfold chE at h
  split at h
  · rename_i tg iter ifs as scope p z
    cases z
    simp only [Bool.and_eq_true, decide_eq_true_eq] at h
    obtain ⟨⟨⟨⟨⟨⟨⟨h1, h2⟩, h3⟩, h4⟩, h5⟩, h6⟩, h7⟩, h8⟩ := h
    subst h1
    have eo : (ownOf N own).map (·.2) = own := by
      unfold ownOf
      rw [List.map_map]
      exact List.map_id' _
    have bs : ∀ (C : Addr) (cl : List (Str × Addr)), (compEnvC scope cl C X.env).scope = relS scope sc := fun C cl => by rw [← hs]; rfl
    have hy : sc.names.lookup y = some .local := by
      simp only [swC, Bool.and_eq_true, decide_eq_true_eq] at hw
      exact hw.1.1
    have hi : X.N[i]? = some y := by
      simp only [tgB, Bool.and_eq_true, decide_eq_true_eq] at ht
      rw [hN]; exact ht.1
    have hp : PS X (.Assign [.Name y py] (.ListComp v [⟨tg, iter, ifs, 0⟩] scope cpos) pos) (tS G W0 cf (.asg (.slot i) (.comp e t ((ownOf N own).map (·.2)) it q))) := by
      refine ps_setCompX c.calm c.nd hi (by rw [hs]; exact hy) (by rw [swC_eq hs (by rw [← hs]; exact F.kind), hw]) (chIt_ok it c hN hs h3 tg) (blk_ok hN hs h2) (fun s H C cl fp => ?_) (fun s H C cl fp => ?_) (fun s H C cl fp => ?_) (fun i hi => ?_) (fun y => set_ok h4 _ y)
      · exact tg_ok (fr := false) (c.blk s H scope (compEnvC scope cl C X.env) fp) hN (bs C cl) (fun z => by cases z) h5
      · refine pts_ifs ?_
        split at h8
        · refine .inl ⟨rfl, ?_⟩
          unfold isT at h8
          split at h8
          · rfl
          · cases h8
        · simp only [Bool.and_eq_true] at h8
          exact .inr ⟨_, rfl, (chE_ok q (c.blk s H scope (compEnvC scope cl C X.env) fp) hN (bs C cl) h8.1).2 (not_ifx h8.2)⟩
        · cases h8
      · exact (chE_ok e (c.blk s H scope (compEnvC scope cl C X.env) fp) hN (bs C cl) h6).1
      · rw [eo]
        exact List.contains_iff_mem.mp (List.all_eq_true.mp h7 i hi)
    rw [eo] at hp
    exact hp
  · cases h
mutual
theorem chS_ok : ∀ (a : Sm) {st : Stmt}, Fr G T W0 cf X N sc → chS T N sc a st = true → PS X st (tS G W0 cf a)
  | .asg t e, st, F, h => by
    unfold chS at h
    split at h
    · rename_i i y py v p
      simp only [Bool.and_eq_true, Bool.or_eq_true] at h
      obtain ⟨⟨h1, h2⟩, h3⟩ := h
      rcases h3 with h3 | h3
      · obtain ⟨y2, p2, e1, g1, g2, g3⟩ := tgN_ok (fr := true) F.hN F.hs (fun _ => F.fn) h1
        cases e1
        exact ps_setX F.c.nd g1 g2 (chE_ok e F.c F.hN F.hs h2).1 (swB_ok F.hs (by rw [← F.hs]; exact F.kind) h3) g3
      · split at h3
        · exact compSet_ok F h1 h2 h3
        · cases h3
    · rename_i is es k p v q
      simp only [Bool.and_eq_true] at h
      obtain ⟨⟨h1, h2⟩, h3⟩ := h
      have ht := tgs_ok (fr := true) F.hN F.hs (fun _ => F.fn) h1
      exact ps_tupX F.c.calm F.c.K F.c.nd ht (tgs_each ht).1 (tgs_each ht).2 (chE_ok e F.c F.hN F.hs h2).1 sw_tup (ss_tup h3) (each1 rfl)
    · cases h
  | .par i j a b, st, F, h => by
    unfold chS at h
    split at h
    · simp only [Bool.and_eq_true, decide_eq_true_eq, Bool.not_eq_true'] at h
      obtain ⟨⟨⟨⟨⟨⟨⟨⟨⟨⟨⟨⟨h1, h2⟩, h3⟩, h4⟩, h5⟩, h6⟩, h7⟩, h8⟩, h9⟩, h10⟩, h11⟩, h12⟩, h13⟩ := h
      have a1 := (chE_ok a F.c F.hN F.hs h12).1
      have b1 := (chE_ok b F.c F.hN F.hs h13).1
      exact ps_parX F.c.calm F.c.nd (by rw [F.hN]; exact h1) (by rw [F.hN]; exact h2) h3 (by rw [F.hs]; exact h4) (by rw [F.hs]; exact h5) (pa_cons' a1 (pa_cons' b1 pa_nil' (star1 h11)) (star1 h10))
        (par_sw F.hs F.kind h4 h5 h6 h7 h8 h9 h10 h11) sw_tup
    · cases h
  | .setIdx c i v, st, F, h => by
    unfold chS at h
    split at h
    · simp only [Bool.and_eq_true] at h
      obtain ⟨⟨⟨⟨h1, h2⟩, h3⟩, h4⟩, h5⟩ := h
      exact ps_setIdxX (chE_ok c F.c F.hN F.hs h1).1 (chE_ok i F.c F.hN F.hs h2).1 (chE_ok v F.c F.hN F.hs h3).1 sw_sub ss_sub (each1 rfl) (sub_asg h4 _)
    · cases h
  | .setSlot m i v, st, F, h => by
    unfold chS at h
    split at h
    · simp only [Bool.and_eq_true] at h
      obtain ⟨⟨⟨⟨h1, h2⟩, h3⟩, h4⟩, h5⟩ := h
      exact ps_setSlotX (slot_ok (G := G) (W0 := W0) (cf := cf) F.hN F.hs h1).2 (chE_ok i F.c F.hN F.hs h2).1 (chE_ok v F.c F.hN F.hs h3).1 sw_sub ss_sub (each1 rfl) (sub_asg h4 _)
    · cases h
  | .mut t m op as, st, F, h => by
    unfold chS at h
    split at h
    · obtain ⟨r, g1, g2, g3⟩ := mut_ok F h
      exact ps_mutX g1 F.c.K g2 (sw_no g3)
    · simp only [Bool.and_eq_true] at h
      obtain ⟨h1, h2⟩ := h
      obtain ⟨r, g1, g2, g3⟩ := mut_ok F h2
      obtain ⟨y2, p2, e1, k1, k2, k3⟩ := tgN_ok (fr := true) F.hN F.hs (fun _ => F.fn) h1
      cases e1
      exact ps_mutSetX g1 F.c.K g2 F.c.nd k1 k2 (sw_no g3) k3
    · cases h
  | .expr e, st, F, h => by
    unfold chS at h
    split at h
    · simp only [Bool.and_eq_true] at h
      exact ps_exprX (chE_ok e F.c F.hN F.hs h.1).1 (sw_no h.2)
    · cases h
  | .ifS c a b, st, F, h => by
    unfold chS at h
    split at h
    · simp only [Bool.and_eq_true] at h
      obtain ⟨⟨⟨h1, h2⟩, h3⟩, h4⟩ := h
      exact ps_ifX ((chE_ok c F.c F.hN F.hs h1).2 (not_ifx h2)) (chSs_ok a F h3) (chSs_ok b F h4)
    · cases h
  | .forS t it b, st, F, h => by
    unfold chS at h
    split at h
    · simp only [Bool.and_eq_true] at h
      obtain ⟨⟨⟨h1, h2⟩, h3⟩, h4⟩ := h
      exact ps_forX F.own F.c.calm (chIt_ok it F.c F.hN F.hs h2 _) (tg_ok (fr := true) F.c F.hN F.hs (fun _ => F.fn) h1) (chSs_ok b F h4) (set_ok h3 _)
    · cases h
  | .whileS c b, st, F, h => by
    unfold chS at h
    split at h
    · simp only [Bool.and_eq_true] at h
      obtain ⟨⟨h1, h2⟩, h3⟩ := h
      exact ps_whileX F.own ((chE_ok c F.c F.hN F.hs h1).2 (not_ifx h2)) (chSs_ok b F h3)
    · cases h
  | .ret e, st, F, h => by
    unfold chS at h
    split at h
    · exact ps_retX (chE_ok e F.c F.hN F.hs h).1
    · split at h
      · exact ps_retNX
      · cases h
    · cases h
  | .retOwn i, st, F, h => by
    unfold chS at h
    split at h
    · exact ps_retOwnX (slot_ok (G := G) (W0 := W0) (cf := cf) F.hN F.hs h).2
    · cases h
  | .pass, st, F, h => by
    unfold chS at h
    split at h
    · exact ps_passX ps_pass
    · exact ps_passX ps_doc
    · cases h
  | .brk, st, F, h => by
    unfold chS at h
    split at h
    · exact ps_brkX
    · cases h
  | .cnt, st, F, h => by
    unfold chS at h
    split at h
    · exact ps_cntX
    · cases h
  | .frz _, st, F, h => by
    unfold chS at h
    cases h
theorem chSs_ok : ∀ (a : Ss) {sts : List Stmt}, Fr G T W0 cf X N sc → chSs T N sc a sts = true → PSs X sts (tSs G W0 cf a)
  | .nil, sts, F, h => by
    unfold chSs at h
    cases sts with
    | nil => exact pss_nilX
    | cons => cases h
  | .cons a r, sts, F, h => by
    unfold chSs at h
    split at h
    · rename_i hf
      cases a with
      | frz i => exact pss_frzX (chSs_ok r F h)
      | _ => cases hf
    · split at h
      · obtain ⟨h1, h2⟩ := Bool.and_eq_true_iff.mp h
        exact pss_consX (chS_ok a F h1) (chSs_ok r F h2)
      · cases h
end
end
end Rx
/-! Rx15: defs: each keeps what the small language's run says. -/
namespace Rx
open PySem L2 PyProof.Rows
/-! ### parameters -/
theorem fm_congr {α β : Type} {f g : α → Option β} : ∀ {l : List α}, (∀ a, a ∈ l → f a = g a) → l.filterMap f = l.filterMap g
  | [], _ => rfl
  | a :: l, h => by
    rw [List.filterMap_cons, List.filterMap_cons, h a List.mem_cons_self, fm_congr fun b hb => h b (List.mem_cons_of_mem _ hb)]
theorem zip_get : ∀ {ps : List Str} {us : List Value}, ps.Nodup → us.length = ps.length → ps.filterMap (fun n => ((ps.zip us).lookup n).map (fun v => (n, v))) = ps.zip us
  | [], [], _, _ => rfl
  | p :: ps, u :: us, h, hl => by
    have h1 : p ∉ ps := (List.nodup_cons.mp h).1
    have h2 : ps.Nodup := (List.nodup_cons.mp h).2
    have ih := zip_get (ps := ps) (us := us) h2 (by simpa using hl)
    have e : ps.filterMap (fun n => (((p :: ps).zip (u :: us)).lookup n).map (fun v => (n, v))) = ps.filterMap (fun n => ((ps.zip us).lookup n).map (fun v => (n, v))) := by
      refine fm_congr fun n hn => ?_
      have ne : (n == p) = false := by simpa using fun e => h1 (by rw [← e]; exact hn)
      rw [List.zip_cons_cons, List.lookup_cons, ne]
    rw [List.filterMap_cons, e, ih]
    simp
theorem zip_has : ∀ {ps : List Str} {us : List Value}, us.length = ps.length → ps.filter (fun n => ((ps.zip us).lookup n).isNone) = [] := by
  intro ps us hl
  rw [List.filter_eq_nil_iff]
  intro n hn
  have : ∀ {ps : List Str} {us : List Value}, us.length = ps.length → n ∈ ps → ((ps.zip us).lookup n).isNone = false := by
    intro ps
    induction ps with
    | nil => intro us _ h; cases h
    | cons p ps ih =>
      intro us hl h
      cases us with
      | nil => cases hl
      | cons u us =>
        rw [List.zip_cons_cons, List.lookup_cons]
        by_cases e : n = p
        · simp [e]
        · have ne : (n == p) = false := by simpa using e
          rw [ne]
          exact ih (by simpa using hl) (by simpa [e] using h)
  simp [this hl hn]
theorem bind_all {fd : FuncData} {as : List Arg} {ps : List Str} (hp : fd.params = ⟨[], as, none, [], [], none, []⟩) (ha : as.map (·.arg) = ps) (hn : ps.Nodup) (hd : fd.defaults = .none) {us : List Value} (hl : us.length = ps.length) : bindArgs fd ⟨us, []⟩ = pure (ps.zip us) := by
  have g1 := zip_has (ps := ps) (us := us) hl
  have g2 := zip_get (ps := ps) (us := us) hn hl
  unfold bindArgs
  simp only [hp, hd, ha, List.map_nil, List.nil_append, List.append_nil]
  have hz : notAStandIn Value.none = pure () := rfl
  simp [hl, g1, g2, seqItems?, hz]
/-! ### a def -/
/-- a def of the text and its run -/
structure FD where
  d : He.DefD
  ps : List Str
  N : List Str
  fn : Fn
def chFn (T : Tb) (q : FD) : Bool :=
  decide (q.d.scope.kind = .function) && !q.d.scope.isCoroutine && !q.d.scope.isGenerator && decide q.N.Nodup && decide (q.N.take q.ps.length = q.ps) && q.ps.all (locB q.d.scope) && q.d.scope.names.all (fun y => decide (y.2 ≠ .free)) &&
  decide (q.fn.ar = q.ps.length) && decide (q.fn.sl = q.N.length) && chSs T q.N q.d.scope q.fn.body q.d.body &&
  q.d.params.posonlyargs.isEmpty && q.d.params.vararg.isNone && q.d.params.kwonlyargs.isEmpty && q.d.params.kw_defaults.isEmpty && q.d.params.kwarg.isNone && q.d.params.defaults.isEmpty && decide (q.d.params.args.map (·.arg) = q.ps) && q.d.dfl.isEmpty && q.d.kwd.isEmpty
section
variable {G : GC} {T : Tb} {P : Program} {w₀ : World} {mg : Str → Option Value} {base : Heap} {w w' : W} {H H' : Hp} {s s' : St} {sl sl' : List L} {σ σ' : L2.St}
theorem RStp.stp (p : RStp sl σ w H s sl' σ' w' H' s') (h : ∀ a, ¬ Own sl σ a) : Stp w H s w' H' s' :=
  ⟨fun a o e f => p.keep a o e f (h a), p.zk, fun a e => (p.zn a e).imp id fun z => z.elim id fun z => absurd z (h a), p.nx, p.gk, fun n o e => (p.live n o e).imp id fun z => z.elim id fun z => absurd z (h _), p.there⟩
/-- the slots at the entry -/
theorem entry {ds : List Rx.D} {vs : List V} (k : StOk G w H s) (r : RepDs G w H ds vs) (n : Nat) : EnvOk G w H (ds.map .imm ++ List.replicate n .un) (vs.map some ++ List.replicate n none) s := by
  have hno : ∀ (i : Nat) (o : O), (ds.map L.imm ++ List.replicate n L.un)[i]? ≠ some (L.own o) := fun i o h => by
    have hm := List.mem_of_getElem? h
    rcases List.mem_append.mp hm with h | h
    · obtain ⟨d, _, e⟩ := List.mem_map.mp h; cases e
    · have := List.eq_of_mem_replicate h; cases this
  refine ⟨k, by simp [r.len], fun i d h => ?_, fun i o h => absurd h (hno i o), fun i j o u a h _ _ _ => absurd h (hno i o)⟩
  rcases Nat.lt_or_ge i ds.length with hi | hi
  · rw [List.getElem?_append_left (by simpa using hi), List.getElem?_map] at h
    cases e : ds[i]? with
    | none => rw [e] at h; cases h
    | some d' =>
      rw [e] at h
      cases h
      obtain ⟨v, h1, h2⟩ := r.get e
      refine ⟨v, ?_, h2⟩
      rw [List.getElem?_append_left (by simpa [← r.len] using hi), List.getElem?_map, h1]
      rfl
  · rw [List.getElem?_append_right (by simpa using hi)] at h
    have := List.eq_of_mem_replicate (List.mem_of_getElem? h)
    cases this
theorem entry_own {ds : List Rx.D} {n : Nat} (a : Addr) : ¬ Own (ds.map L.imm ++ List.replicate n L.un) σ a := fun ⟨i, o, h, _⟩ => by
  have hm := List.mem_of_getElem? h
  rcases List.mem_append.mp hm with h | h
  · obtain ⟨d, _, e⟩ := List.mem_map.mp h; cases e
  · have := List.eq_of_mem_replicate h; cases this
/-- what is known of the defs -/
structure Facts (G : GC) (T : Tb) (ds : List FD) (mg : Str → Option Value) : Prop where
  fn : ∀ (i : Nat) (q : FD), ds[i]? = some q → ∃ fd, FunD G.K q.d.name q.d.qual q.d.params q.d.body q.d.scope (q.d.dvs G.K) (q.d.kws G.K) (He.fAd G.K q.d.at_) fd ∧ mg q.d.name = some (.ref (He.fAd G.K q.d.at_))
  free : ∀ x, x ∈ T.free → mg x = none
  gi : ∀ x i, (x, i) ∈ T.gi → ∃ t, mg x = some (.int i t)
  gs : ∀ x i, (x, i) ∈ T.gs → ∃ t, mg x = some (.str (Str.ofString i) t)
def fnsOf (ds : List FD) : List (Str × Nat) := ds.map fun q => (q.d.name, q.ps.length)
def fsOf (ds : List FD) : List Fn := ds.map (·.fn)
theorem binds_ok {q : FD} {f : Addr} {fd : FuncData} (F : FunD G.K q.d.name q.d.qual q.d.params q.d.body q.d.scope (q.d.dvs G.K) (q.d.kws G.K) f fd) (h : chFn T q = true) : Binds G.K fd q.ps [] ∧ ∀ (s : Shared) (us : List Value), us.length = q.ps.length → BindsTo s fd ⟨us, []⟩ (q.ps.zip us) := by
  simp only [chFn, Bool.and_eq_true, decide_eq_true_eq, List.isEmpty_iff, Option.isNone_iff_eq_none] at h
  obtain ⟨⟨⟨⟨⟨⟨⟨⟨⟨⟨⟨⟨⟨⟨⟨⟨⟨⟨h1, h2⟩, h3⟩, h4⟩, h5⟩, h6⟩, h7⟩, h8⟩, h9⟩, h10⟩, h11⟩, h12⟩, h13⟩, h14⟩, h15⟩, h16⟩, h17⟩, h18⟩, h19⟩ := h
  have hps : q.ps.Nodup := by rw [← h5]; exact (List.take_sublist _ _).nodup h4
  have hd : q.d.dvs G.K = [] := by unfold He.DefD.dvs; rw [h18]; rfl
  rw [hd] at F
  have hpar : q.d.params = ⟨[], q.d.params.args, none, [], [], none, []⟩ := by
    cases hq : q.d.params with
    | mk a b c d e f g =>
      rw [hq] at h11 h12 h13 h14 h15 h16
      simp only at h11 h12 h13 h14 h15 h16
      rw [h11, h12, h13, h14, h15, h16]
  exact ⟨F.bindsN fun _ _ _ _ _ _ us hl => bind_all (as := q.d.params.args) hpar h17 hps rfl hl, fun s us hl => F.bindsA (fun _ _ _ _ _ _ us hl => bind_all (as := q.d.params.args) hpar h17 hps rfl hl) s us hl⟩
theorem spF_len {cf : CF} {i n : Nat} (vs : List V) (H : Hp) (Q : VK) (E : XK) (h : spF G cf i n vs H Q E) : vs.length = n := by
  obtain ⟨w, s, ds, _, r, hl, _⟩ := h
  rw [← r.len]; exact hl
theorem fns_ok {ds : List FD} (hT : T.fns = fnsOf ds) (hc : ds.all (chFn T) = true) (F : Facts G T ds mg) : ∀ (d i : Nat) (q : FD) (fd : FuncData), ds[i]? = some q → FunD G.K q.d.name q.d.qual q.d.params q.d.body q.d.scope (q.d.dvs G.K) (q.d.kws G.K) (He.fAd G.K q.d.at_) fd →
    FnOk P w₀ G.K mg base (L2.CX P w₀) d (He.fAd G.K q.d.at_) fd q.ps (spF G (callD (fsOf ds) d) i q.ps.length)
  | 0, i, q, fd, hq, hf => ⟨spF_len, fun A outer s H args us vs Q E _ _ _ _ h => by
      obtain ⟨_, _, _, _, _, _, h⟩ := h
      rw [callD] at h
      exact h.elim⟩
  | d + 1, i, q, fd, hq, hf => by
    have hcq := List.all_eq_true.mp hc q (List.mem_of_getElem? hq)
    have hb := binds_ok hf hcq
    have hcq' := hcq
    simp only [chFn, Bool.and_eq_true, decide_eq_true_eq, Bool.not_eq_true'] at hcq
    obtain ⟨⟨⟨⟨⟨⟨⟨⟨⟨⟨⟨⟨⟨⟨⟨⟨⟨⟨h1, h2⟩, h3⟩, h4⟩, h5⟩, h6⟩, h7⟩, h8⟩, h9⟩, h10⟩, h11⟩, h12⟩, h13⟩, h14⟩, h15⟩, h16⟩, h17⟩, h18⟩, h19⟩ := hcq
    have S : FnScope q.N q.ps q.d.scope := ⟨h1, h2, h3, h4, h5, fun x hx => loc_ok (List.all_eq_true.mp h6 x hx), fun y hy => of_decide_eq_true (List.all_eq_true.mp h7 y hy)⟩
    refine FunD.ok hf S spF_len fun cdv A outer s₀ H vs Q E hr h => ?_
    refine ⟨tSs G (fun cls d _ H => E cls d H) (callD (fsOf ds) d) q.fn.body, ?_, ?_⟩
    · refine chSs_ok (T := T) (N := q.N) (sc := q.d.scope) _ ⟨⟨h4, rfl, rfl, ?_, fun j x n hj => ?_, F.free, F.gi, F.gs, takes_of (E := E) rfl rfl rfl rfl⟩, rfl, rfl, h1, fun _ => rfl, passes_of rfl⟩ h10
      · have := hr.un; show A.units + 3 + 64 < cLine; have e : (A.deeper (envOfC q.d.qual q.d.scope s₀.heap.objs.size (He.fAd G.K q.d.at_) cdv)).units = A.units + 3 := rfl; rw [e] at this; omega
      · rw [hT] at hj
        unfold fnsOf at hj
        rw [List.getElem?_map] at hj
        cases e : ds[j]? with
        | none => rw [e] at hj; cases hj
        | some q2 =>
          rw [e] at hj
          cases hj
          obtain ⟨fd2, hf2, hm2⟩ := F.fn j q2 e
          have hc2 := List.all_eq_true.mp hc q2 (List.mem_of_getElem? e)
          exact ⟨d, _, fd2, q2.ps, rfl, fns_ok hT hc F d j q2 fd2 e hf2, hr, hm2, hf2.kp, (binds_ok hf2 hc2).1⟩
    · obtain ⟨w, s, as, k, r, hl, h⟩ := h
      have hfs : (fsOf ds)[i]? = some q.fn := by unfold fsOf; rw [List.getElem?_map, hq]; rfl
      have e1 : q.N.length - vs.length = q.fn.sl - q.fn.ar := by rw [h9, h8, ← r.len, hl]
      have k0 := entry k r (q.fn.sl - q.fn.ar)
      rw [← e1] at k0
      refine ⟨w, _, s, k0, ?_⟩
      rw [callD, hfs] at h
      simp only [hl, h8, if_true] at h
      rw [e1]
      rw [h8]
      have no : ∀ {σ : L2.St} (a : Addr), ¬ Own (as.map L.imm ++ List.replicate (q.fn.sl - q.ps.length) L.un) σ a := fun {σ} a => entry_own a
      cases ex : exSs (callD (fsOf ds) d) q.fn.body (as.map L.imm ++ List.replicate (q.fn.sl - q.ps.length) L.un) s with
      | nx sl' s' =>
        rw [ex] at h
        exact fun σ' w' H' p k' => h _ w' H' (p.stp no) k'.st .non
      | ret v s' =>
        rw [ex] at h
        intro u w' H' p k' rt
        refine h u w' H' (p.stp no) k' ?_
        cases v with
        | imm d => exact rt
        | peek o => exact rt.elim
        | own o =>
          obtain ⟨a, g1, g2, g3, g4, g5, g6⟩ := rt
          exact ⟨a, g1, g2, g3, g4, g5, g6.elim (fun z => absurd z (no a)) id⟩
      | exc x sl' s' =>
        rw [ex] at h
        exact fun c d σ' w' H' p k' rx => h c d w' H' (p.stp no) k'.st rx
      | brk sl' s' => rw [ex] at h; exact h.elim
      | cnt sl' s' => rw [ex] at h; exact h.elim
      | bad => rw [ex] at h; exact h.elim
end
end Rx
/-! Rx16: a law's end. -/
namespace Rx
open PySem L2 PyProof.Rows
def faOf (T : Tb) (ds : List FD) : List He.Fa := ds.map (fun q => He.Fa.glo q.d.name) ++ (T.free.map He.Fa.free ++ (T.gi.map (fun p => He.Fa.int p.1 p.2) ++ T.gs.map (fun p => He.Fa.str p.1 (Str.ofString p.2))))
theorem facts_of {T : Tb} {ds : List FD} {K : PySem.W.Frag} {cl : Nat → Addr} {h : Heap} {mg : Str → Option Value} (X : K.In h) (M : h.Ns mainGlobals mg) (c : He.SaysD (faOf T ds) (ds.map (·.d)) K) (hat : ds.all (fun q => decide (q.d.at_ = (q.d.name, none))) = true) : Facts ⟨K, cl⟩ T ds mg where
  fn := fun i q hq => by
    obtain ⟨fd, F⟩ := c.def_ i (d := q.d) (by rw [List.getElem?_map, hq]; rfl)
    refine ⟨fd, F, ?_⟩
    have ha := of_decide_eq_true (List.all_eq_true.mp hat q (List.mem_of_getElem? hq))
    have g := c.fact i (f := .glo q.d.name) (by
      unfold faOf
      rw [List.getElem?_append_left (by rw [List.length_map]; exact (List.getElem?_eq_some_iff.mp hq).1), List.getElem?_map, hq]
      rfl)
    rw [ha]
    exact He.glo_ok X M g
  free := fun x hx => by
    obtain ⟨i, hi⟩ := List.getElem?_of_mem (show He.Fa.free x ∈ faOf T ds from List.mem_append_right _ (List.mem_append_left _ (List.mem_map.mpr ⟨x, hx, rfl⟩)))
    exact He.free_ok X M (c.fact i hi)
  gi := fun x i hx => by
    obtain ⟨j, hj⟩ := List.getElem?_of_mem (show He.Fa.int x i ∈ faOf T ds from List.mem_append_right _ (List.mem_append_right _ (List.mem_append_left _ (List.mem_map.mpr ⟨(x, i), hx, rfl⟩))))
    exact He.int_ok X M (c.fact j hj)
  gs := fun x i hx => by
    obtain ⟨j, hj⟩ := List.getElem?_of_mem (show He.Fa.str x (Str.ofString i) ∈ faOf T ds from List.mem_append_right _ (List.mem_append_right _ (List.mem_append_right _ (List.mem_map.mpr ⟨(x, i), hx, rfl⟩))))
    exact He.str_ok X M (c.fact j hj)
/-- the numbers of a script -/
theorem ints_rep {G : GC} {w : W} {H : Hp} : ∀ ns : List Int, RepDs G w H (ns.map D.int) (ns.map V.int)
  | [] => .nil
  | n :: ns => .cons (.int n) (ints_rep ns)
theorem st_none {G : GC} {H : Hp} {g : Nat → Addr} : StOk G ⟨fun _ => False, g, 0⟩ H St.none :=
  ⟨rfl, fun _ _ h => (by cases h), fun _ _ h => (by cases h), fun _ _ h => (by cases h), fun _ _ _ _ h => (by cases h), fun _ h => h.elim⟩
theorem law_at {T : Tb} {ds : List FD} {P : Program} {w₀ : World} {K : PySem.W.Frag} {h : Heap} {mg : Str → Option Value} {fa : Addr} {x : Str} {i dd n : Nat} {q : FD} (X : K.In h) (M : h.Ns mainGlobals mg) (c : He.SaysD (faOf T ds) (ds.map (·.d)) K) (hat : ds.all (fun q => decide (q.d.at_ = (q.d.name, none))) = true) (hT : T.fns = fnsOf ds) (hc : ds.all (chFn T) = true) (hq : ds[i]? = some q) (hps : q.ps = [x]) (hfa : mg q.d.name = some (.ref fa))
    (plain : ∀ ns : List Int, ns.length ≤ n → ∃ s', callD (fsOf ds) dd i [.lst (ns.map D.int)] St.none = .ok (.imm (.bl true)) s') :
    ∃ (fd : FuncData) (sp : Sp), (∀ (s : Shared) (u : Value), BindsTo s fd ⟨[u], []⟩ [(x, u)]) ∧ (∀ (H : Hp) (a : Addr) (ns : List Int), ns.length ≤ n → Only H → SqL K H a (ns.map V.int) → sp [.ref a] H (fun v _ => v = .bl true) fun _ _ _ => False) ∧
      ∀ base : Heap, K.In base → base.Ns mainGlobals mg → FnOk P w₀ K mg base (L2.CX P w₀) dd fa fd [x] sp := by
  have F := facts_of (cl := fun _ => 0) X M c hat
  obtain ⟨fd, hf, hm⟩ := F.fn i q hq
  have hcq := List.all_eq_true.mp hc q (List.mem_of_getElem? hq)
  have e := hfa.symm.trans hm
  cases e
  have hb := (binds_ok hf hcq).2
  rw [hps] at hb
  refine ⟨fd, spF ⟨K, fun _ => 0⟩ (callD (fsOf ds) dd) i q.ps.length, fun s u => hb s [u] rfl, fun H a ns hl hO hS => ?_, fun base _ _ => ?_⟩
  · obtain ⟨s', hs⟩ := plain ns hl
    refine ⟨⟨fun _ => False, fun _ => 0, 0⟩, St.none, [.lst (ns.map D.int)], st_none, .cons (.lst ?_ (ints_rep ns)) .nil, by rw [hps]; rfl, ?_⟩
    · rcases hS with (h1 | h1) | h1
      · rcases hO a with z | ⟨o, xs, z⟩
        · rw [h1] at z; cases z
        · rw [h1] at z; cases z
      · exact .inr (.inl h1)
      · exact .inr (.inr fun H' => .inr h1)
    · rw [hs]
      exact fun v w' H' _ _ r => bl_of r
  · have := fns_ok (P := P) (w₀ := w₀) (base := base) hT hc F dd i q fd hq hf
    rw [hps] at this ⊢
    exact this
theorem cx_none {P : Program} {w : World} {H : Hp} {s s' : Shared} {e : Value} (h : L2.CX P w [] H s (fun _ _ _ => False) e s') : False := by
  obtain ⟨_, _, _, _, _, _, _, _, _, _, _, _, z⟩ := h
  exact z
/-- a law whose defs may let errors out, caught within -/
theorem walkX {law : PySem.W.OpenLaw} {m k : Nat} {q : Program} {loose : List Str} {XP : (Str → Option Value) → Heap → Prop} {YP : World → Heap → Prop} {d : DefRec} {x : Str} (h1 : law.most = some m) (h2 : m ≤ sizeLine) (h3 : d.params.defaults = []) (h4 : Room k callerA)
    (h5 : ∀ (w : World) (mg : Str → Option Value) (fa : Addr) (h : Heap), YP w h → h.Ns mainGlobals mg → mg d.name = some (.ref fa) → ∃ K : PySem.W.Frag, K.In h ∧ ∃ (fd : FuncData) (sp : Sp), (∀ (s : Shared) (u : Value), BindsTo s fd ⟨[u], []⟩ [(x, u)]) ∧
      (∀ (H : Hp) (a : Addr) (ns : List Int), ns.length ≤ m → Only H → SqL K H a (ns.map V.int) → sp [.ref a] H (fun v _ => v = .bl true) fun _ _ _ => False) ∧ ∀ base : Heap, K.In base → base.Ns mainGlobals mg → FnOk law.prog w K mg base (L2.CX law.prog w) k fa fd [x] sp) :
    PySem.W.WalkO q loose XP YP law.row.toRowW d [] (fun f vs => PySem.call f vs) := by
  refine Att.attach_call h1 h3 ?_
  intro w s₀ s₁ mg mb fa o pm cd doc a vs ns hG hY ho hd hcd hmg hobj hints hlen hgens
  obtain ⟨K, hK, fd, sp, g1, g2, g3⟩ := h5 w mg fa _ hY hG.T.g hmg
  refine law_call (CX := L2.CX law.prog w) hK hG.T.g hG.T.b hG.T.builtins hG.T.nolimit hgens hobj hints (Nat.le_trans hlen h2) h4 g3 g1 ?_ ?_
  · exact fun H k1 k2 => g2 H a ns hlen k1 k2
  · exact fun H e s' z => cx_none z
end Rx
/-! Rx17: what the laws have in common: cells, feeds, draws; loops. Plain. -/
namespace Rx
/-! ### states -/
@[simp] theorem St.set_self {s : St} {n : Nat} {o : O} : (s.set n o).ob n = some o := by simp [St.set]
@[simp] theorem St.set_other {s : St} {n m : Nat} {o : O} (h : m ≠ n) : (s.set n o).ob m = s.ob m := by simp [St.set, h]
@[simp] theorem St.add_self {s : St} {o : O} : (s.add o).ob s.nx = some o := by simp [St.add]
@[simp] theorem St.add_nx {s : St} {o : O} : (s.add o).nx = s.nx + 1 := rfl
@[simp] theorem St.set_nx {s : St} {n : Nat} {o : O} : (s.set n o).nx = s.nx := rfl
/-! ### one step at a time -/
section
variable {cf : CF} {sl : List L} {s : St} {i j : Int}
@[simp] theorem ev_slot {n : Nat} : evE cf sl (.slot n) s = (match sl[n]? with
    | some (.imm d) => .ok (.imm d) s
    | some (.own o) => .ok (.peek o) s
    | _ => .bad) := by rw [evE] <;> rfl
@[simp] theorem ev_cst {d : D} : evE cf sl (.cst d) s = .ok (.imm d) s := by rw [evE] <;> rfl
@[simp] theorem ev_glob {x : String} {d : D} : evE cf sl (.glob x d) s = .ok (.imm d) s := by rw [evE] <;> rfl
@[simp] theorem ev_prim {p : P} {as : Es} : evE cf sl (.prim p as) s = (evEs cf sl as s).bind fun rs s' => primR p rs s' := by rw [evE] <;> rfl
@[simp] theorem ev_and {a b : E} : evE cf sl (.and_ a b) s = (evE cf sl a s).bind fun r s' => match r with
    | .imm (.bl true) => evE cf sl b s'
    | .imm (.bl false) => .ok (.imm (.bl false)) s'
    | _ => .bad := by rw [evE] <;> rfl
@[simp] theorem ev_or {a b : E} : evE cf sl (.or_ a b) s = (evE cf sl a s).bind fun r s' => match r with
    | .imm (.bl false) => evE cf sl b s'
    | .imm (.bl true) => .ok (.imm (.bl true)) s'
    | _ => .bad := by rw [evE] <;> rfl
@[simp] theorem ev_not {a : E} : evE cf sl (.not_ a) s = (evE cf sl a s).bind fun r s' => (testR r s').bind fun b s2 => .ok (.imm (.bl (!b))) s2 := by rw [evE] <;> rfl
@[simp] theorem ev_ite {c a b : E} : evE cf sl (.ite c a b) s = (evE cf sl c s).bind fun r s' => (testR r s').bind fun k s2 => if k then evE cf sl a s2 else evE cf sl b s2 := by rw [evE] <;> rfl
@[simp] theorem ev_chain {p q : P} {a b c : E} : evE cf sl (.chain p q a b c) s = (evE cf sl a s).bind fun x s1 => (evE cf sl b s1).bind fun y s2 => (primR p [x, y] s2).bind fun r s3 => match r with
    | .imm (.bl true) => (evE cf sl c s3).bind fun z s4 => primR q [y, z] s4
    | .imm (.bl false) => .ok (.imm (.bl false)) s3
    | _ => .bad := by rw [evE] <;> rfl
@[simp] theorem ev_call {f : Nat} {as : Es} : evE cf sl (.call f as) s = (evEs cf sl as s).bind fun rs s' => match immsOf rs with
    | some ds => cf f ds s'
    | none => .bad := by rw [evE] <;> rfl
@[simp] theorem ev_tup {as : Es} : evE cf sl (.tup as) s = (evEs cf sl as s).bind fun rs s' => match immsOf rs with
    | some ds => .ok (.imm (.tup ds)) s'
    | none => .bad := by rw [evE] <;> rfl
@[simp] theorem ev_lst {as : Es} : evE cf sl (.lst as) s = (evEs cf sl as s).bind fun rs s' => match immsOf rs with
    | some ds => .ok (.own (.lst ds)) s'
    | none => .bad := by rw [evE] <;> rfl
@[simp] theorem ev_dct {ks : List D} {as : Es} : evE cf sl (.dct ks as) s = (evEs cf sl as s).bind fun rs s' => match immsOf rs with
    | some ds => .ok (.own (.dic (ks.zip ds))) s'
    | none => .bad := by rw [evE] <;> rfl
@[simp] theorem ev_frz {e : E} : evE cf sl (.frz e) s = (evE cf sl e s).bind fun r s' => match r with
    | .own (.lst xs) => .ok (.imm (.lst xs)) s'
    | .own (.dic ks) => .ok (.imm (.dic ks)) s'
    | .imm d => .ok (.imm d) s'
    | _ => .bad := by rw [evE] <;> rfl
@[simp] theorem ev_share {e : E} : evE cf sl (.share e) s = (evE cf sl e s).bind fun r s' => match r with
    | .own o => .ok (.imm (.ref s'.nx)) (s'.add o)
    | _ => .bad := by rw [evE] <;> rfl
@[simp] theorem ev_comp {e c : E} {t : Tg} {own : List Nat} {it : It} : evE cf sl (.comp e t own it c) s = (evIt cf sl it s).bind fun xs s' => compL (compF cf sl own t c e) xs [] s' := by rw [evE] <;> rfl
@[simp] theorem evs_nil : evEs cf sl .nil s = .ok [] s := by rw [evEs] <;> rfl
@[simp] theorem evs_cons {e : E} {es : Es} : evEs cf sl (.cons e es) s = (evE cf sl e s).bind fun r s' => (evEs cf sl es s').bind fun rs s2 => .ok (r :: rs) s2 := by rw [evEs] <;> rfl
@[simp] theorem evi_r1 {a : E} : evIt cf sl (.range1 a) s = (evE cf sl a s).bind fun r s' => match r with
    | .imm (.int n) => if n < 4611686018427387904 ∧ -4611686018427387904 ≤ n then .ok (rangeD 0 n.toNat) s' else .bad
    | _ => .bad := by rw [evIt] <;> rfl
@[simp] theorem evi_r2 {a b : E} : evIt cf sl (.range2 a b) s = (evE cf sl a s).bind fun x s1 => (evE cf sl b s1).bind fun y s2 => match x, y with
    | .imm (.int i), .imm (.int j) => if (i < 4611686018427387904 ∧ -4611686018427387904 ≤ i) ∧ j < 4611686018427387904 ∧ -4611686018427387904 ≤ j then .ok (rangeD i (j - i).toNat) s2 else .bad
    | _, _ => .bad := by rw [evIt] <;> rfl
@[simp] theorem evi_seq {a : E} : evIt cf sl (.seq a) s = (evE cf sl a s).bind fun r s' => match r with
    | .imm d => (match seqD d with
      | some xs => .ok xs s'
      | none => .bad)
    | .own (.lst xs) => .ok xs s'
    | _ => .bad := by rw [evIt] <;> rfl
@[simp] theorem testE_eq {e : E} : testE cf e sl s = tsE cf sl e s := rfl
@[simp] theorem ts_and {a b : E} : tsE cf sl (.and_ a b) s = (tsE cf sl a s).bind fun k s' => if k then tsE cf sl b s' else .ok false s' := by rw [tsE] <;> rfl
@[simp] theorem ts_or {a b : E} : tsE cf sl (.or_ a b) s = (tsE cf sl a s).bind fun k s' => if k then .ok true s' else tsE cf sl b s' := by rw [tsE] <;> rfl
@[simp] theorem ts_not {a : E} : tsE cf sl (.not_ a) s = (tsE cf sl a s).bind fun k s' => .ok (!k) s' := by rw [tsE] <;> rfl
@[simp] theorem ts_slot {n : Nat} : tsE cf sl (.slot n) s = (evE cf sl (.slot n) s).bind testR := tsE_plain rfl s
@[simp] theorem ts_cst {n : D} : tsE cf sl (.cst n) s = (evE cf sl (.cst n) s).bind testR := tsE_plain rfl s
@[simp] theorem ts_prim {p : P} {as : Es} : tsE cf sl (.prim p as) s = (evE cf sl (.prim p as) s).bind testR := tsE_plain rfl s
@[simp] theorem ts_chain {p q : P} {a b c : E} : tsE cf sl (.chain p q a b c) s = (evE cf sl (.chain p q a b c) s).bind testR := tsE_plain rfl s
@[simp] theorem ts_call {f : Nat} {as : Es} : tsE cf sl (.call f as) s = (evE cf sl (.call f as) s).bind testR := tsE_plain rfl s
@[simp] theorem ex_nil : exSs cf .nil sl s = .nx sl s := by rw [exSs] <;> rfl
@[simp] theorem ex_cons {a : Sm} {r : Ss} : exSs cf (.cons a r) sl s = (exS cf a sl s).seq fun sl' s' => exSs cf r sl' s' := by rw [exSs] <;> rfl
@[simp] theorem ex_asg {t : Tg} {e : E} : exS cf (.asg t e) sl s = (evE cf sl e s).st sl fun r s' => match asgTg sl s' t r with
    | some sl' => .nx sl' s'
    | none => .bad := by rw [exS] <;> rfl
@[simp] theorem ex_par {n m : Nat} {a b : E} : exS cf (.par n m a b) sl s = (evE cf sl a s).st sl fun x s1 => (evE cf sl b s1).st sl fun y s2 => match x, y with
    | .imm x, .imm y => (match (setSl sl n (.imm x)).bind fun sl' => setSl sl' m (.imm y) with
      | some sl' => .nx sl' s2
      | none => .bad)
    | _, _ => .bad := by rw [exS] <;> rfl
@[simp] theorem ex_setIdx {c n v : E} : exS cf (.setIdx c n v) sl s = (evE cf sl v s).st sl fun x s1 => match x with
    | .imm x => (evE cf sl c s1).st sl fun o s2 => (evE cf sl n s2).st sl fun k s3 => (match k, o with
      | .imm k, .imm (.ref n) => (match s3.ob n with
        | some o => (match putAt o k x with
          | some o' => .nx sl (s3.set n o')
          | none => .bad)
        | none => .bad)
      | _, _ => .bad)
    | _ => .bad := by rw [exS] <;> rfl
@[simp] theorem ex_setSlot {m : Nat} {n v : E} : exS cf (.setSlot m n v) sl s = (evE cf sl v s).st sl fun x s1 => match bndL sl m, x with
    | true, .imm x => (evE cf sl n s1).st sl fun k s3 => (match k, sl[m]? with
      | .imm k, some (.imm (.ref n)) => (match s3.ob n with
        | some o => (match putAt o k x with
          | some o' => .nx sl (s3.set n o')
          | none => .bad)
        | none => .bad)
      | .imm k, some (.own o) => (match putAt o k x with
        | some o' => .nx (sl.set m (.own o')) s3
        | none => .bad)
      | _, _ => .bad)
    | _, _ => .bad := by rw [exS] <;> rfl
@[simp] theorem ex_expr {e : E} : exS cf (.expr e) sl s = (evE cf sl e s).st sl fun _ s' => .nx sl s' := by rw [exS] <;> rfl
@[simp] theorem ex_if {c : E} {a b : Ss} : exS cf (.ifS c a b) sl s = (testE cf c sl s).st sl fun k s' => if k then exSs cf a sl s' else exSs cf b sl s' := by rw [exS] <;> rfl
@[simp] theorem ex_for {t : Tg} {it : It} {b : Ss} : exS cf (.forS t it b) sl s = (evIt cf sl it s).st sl fun xs s' => forL (forB cf t b) xs sl s' := by rw [exS] <;> rfl
@[simp] theorem ex_ret {e : E} : exS cf (.ret e) sl s = (evE cf sl e s).st sl fun r s' => match r with
    | .peek _ => .bad
    | r => .ret r s' := by rw [exS] <;> rfl
@[simp] theorem ex_retOwn {n : Nat} : exS cf (.retOwn n) sl s = (match sl[n]? with
    | some (.own o) => .ret (.own o) s
    | some (.imm d) => .ret (.imm d) s
    | _ => .bad) := by rw [exS] <;> rfl
@[simp] theorem ex_pass : exS cf .pass sl s = .nx sl s := by rw [exS] <;> rfl
@[simp] theorem ex_brk : exS cf .brk sl s = .brk sl s := by rw [exS] <;> rfl
@[simp] theorem ex_cnt : exS cf .cnt sl s = .cnt sl s := by rw [exS] <;> rfl
@[simp] theorem ex_frz {n : Nat} : exS cf (.frz n) sl s = (match sl[n]? with
    | some (.own (.lst ds)) => .nx (sl.set n (.imm (.lst ds))) s
    | some (.own (.dic ds)) => .nx (sl.set n (.imm (.dic ds))) s
    | some (.imm _) => .nx sl s
    | _ => .bad) := by rw [exS] <;> rfl
@[simp] theorem pd_add : primD .add [.int i, .int j] = some (.imm (.int (i + j))) := rfl
@[simp] theorem pd_sub : primD .sub [.int i, .int j] = some (.imm (.int (i - j))) := rfl
@[simp] theorem pd_mul : primD .mul [.int i, .int j] = if (i.natAbs < 18446744073709551616) ∨ (j.natAbs < 18446744073709551616) then some (.imm (.int (i * j))) else none := rfl
@[simp] theorem pd_fdiv : primD .fdiv [.int i, .int j] = if j ≠ 0 ∧ j.natAbs < 340282366920938463463374607431768211456 then some (.imm (.int (i.fdiv j))) else none := rfl
@[simp] theorem pd_mod : primD .mod [.int i, .int j] = if j ≠ 0 then some (.imm (.int (i.fmod j))) else none := rfl
@[simp] theorem pd_pow : primD .pow [.int i, .int j] = if 0 ≤ j ∧ j ≤ 1000000 ∧ i.natAbs < 18446744073709551616 then some (.imm (.int (i ^ j.toNat))) else none := rfl
@[simp] theorem pd_neg : primD .neg [.int i] = some (.imm (.int (-i))) := rfl
@[simp] theorem pd_eqI : primD .eq [.int i, .int j] = some (.imm (.bl (i == j))) := rfl
@[simp] theorem pd_neI : primD .ne [.int i, .int j] = some (.imm (.bl (!(i == j)))) := rfl
@[simp] theorem pd_eqS {a b : String} : primD .eq [.str a, .str b] = some (.imm (.bl (decide (a = b)))) := rfl
@[simp] theorem pd_neS {a b : String} : primD .ne [.str a, .str b] = some (.imm (.bl (!decide (a = b)))) := rfl
@[simp] theorem pd_lt : primD .lt [.int i, .int j] = some (.imm (.bl (decide (i < j)))) := rfl
@[simp] theorem pd_le : primD .le [.int i, .int j] = some (.imm (.bl (decide (i ≤ j)))) := rfl
@[simp] theorem pd_gt : primD .gt [.int i, .int j] = some (.imm (.bl (decide (j < i)))) := rfl
@[simp] theorem pd_ge : primD .ge [.int i, .int j] = some (.imm (.bl (decide (j ≤ i)))) := rfl
@[simp] theorem pd_isN {a : D} : primD .isN [a] = some (.imm (.bl (isNon a))) := rfl
@[simp] theorem pd_notN {a : D} : primD .notN [a] = some (.imm (.bl (!isNon a))) := rfl
@[simp] theorem pd_idxL {xs : List D} : primD .idx [.lst xs, .int i] = ((ixOf xs.length i).bind (xs[·]?)).map .imm := rfl
@[simp] theorem pd_idxT {xs : List D} : primD .idx [.tup xs, .int i] = ((ixOf xs.length i).bind (xs[·]?)).map .imm := rfl
@[simp] theorem pd_lenL {xs : List D} : primD .len [.lst xs] = some (.imm (.int xs.length)) := rfl
@[simp] theorem pd_lenT {xs : List D} : primD .len [.tup xs] = some (.imm (.int xs.length)) := rfl
@[simp] theorem pd_lenS {a : String} : primD .len [.str a] = if a.length ≤ LIM then some (.imm (.int a.length)) else none := rfl
@[simp] theorem pd_max2 : primD .max2 [.int i, .int j] = some (.imm (.int (if i < j then j else i))) := rfl
@[simp] theorem pd_min2 : primD .min2 [.int i, .int j] = some (.imm (.int (if j < i then j else i))) := rfl
@[simp] theorem pd_isi {t : String} {d : D} : primD (.isi t) [d] = (tyn d).map fun u => .imm (.bl (decide (u = t) || (decide (u = "bool") && decide (t = "int")))) := rfl
@[simp] theorem pd_int1 : primD .int1 [.int i] = some (.imm (.int i)) := rfl
@[simp] theorem pd_int1b {b : Bool} : primD .int1 [.bl b] = some (.imm (.int (if b then 1 else 0))) := rfl
@[simp] theorem pd_abs : primD .absI [.int i] = some (.imm (.int (if i < 0 then -i else i))) := rfl
@[simp] theorem pd_innL {x : D} {xs : List D} : primD .inn [x, .lst xs] = if flat x && xs.all flat then some (.imm (.bl (inL x xs))) else none := rfl
@[simp] theorem pd_innT {x : D} {xs : List D} : primD .inn [x, .tup xs] = if flat x && xs.all flat then some (.imm (.bl (inL x xs))) else none := rfl
@[simp] theorem pd_ninL {x : D} {xs : List D} : primD .nin [x, .lst xs] = if flat x && xs.all flat then some (.imm (.bl (!inL x xs))) else none := rfl
@[simp] theorem pd_ninT {x : D} {xs : List D} : primD .nin [x, .tup xs] = if flat x && xs.all flat then some (.imm (.bl (!inL x xs))) else none := rfl
@[simp] theorem pd_all {xs : List D} : primD .allL [.lst xs] = (boolsOf xs).map fun bs => .imm (.bl (bs.all id)) := rfl
@[simp] theorem pd_any {xs : List D} : primD .anyL [.lst xs] = (boolsOf xs).map fun bs => .imm (.bl (bs.any id)) := rfl
@[simp] theorem primR_eq {p : P} {rs : List RV} : primR p rs s = (match primD p (rs.map (snap s)) with
  | some r => .ok r s
  | none => .bad) := rfl
@[simp] theorem sn_int : snap s (.imm (.int i)) = .int i := rfl
@[simp] theorem sn_bl {b : Bool} : snap s (.imm (.bl b)) = .bl b := rfl
@[simp] theorem sn_non : snap s (.imm .non) = .non := rfl
@[simp] theorem sn_str {a : String} : snap s (.imm (.str a)) = .str a := rfl
@[simp] theorem sn_tup {xs : List D} : snap s (.imm (.tup xs)) = .tup xs := rfl
@[simp] theorem sn_lst {xs : List D} : snap s (.imm (.lst xs)) = .lst xs := rfl
@[simp] theorem sn_own {xs : List D} : snap s (.own (.lst xs)) = .lst xs := rfl
@[simp] theorem sn_peek {xs : List D} : snap s (.peek (.lst xs)) = .lst xs := rfl
@[simp] theorem sn_dic {xs : List (D × D)} : snap s (.imm (.dic xs)) = .dic xs := rfl
@[simp] theorem sn_ownD {xs : List (D × D)} : snap s (.own (.dic xs)) = .dic xs := rfl
@[simp] theorem sn_peekD {xs : List (D × D)} : snap s (.peek (.dic xs)) = .dic xs := rfl
@[simp] theorem pd_idxDS {xs : List (D × D)} {a : String} : primD .idx [.dic xs, .str a] = (dget xs (.str a)).map .imm := rfl
@[simp] theorem pd_idxDI {xs : List (D × D)} : primD .idx [.dic xs, .int i] = (dget xs (.int i)).map .imm := rfl
@[simp] theorem pd_innDS {xs : List (D × D)} {a : String} : primD .inn [.str a, .dic xs] = some (.imm (.bl (dget xs (.str a)).isSome)) := rfl
@[simp] theorem pd_innDI {xs : List (D × D)} : primD .inn [.int i, .dic xs] = some (.imm (.bl (dget xs (.int i)).isSome)) := rfl
theorem sn_ref {n : Nat} {xs : List D} (h : s.ob n = some (.lst xs)) : snap s (.imm (.ref n)) = .lst xs := by simp [snap, h]
@[simp] theorem te_bl {b : Bool} : testR (.imm (.bl b)) s = .ok b s := rfl
@[simp] theorem te_int : testR (.imm (.int i)) s = .ok (i != 0) s := rfl
@[simp] theorem te_lst {xs : List D} : testR (.imm (.lst xs)) s = .ok (!xs.isEmpty) s := rfl
@[simp] theorem te_tup {xs : List D} : testR (.imm (.tup xs)) s = .ok (!xs.isEmpty) s := rfl
@[simp] theorem te_own {xs : List D} : testR (.own (.lst xs)) s = .ok (!xs.isEmpty) s := rfl
@[simp] theorem te_peek {xs : List D} : testR (.peek (.lst xs)) s = .ok (!xs.isEmpty) s := rfl
@[simp] theorem im_nil : immsOf [] = some [] := rfl
@[simp] theorem im_cons {d : D} {r : List RV} : immsOf (.imm d :: r) = (immsOf r).map (d :: ·) := rfl
@[simp] theorem at_slot {n : Nat} {r : RV} : asgTg sl s (.slot n) r = (slotOf r).bind (setSl sl n) := rfl
@[simp] theorem at_tupT {is : List Nat} {ds : List D} : asgTg sl s (.tup is) (.imm (.tup ds)) = asgTups sl is ds := rfl
@[simp] theorem at_tupL {is : List Nat} {ds : List D} : asgTg sl s (.tup is) (.imm (.lst ds)) = asgTups sl is ds := rfl
@[simp] theorem at_tupO {is : List Nat} {ds : List D} : asgTg sl s (.tup is) (.own (.lst ds)) = asgTups sl is ds := rfl
@[simp] theorem so_imm {d : D} : slotOf (.imm d) = some (.imm d) := rfl
@[simp] theorem so_own {o : O} : slotOf (.own o) = some (.own o) := rfl
theorem call_at {fs : List Fn} {fn : Fn} {d k : Nat} {as : List D} (h : fs[k]? = some fn) : callD fs (d + 1) k as s = if as.length = fn.ar then (match exSs (callD fs d) fn.body (as.map .imm ++ List.replicate (fn.sl - fn.ar) .un) s with
      | .nx _ s' => .ok (.imm .non) s'
      | .ret r s' => .ok r s'
      | .exc x _ s' => .exc x s'
      | _ => .bad) else .bad := by rw [callD, h] <;> rfl
end
/-! ### loops -/
/-- a loop that runs to its end -/
theorem forL_inv {body : D → List L → St → F} {xs : List D} {I : Nat → List L → St → Prop} : ∀ (n : Nat) {sl : List L} {s : St}, n ≤ xs.length → I n sl s →
    (∀ j x sl s, xs[j]? = some x → I j sl s → ∃ sl' s', (body x sl s = .nx sl' s' ∨ body x sl s = .cnt sl' s') ∧ I (j + 1) sl' s') → ∃ sl' s', forL body (xs.drop n) sl s = .nx sl' s' ∧ I xs.length sl' s' := by
  intro n
  generalize hk : xs.length - n = k
  induction k generalizing n with
  | zero =>
    intro sl s hn h step
    have e : n = xs.length := by omega
    subst e
    rw [List.drop_length]
    exact ⟨sl, s, rfl, h⟩
  | succ k ih =>
    intro sl s hn h step
    have hlt : n < xs.length := by omega
    rw [List.drop_eq_getElem_cons hlt, forL]
    obtain ⟨sl', s', h1, h2⟩ := step n xs[n] sl s (List.getElem?_eq_getElem hlt) h
    rcases h1 with h1 | h1 <;> rw [h1] <;> exact ih (n + 1) (by omega) (by omega) h2 step
theorem forL_all {body : D → List L → St → F} {xs : List D} {sl : List L} {s : St} (I : Nat → List L → St → Prop) (h : I 0 sl s)
    (step : ∀ j x sl s, xs[j]? = some x → I j sl s → ∃ sl' s', (body x sl s = .nx sl' s' ∨ body x sl s = .cnt sl' s') ∧ I (j + 1) sl' s') : ∃ sl' s', forL body xs sl s = .nx sl' s' ∧ I xs.length sl' s' := by
  have := forL_inv (I := I) 0 (Nat.zero_le _) h step
  rwa [List.drop_zero] at this
theorem range_at {a : Int} {n j : Nat} {x : D} (h : (rangeD a n)[j]? = some x) : j < n ∧ x = .int (a + j) := by
  unfold rangeD at h
  rw [List.getElem?_map] at h
  rcases Nat.lt_or_ge j n with hj | hj
  · rw [List.getElem?_range hj] at h
    exact ⟨hj, by simpa using h.symm⟩
  · rw [List.getElem?_eq_none (by simpa using hj)] at h
    cases h
theorem range0_at {n j : Nat} {x : D} (h : (rangeD 0 n)[j]? = some x) : j < n ∧ x = .int j := by
  have := range_at h
  simpa using this
@[simp] theorem rangeD_len {a : Int} {n : Nat} : (rangeD a n).length = n := by simp [rangeD]
/-! ### cells, feeds, draws -/
def cellB : Ss := (.cons (.ifS (.prim .lt (.cons (.slot 1) (.cons (.prim .len (.cons (.slot 0) .nil)) .nil))) (.cons (.ret (.prim .idx (.cons (.slot 0) (.cons (.slot 1) .nil)))) .nil) .nil) (.cons (.ret (.cst (.int 0))) .nil))
def feedB (c : Nat) : Ss := (.cons (.asg (.slot 2) (.call c (.cons (.slot 0) (.cons (.slot 1) .nil)))) (.cons (.ifS (.prim .ge (.cons (.slot 2) (.cons (.prim .pow (.cons (.cst (.int 10)) (.cons (.cst (.int 18)) .nil))) .nil))) (.cons (.ret (.lst (.cons (.prim .sub (.cons (.slot 2) (.cons (.prim .pow (.cons (.cst (.int 10)) (.cons (.cst (.int 18)) .nil))) .nil))) .nil))) .nil) .nil) (.cons (.asg (.slot 3) (.cst (.int 0))) (.cons (.asg (.slot 4) (.prim .mod (.cons (.prim .add (.cons (.prim .add (.cons (.prim .mul (.cons (.slot 2) (.cons (.cst (.int 48271)) .nil))) (.cons (.prim .mul (.cons (.cst (.int 7919)) (.cons (.slot 1) .nil))) .nil))) (.cons (.cst (.int 11)) .nil))) (.cons (.cst (.int 2147483647)) .nil)))) (.cons (.forS (.slot 5) (.range1 (.cst (.int 80))) (.cons (.asg (.slot 4) (.prim .mod (.cons (.prim .add (.cons (.prim .add (.cons (.prim .mul (.cons (.slot 4) (.cons (.slot 4) .nil))) (.cons (.prim .mul (.cons (.cst (.int 48271)) (.cons (.slot 4) .nil))) .nil))) (.cons (.slot 5) .nil))) (.cons (.cst (.int 2147483629)) .nil)))) (.cons (.asg (.slot 3) (.prim .add (.cons (.prim .mul (.cons (.slot 3) (.cons (.cst (.int 2147483587)) .nil))) (.cons (.prim .mod (.cons (.prim .mul (.cons (.slot 4) (.cons (.cst (.int 69621)) .nil))) (.cons (.cst (.int 2147483587)) .nil))) .nil)))) .nil))) (.cons (.ret (.lst (.cons (.slot 3) .nil))) .nil))))))
def drawB : Ss := (.cons (.asg (.slot 2) (.prim .mod (.cons (.prim .idx (.cons (.slot 0) (.cons (.cst (.int 0)) .nil))) (.cons (.slot 1) .nil)))) (.cons (.setSlot 0 (.cst (.int 0)) (.prim .fdiv (.cons (.prim .idx (.cons (.slot 0) (.cons (.cst (.int 0)) .nil))) (.cons (.slot 1) .nil)))) (.cons (.ret (.slot 2)) .nil)))
def isWholeB : Ss := (.cons (.ret (.and_ (.prim (.isi "int") (.cons (.slot 0) .nil)) (.not_ (.prim (.isi "bool") (.cons (.slot 0) .nil))))) .nil)
section
variable {fs : List Fn} {i c d : Nat} {nm nm2 : String} {s : St}
theorem cell_run (hf : fs[i]? = some ⟨nm, 2, 2, cellB⟩) (ns : List Int) {k : Int} (hk : 0 ≤ k) : ∃ v : Int, callD fs (d + 1) i [.lst (ns.map D.int), .int k] s = .ok (.imm (.int v)) s := by
  rw [call_at hf]
  by_cases h : k < ns.length
  · have hk2 : k.toNat < ns.length := by omega
    refine ⟨ns[k.toNat], ?_⟩
    simp [cellB, h, ixOf, hk, hk2]
  · refine ⟨0, ?_⟩
    simp [cellB, h]
def feedL : Ss := (.cons (.asg (.slot 4) (.prim .mod (.cons (.prim .add (.cons (.prim .add (.cons (.prim .mul (.cons (.slot 4) (.cons (.slot 4) .nil))) (.cons (.prim .mul (.cons (.cst (.int 48271)) (.cons (.slot 4) .nil))) .nil))) (.cons (.slot 5) .nil))) (.cons (.cst (.int 2147483629)) .nil)))) (.cons (.asg (.slot 3) (.prim .add (.cons (.prim .mul (.cons (.slot 3) (.cons (.cst (.int 2147483587)) .nil))) (.cons (.prim .mod (.cons (.prim .mul (.cons (.slot 4) (.cons (.cst (.int 69621)) .nil))) (.cons (.cst (.int 2147483587)) .nil))) .nil)))) .nil))
theorem feed_loop {cf : CF} {a0 a1 a2 a5 : L} {t n : Int} (ht : 0 ≤ t) (hn : 0 ≤ n) (hn2 : n < 2147483647) : ∃ sl' s', forL (forB cf (.slot 5) feedL) (rangeD 0 80) [a0, a1, a2, .imm (.int t), .imm (.int n), a5] s = .nx sl' s' ∧ s' = s ∧ ∃ (t' n' : Int) (a5' : L), sl' = [a0, a1, a2, .imm (.int t'), .imm (.int n'), a5'] ∧ 0 ≤ t' ∧ 0 ≤ n' ∧ n' < 2147483647 := by
  refine forL_all (fun _ sl' s' => s' = s ∧ ∃ (t' n' : Int) (a5' : L), sl' = [a0, a1, a2, .imm (.int t'), .imm (.int n'), a5'] ∧ 0 ≤ t' ∧ 0 ≤ n' ∧ n' < 2147483647) ⟨rfl, t, n, a5, rfl, ht, hn, hn2⟩ ?_
  rintro j x sl s' hx ⟨rfl, t', n', a5', rfl, h1, h2, h3⟩
  obtain ⟨hj, rfl⟩ := range_at hx
  have e1 : n'.natAbs < 18446744073709551616 := by omega
  have e2 : (n' * n' + 48271 * n' + j).fmod 2147483629 = (n' * n' + 48271 * n' + j) % 2147483629 := Int.fmod_eq_emod_of_nonneg _ (by decide)
  have g1 := Int.emod_nonneg (n' * n' + 48271 * n' + j) (show (2147483629 : Int) ≠ 0 by decide)
  have g2 := Int.emod_lt_of_pos (n' * n' + 48271 * n' + j) (show (0 : Int) < 2147483629 by decide)
  generalize hm : (n' * n' + 48271 * n' + j) % 2147483629 = m at *
  have g3 := Int.emod_nonneg (m * 69621) (show (2147483587 : Int) ≠ 0 by decide)
  have e3 : (m * 69621).fmod 2147483587 = (m * 69621) % 2147483587 := Int.fmod_eq_emod_of_nonneg _ (by decide)
  have g4 : 0 ≤ t' * 2147483587 := by omega
  refine ⟨[a0, a1, a2, .imm (.int (t' * 2147483587 + (m * 69621) % 2147483587)), .imm (.int m), .imm (.int j)], s', .inl ?_, rfl, _, _, _, rfl, by omega, g1, by omega⟩
  simp [forB, feedL, setSl, e1, e2, e3]
theorem feed_run (hf : fs[i]? = some ⟨nm, 2, 6, feedB c⟩) (hc : fs[c]? = some ⟨nm2, 2, 2, cellB⟩) (ns : List Int) {k : Int} (hk : 0 ≤ k) : ∃ v : Int, 0 ≤ v ∧ callD fs (d + 2) i [.lst (ns.map D.int), .int k] s = .ok (.own (.lst [.int v])) s := by
  obtain ⟨v, hv⟩ := cell_run (d := d) (s := s) hc ns hk
  rw [call_at hf]
  by_cases h : 1000000000000000000 ≤ v
  · refine ⟨v - 1000000000000000000, by omega, ?_⟩
    simp [feedB, asgTups, setSl, hv, h]
  · have e2 : (v * 48271 + 7919 * k + 11).fmod 2147483647 = (v * 48271 + 7919 * k + 11) % 2147483647 := Int.fmod_eq_emod_of_nonneg _ (by decide)
    have g1 := Int.emod_nonneg (v * 48271 + 7919 * k + 11) (show (2147483647 : Int) ≠ 0 by decide)
    have g2 := Int.emod_lt_of_pos (v * 48271 + 7919 * k + 11) (show (0 : Int) < 2147483647 by decide)
    obtain ⟨sl', s', h1, rfl, t', n', a5', rfl, h3, _⟩ := feed_loop (cf := callD fs (d + 1)) (s := s) (a0 := .imm (.lst (ns.map D.int))) (a1 := .imm (.int k)) (a2 := .imm (.int v)) (a5 := .un) (t := 0) (Int.le_refl 0) g1 g2
    refine ⟨t', h3, ?_⟩
    have e80 : (80 : Int).toNat = 80 := rfl
    simp only [feedL] at h1
    simp [feedB, setSl, hv, h, e2, e80, h1]
theorem draw_run (hf : fs[i]? = some ⟨nm, 2, 3, drawB⟩) {a : Nat} {v m : Int} (h : s.ob a = some (.lst [.int v])) (hv : 0 ≤ v) (hm : 0 < m) (hm2 : m < 340282366920938463463374607431768211456) :
    callD fs (d + 1) i [.ref a, .int m] s = .ok (.imm (.int (v % m))) (s.set a (.lst [.int (v / m)])) := by
  have h0 : m ≠ 0 := by omega
  have h1 : m.natAbs < 340282366920938463463374607431768211456 := by omega
  rw [call_at hf]
  simp [drawB, sn_ref h, h, ixOf, setSl, h0, h1, putAt, bndL, Int.fmod_eq_emod_of_nonneg, Int.fdiv_eq_ediv_of_nonneg, Int.le_of_lt hm]
theorem whole_run (hf : fs[i]? = some ⟨nm, 1, 1, isWholeB⟩) {v : Int} : callD fs (d + 1) i [.int v] s = .ok (.imm (.bl true)) s := by
  rw [call_at hf]
  simp [isWholeB, tyn]
end
end Rx
namespace K02
open PySem Rx
def b_law_feed_1 : Ss := (.cons (.asg (.slot 4) (.prim .mod (.cons (.prim .add (.cons (.prim .add (.cons (.prim .mul (.cons (.slot 4) (.cons (.slot 4) .nil))) (.cons (.prim .mul (.cons (.cst (.int 48271)) (.cons (.slot 4) .nil))) .nil))) (.cons (.slot 5) .nil))) (.cons (.cst (.int 2147483629)) .nil)))) (.cons (.asg (.slot 3) (.prim .add (.cons (.prim .mul (.cons (.slot 3) (.cons (.cst (.int 2147483587)) .nil))) (.cons (.prim .mod (.cons (.prim .mul (.cons (.slot 4) (.cons (.cst (.int 69621)) .nil))) (.cons (.cst (.int 2147483587)) .nil))) .nil)))) .nil))
def b_law_1 : Ss := (.cons (.ifS (.not_ (.prim .allL (.cons (.comp (.call 8 (.cons (.slot 8) (.cons (.slot 6) (.cons (.slot 7) .nil)))) (.slot 8) [8] (.seq (.lst (.cons (.cst (.str "+")) (.cons (.cst (.str "-")) (.cons (.cst (.str "*")) (.cons (.cst (.str "<")) (.cons (.cst (.str "=")) .nil))))))) (.cst (.bl true))) .nil))) (.cons (.ret (.cst (.bl false))) .nil) .nil) (.cons (.ifS (.not_ (.call 9 (.cons (.slot 6) (.cons (.slot 7) .nil)))) (.cons (.ret (.cst (.bl false))) .nil) .nil) .nil))
def b_law_2 : Ss := (.cons (.asg (.slot 2) (.share (.call 5 (.cons (.slot 0) (.cons (.slot 1) .nil))))) (.cons (.asg (.slot 3) (.call 6 (.cons (.slot 2) (.cons (.cst (.int 8)) .nil)))) (.cons (.par 4 5 (.call 7 (.cons (.slot 2) .nil)) (.call 7 (.cons (.slot 2) .nil))) (.cons (.ifS (.prim .eq (.cons (.slot 3) (.cons (.cst (.int 0)) .nil))) (.cons (.asg (.slot 5) (.slot 4)) .nil) .nil) (.cons (.ifS (.prim .eq (.cons (.slot 3) (.cons (.cst (.int 1)) .nil))) (.cons (.par 4 5 (.prim .idx (.cons (.lst (.cons (.prim .neg (.cons (.cst (.int 2147483648)) .nil)) (.cons (.cst (.int 2147483647)) .nil))) (.cons (.call 6 (.cons (.slot 2) (.cons (.cst (.int 2)) .nil))) .nil))) (.prim .sub (.cons (.call 6 (.cons (.slot 2) (.cons (.cst (.int 5)) .nil))) (.cons (.cst (.int 2)) .nil)))) .nil) .nil) (.cons (.forS (.tup [6, 7]) (.seq (.lst (.cons (.tup (.cons (.slot 4) (.cons (.slot 5) .nil))) (.cons (.tup (.cons (.slot 5) (.cons (.slot 4) .nil))) .nil)))) b_law_1) .nil))))))
def b_brought : Ss := (.cons (.ret (.prim .sub (.cons (.prim .mod (.cons (.prim .add (.cons (.slot 0) (.cons (.glob "HALF" (.int 2147483648)) .nil))) (.cons (.glob "WHOLE" (.int 4294967296)) .nil))) (.cons (.glob "HALF" (.int 2147483648)) .nil)))) .nil)
def b_quotient : Ss := (.cons (.ifS (.prim .eq (.cons (.slot 1) (.cons (.cst (.int 0)) .nil))) (.cons (.ret (.cst (.int 0))) .nil) .nil) (.cons (.ret (.prim .fdiv (.cons (.slot 0) (.cons (.slot 1) .nil)))) .nil))
def b_made_by : Ss := (.cons (.ifS (.prim .eq (.cons (.slot 0) (.cons (.cst (.str "+")) .nil))) (.cons (.ret (.call 0 (.cons (.prim .add (.cons (.slot 1) (.cons (.slot 2) .nil))) .nil))) .nil) .nil) (.cons (.ifS (.prim .eq (.cons (.slot 0) (.cons (.cst (.str "-")) .nil))) (.cons (.ret (.call 0 (.cons (.prim .sub (.cons (.slot 1) (.cons (.slot 2) .nil))) .nil))) .nil) .nil) (.cons (.ifS (.prim .eq (.cons (.slot 0) (.cons (.cst (.str "*")) .nil))) (.cons (.ret (.call 0 (.cons (.prim .mul (.cons (.slot 1) (.cons (.slot 2) .nil))) .nil))) .nil) .nil) (.cons (.ifS (.prim .eq (.cons (.slot 0) (.cons (.cst (.str "<")) .nil))) (.cons (.ret (.prim .int1 (.cons (.prim .lt (.cons (.slot 1) (.cons (.slot 2) .nil))) .nil))) .nil) .nil) (.cons (.ifS (.prim .eq (.cons (.slot 0) (.cons (.cst (.str "=")) .nil))) (.cons (.ret (.prim .int1 (.cons (.prim .eq (.cons (.slot 1) (.cons (.slot 2) .nil))) .nil))) .nil) .nil) (.cons (.ifS (.prim .eq (.cons (.slot 0) (.cons (.cst (.str "part")) .nil))) (.cons (.ret (.call 0 (.cons (.call 1 (.cons (.slot 1) (.cons (.slot 2) .nil))) .nil))) .nil) .nil) (.cons (.ret (.call 0 (.cons (.prim .sub (.cons (.slot 1) (.cons (.prim .mul (.cons (.slot 2) (.cons (.call 1 (.cons (.slot 1) (.cons (.slot 2) .nil))) .nil))) .nil))) .nil))) .nil)))))))
def b_law_is_whole : Ss := (.cons (.ret (.and_ (.prim (.isi "int") (.cons (.slot 0) .nil)) (.not_ (.prim (.isi "bool") (.cons (.slot 0) .nil))))) .nil)
def b_law_cell : Ss := (.cons (.ifS (.prim .lt (.cons (.slot 1) (.cons (.prim .len (.cons (.slot 0) .nil)) .nil))) (.cons (.ret (.prim .idx (.cons (.slot 0) (.cons (.slot 1) .nil)))) .nil) .nil) (.cons (.ret (.cst (.int 0))) .nil))
def b_law_feed : Ss := (.cons (.asg (.slot 2) (.call 4 (.cons (.slot 0) (.cons (.slot 1) .nil)))) (.cons (.ifS (.prim .ge (.cons (.slot 2) (.cons (.prim .pow (.cons (.cst (.int 10)) (.cons (.cst (.int 18)) .nil))) .nil))) (.cons (.ret (.lst (.cons (.prim .sub (.cons (.slot 2) (.cons (.prim .pow (.cons (.cst (.int 10)) (.cons (.cst (.int 18)) .nil))) .nil))) .nil))) .nil) .nil) (.cons (.asg (.slot 3) (.cst (.int 0))) (.cons (.asg (.slot 4) (.prim .mod (.cons (.prim .add (.cons (.prim .add (.cons (.prim .mul (.cons (.slot 2) (.cons (.cst (.int 48271)) .nil))) (.cons (.prim .mul (.cons (.cst (.int 7919)) (.cons (.slot 1) .nil))) .nil))) (.cons (.cst (.int 11)) .nil))) (.cons (.cst (.int 2147483647)) .nil)))) (.cons (.forS (.slot 5) (.range1 (.cst (.int 80))) b_law_feed_1) (.cons (.ret (.lst (.cons (.slot 3) .nil))) .nil))))))
def b_law_draw : Ss := (.cons (.asg (.slot 2) (.prim .mod (.cons (.prim .idx (.cons (.slot 0) (.cons (.cst (.int 0)) .nil))) (.cons (.slot 1) .nil)))) (.cons (.setSlot 0 (.cst (.int 0)) (.prim .fdiv (.cons (.prim .idx (.cons (.slot 0) (.cons (.cst (.int 0)) .nil))) (.cons (.slot 1) .nil)))) (.cons (.ret (.slot 2)) .nil)))
def b_law_worth : Ss := (.cons (.asg (.slot 1) (.call 6 (.cons (.slot 0) (.cons (.cst (.int 8)) .nil)))) (.cons (.ifS (.prim .eq (.cons (.slot 1) (.cons (.cst (.int 0)) .nil))) (.cons (.ret (.prim .sub (.cons (.call 6 (.cons (.slot 0) (.cons (.cst (.int 4294967296)) .nil))) (.cons (.cst (.int 2147483648)) .nil)))) .nil) .nil) (.cons (.ifS (.prim .eq (.cons (.slot 1) (.cons (.cst (.int 1)) .nil))) (.cons (.ret (.prim .idx (.cons (.lst (.cons (.cst (.int 2147483647)) (.cons (.prim .neg (.cons (.cst (.int 2147483648)) .nil)) (.cons (.prim .neg (.cons (.cst (.int 1)) .nil)) (.cons (.cst (.int 0)) .nil))))) (.cons (.call 6 (.cons (.slot 0) (.cons (.cst (.int 4)) .nil))) .nil)))) .nil) .nil) (.cons (.ret (.prim .sub (.cons (.call 6 (.cons (.slot 0) (.cons (.cst (.int 9)) .nil))) (.cons (.cst (.int 3)) .nil)))) .nil))))
def b_law_sum_right : Ss := (.cons (.asg (.slot 3) (.call 2 (.cons (.slot 0) (.cons (.slot 1) (.cons (.slot 2) .nil))))) (.cons (.ifS (.or_ (.not_ (.call 3 (.cons (.slot 3) .nil))) (.not_ (.chain .le .le (.prim .neg (.cons (.cst (.int 2147483648)) .nil)) (.slot 3) (.cst (.int 2147483647))))) (.cons (.ret (.cst (.bl false))) .nil) .nil) (.cons (.ifS (.prim .inn (.cons (.slot 0) (.cons (.tup (.cons (.cst (.str "<")) (.cons (.cst (.str "=")) .nil))) .nil))) (.cons (.ret (.prim .eq (.cons (.slot 3) (.cons (.prim .int1 (.cons (.or_ (.and_ (.prim .eq (.cons (.slot 0) (.cons (.cst (.str "<")) .nil))) (.prim .lt (.cons (.slot 1) (.cons (.slot 2) .nil)))) (.and_ (.prim .eq (.cons (.slot 0) (.cons (.cst (.str "=")) .nil))) (.prim .eq (.cons (.slot 1) (.cons (.slot 2) .nil))))) .nil)) .nil)))) .nil) .nil) (.cons (.asg (.slot 4) (.prim .idx (.cons (.dct [.str "+", .str "-", .str "*"] (.cons (.prim .add (.cons (.slot 1) (.cons (.slot 2) .nil))) (.cons (.prim .sub (.cons (.slot 1) (.cons (.slot 2) .nil))) (.cons (.prim .mul (.cons (.slot 1) (.cons (.slot 2) .nil))) .nil)))) (.cons (.slot 0) .nil)))) (.cons (.ret (.prim .eq (.cons (.prim .mod (.cons (.prim .sub (.cons (.slot 3) (.cons (.slot 4) .nil))) (.cons (.cst (.int 4294967296)) .nil))) (.cons (.cst (.int 0)) .nil)))) .nil)))))
def b_law_parted : Ss := (.cons (.par 2 3 (.call 2 (.cons (.cst (.str "part")) (.cons (.slot 0) (.cons (.slot 1) .nil)))) (.call 2 (.cons (.cst (.str "rest")) (.cons (.slot 0) (.cons (.slot 1) .nil))))) (.cons (.ifS (.or_ (.not_ (.call 3 (.cons (.slot 2) .nil))) (.or_ (.not_ (.call 3 (.cons (.slot 3) .nil))) (.not_ (.chain .le .le (.prim .neg (.cons (.cst (.int 2147483648)) .nil)) (.slot 2) (.cst (.int 2147483647)))))) (.cons (.ret (.cst (.bl false))) .nil) .nil) (.cons (.ifS (.prim .eq (.cons (.slot 1) (.cons (.cst (.int 0)) .nil))) (.cons (.ret (.and_ (.prim .eq (.cons (.slot 2) (.cons (.cst (.int 0)) .nil))) (.prim .eq (.cons (.slot 3) (.cons (.slot 0) .nil))))) .nil) .nil) (.cons (.ifS (.or_ (.not_ (.or_ (.chain .le .lt (.cst (.int 0)) (.slot 3) (.slot 1)) (.chain .lt .le (.slot 1) (.slot 3) (.cst (.int 0))))) (.prim .ne (.cons (.prim .mod (.cons (.prim .sub (.cons (.slot 0) (.cons (.slot 3) .nil))) (.cons (.slot 1) .nil))) (.cons (.cst (.int 0)) .nil)))) (.cons (.ret (.cst (.bl false))) .nil) .nil) (.cons (.ret (.prim .eq (.cons (.prim .mod (.cons (.prim .sub (.cons (.slot 2) (.cons (.prim .fdiv (.cons (.prim .sub (.cons (.slot 0) (.cons (.slot 3) .nil))) (.cons (.slot 1) .nil))) .nil))) (.cons (.cst (.int 4294967296)) .nil))) (.cons (.cst (.int 0)) .nil)))) .nil)))))
def b_law : Ss := (.cons (.forS (.slot 1) (.range1 (.prim .max2 (.cons (.cst (.int 1)) (.cons (.prim .min2 (.cons (.cst (.int 40)) (.cons (.prim .len (.cons (.slot 0) .nil)) .nil))) .nil)))) b_law_2) (.cons (.ret (.cst (.bl true))) .nil))
def top (i : Nat) : Stmt := (PySem.Challenge.pw_ownnames_k02_what_signs_make).main.body.getD i (.Pass ⟨0, 0, 0, 0⟩)
def q_brought : FD := ⟨⟨("brought", none), "brought", "brought", L2.defArgs (top 3), L2.defBody (top 3), L2.defScope (top 3), [], []⟩, ["n"], ["n"], ⟨"brought", 1, 1, b_brought⟩⟩
def q_quotient : FD := ⟨⟨("quotient", none), "quotient", "quotient", L2.defArgs (top 4), L2.defBody (top 4), L2.defScope (top 4), [], []⟩, ["one", "other"], ["one", "other"], ⟨"quotient", 2, 2, b_quotient⟩⟩
def q_made_by : FD := ⟨⟨("made_by", none), "made_by", "made_by", L2.defArgs (top 5), L2.defBody (top 5), L2.defScope (top 5), [], []⟩, ["sign", "one", "other"], ["sign", "one", "other"], ⟨"made_by", 3, 3, b_made_by⟩⟩
def q_law_is_whole : FD := ⟨⟨("_law_is_whole", none), "_law_is_whole", "_law_is_whole", L2.defArgs (top 7), L2.defBody (top 7), L2.defScope (top 7), [], []⟩, ["_law_thing"], ["_law_thing"], ⟨"_law_is_whole", 1, 1, b_law_is_whole⟩⟩
def q_law_cell : FD := ⟨⟨("_law_cell", none), "_law_cell", "_law_cell", L2.defArgs (top 8), L2.defBody (top 8), L2.defScope (top 8), [], []⟩, ["_law_script", "_law_k"], ["_law_script", "_law_k"], ⟨"_law_cell", 2, 2, b_law_cell⟩⟩
def q_law_feed : FD := ⟨⟨("_law_feed", none), "_law_feed", "_law_feed", L2.defArgs (top 9), L2.defBody (top 9), L2.defScope (top 9), [], []⟩, ["_law_script", "_law_k"], ["_law_script", "_law_k", "_law_cell_here", "_law_total", "_law_number", "_law_turn"], ⟨"_law_feed", 2, 6, b_law_feed⟩⟩
def q_law_draw : FD := ⟨⟨("_law_draw", none), "_law_draw", "_law_draw", L2.defArgs (top 10), L2.defBody (top 10), L2.defScope (top 10), [], []⟩, ["_law_feed_here", "_law_many"], ["_law_feed_here", "_law_many", "_law_found"], ⟨"_law_draw", 2, 3, b_law_draw⟩⟩
def q_law_worth : FD := ⟨⟨("_law_worth", none), "_law_worth", "_law_worth", L2.defArgs (top 11), L2.defBody (top 11), L2.defScope (top 11), [], []⟩, ["_law_feed_here"], ["_law_feed_here", "_law_way"], ⟨"_law_worth", 1, 2, b_law_worth⟩⟩
def q_law_sum_right : FD := ⟨⟨("_law_sum_right", none), "_law_sum_right", "_law_sum_right", L2.defArgs (top 12), L2.defBody (top 12), L2.defScope (top 12), [], []⟩, ["_law_sign", "_law_one", "_law_other"], ["_law_sign", "_law_one", "_law_other", "_law_found", "_law_due"], ⟨"_law_sum_right", 3, 5, b_law_sum_right⟩⟩
def q_law_parted : FD := ⟨⟨("_law_parted", none), "_law_parted", "_law_parted", L2.defArgs (top 13), L2.defBody (top 13), L2.defScope (top 13), [], []⟩, ["_law_one", "_law_other"], ["_law_one", "_law_other", "_law_part", "_law_rest"], ⟨"_law_parted", 2, 4, b_law_parted⟩⟩
def q_law : FD := ⟨⟨("law", none), "law", "law", L2.defArgs (top 14), L2.defBody (top 14), L2.defScope (top 14), [], []⟩, ["_law_script"], ["_law_script", "_law_k", "_law_feed_here", "_law_alike", "_law_one", "_law_other", "_law_first", "_law_second", "_law_sign"], ⟨"law", 1, 9, b_law⟩⟩
def ds : List FD := [q_brought, q_quotient, q_made_by, q_law_is_whole, q_law_cell, q_law_feed, q_law_draw, q_law_worth, q_law_sum_right, q_law_parted, q_law]
def tb : Tb := ⟨fnsOf ds, ["int", "isinstance", "bool", "len", "range", "max", "min", "all"], [("HALF", 2147483648), ("WHOLE", 4294967296)], []⟩
end K02

namespace K02
open Rx
def FS : List Fn := fsOf ds
def bro (n : Int) : Int := (n + 2147483648) % 4294967296 - 2147483648
theorem bro_ge (n : Int) : -2147483648 ≤ bro n := by unfold bro; omega
theorem bro_le (n : Int) : bro n ≤ 2147483647 := by unfold bro; omega
theorem bro_mod (n : Int) : (bro n - n) % 4294967296 = 0 := by unfold bro; omega
theorem bro_id {n : Int} (h : -2147483648 ≤ n) (h2 : n ≤ 2147483647) : bro n = n := by unfold bro; omega
def wor (x : Int) : Prop := -2147483648 ≤ x ∧ x ≤ 2147483647
theorem brought_run {d : Nat} {s : St} (n : Int) : callD FS (d + 1) 0 [.int n] s = .ok (.imm (.int (bro n))) s := by
  rw [call_at (fn := ⟨"brought", 1, 1, b_brought⟩) rfl]
  simp [b_brought, Int.fmod_eq_emod_of_nonneg, bro]
theorem whole_at {d : Nat} {s : St} (n : Int) : callD FS (d + 1) 3 [.int n] s = .ok (.imm (.bl true)) s := whole_run (nm := "_law_is_whole") rfl
def quo (a b : Int) : Int := if b = 0 then 0 else a.fdiv b
theorem quotient_run {d : Nat} {s : St} {a b : Int} (hb : wor b) : callD FS (d + 1) 1 [.int a, .int b] s = .ok (.imm (.int (quo a b))) s := by
  rw [call_at (fn := ⟨"quotient", 2, 2, b_quotient⟩) rfl]
  have h1 : b.natAbs < 340282366920938463463374607431768211456 := by unfold wor at hb; omega
  by_cases h : b = 0
  · subst h; simp [b_quotient, quo]
  · simp [b_quotient, h, h1, quo]
/-- a whole division -/
theorem fdiv_ok {a b : Int} (h : b ≠ 0) : ∃ q r, a.fdiv b = q ∧ a = b * q + r ∧ ((0 ≤ r ∧ r < b) ∨ (b < r ∧ r ≤ 0)) := by
  have e := Int.fdiv_eq_ediv (a := a) (b := b)
  have e1 := Int.mul_ediv_add_emod a b
  have e2 := Int.emod_nonneg a h
  have e3 := Int.emod_lt a h
  by_cases c : 0 ≤ b ∨ b ∣ a
  · rw [if_pos c] at e
    refine ⟨a / b, a % b, by omega, e1.symm, ?_⟩
    rcases c with c | c
    · exact .inl ⟨e2, by omega⟩
    · have := Int.emod_eq_zero_of_dvd c
      omega
  · rw [if_neg c] at e
    refine ⟨a / b - 1, a % b + b, e, ?_, ?_⟩
    · have : b * (a / b - 1) = b * (a / b) - b := by rw [Int.mul_sub, Int.mul_one]
      omega
    · have h0 : a % b ≠ 0 := fun z => c (.inr (Int.dvd_of_emod_eq_zero z))
      omega
theorem part_run {d : Nat} {s : St} {a b : Int} (hb : wor b) : callD FS (d + 2) 2 [.str "part", .int a, .int b] s = .ok (.imm (.int (bro (quo a b)))) s := by
  rw [call_at (fn := ⟨"made_by", 3, 3, b_made_by⟩) rfl]
  simp [b_made_by, quotient_run hb, brought_run]
theorem rest_run {d : Nat} {s : St} {a b : Int} (hb : wor b) : callD FS (d + 2) 2 [.str "rest", .int a, .int b] s = .ok (.imm (.int (bro (a - b * quo a b)))) s := by
  rw [call_at (fn := ⟨"made_by", 3, 3, b_made_by⟩) rfl]
  have h1 : b.natAbs < 18446744073709551616 := by unfold wor at hb; omega
  simp [b_made_by, quotient_run hb, brought_run, h1]
theorem parted_run {d : Nat} {s : St} {a b : Int} (ha : wor a) (hb : wor b) : callD FS (d + 3) 9 [.int a, .int b] s = .ok (.imm (.bl true)) s := by
  rw [call_at (fn := ⟨"_law_parted", 2, 4, b_law_parted⟩) rfl]
  have h1 : b.natAbs < 340282366920938463463374607431768211456 := by unfold wor at hb; omega
  unfold wor at ha
  by_cases h : b = 0
  · subst h
    have e1 : quo a 0 = 0 := rfl
    have e2 : bro 0 = 0 := rfl
    have e3 : bro a = a := bro_id ha.1 ha.2
    simp [b_law_parted, setSl, part_run hb, rest_run hb, whole_at, e1, e2, e3]
  · obtain ⟨q, r, e1, e2, e3⟩ := fdiv_ok (a := a) h
    have eq : quo a b = q := by unfold quo; rw [if_neg h]; exact e1
    have er : a - b * q = r := by omega
    have hb2 := hb
    unfold wor at hb2
    have e4 : bro r = r := bro_id (by omega) (by omega)
    have e5 : a - r = b * q := by omega
    have e6 : (b * q).fmod b = 0 := Int.mul_fmod_right ..
    have e7 : (b * q).fdiv b = q := Int.mul_fdiv_cancel_left _ h
    rcases e3 with ⟨c1, c2⟩ | ⟨c1, c2⟩
    · simp [b_law_parted, setSl, part_run hb, rest_run hb, whole_at, eq, er, e4, e5, e6, e7, h, h1, bro_ge, bro_le, bro_mod, c1, c2, Int.fmod_eq_emod_of_nonneg]
    · by_cases c3 : 0 ≤ r ∧ r < b
      · simp [b_law_parted, setSl, part_run hb, rest_run hb, whole_at, eq, er, e4, e5, e6, e7, h, h1, bro_ge, bro_le, bro_mod, c3, Int.fmod_eq_emod_of_nonneg]
      · by_cases c4 : 0 ≤ r
        · have c5 : ¬ r < b := fun z => c3 ⟨c4, z⟩
          simp [b_law_parted, setSl, part_run hb, rest_run hb, whole_at, eq, er, e4, e5, e6, e7, h, h1, bro_ge, bro_le, bro_mod, c4, c5, c1, c2, Int.fmod_eq_emod_of_nonneg]
        · simp [b_law_parted, setSl, part_run hb, rest_run hb, whole_at, eq, er, e4, e5, e6, e7, h, h1, bro_ge, bro_le, bro_mod, c4, c1, c2, Int.fmod_eq_emod_of_nonneg]
theorem draw_at {d : Nat} {s : St} {a : Nat} {v m : Int} (h : s.ob a = some (.lst [.int v])) (hv : 0 ≤ v) (hm : 0 < m) (hm2 : m < 340282366920938463463374607431768211456) : callD FS (d + 1) 6 [.ref a, .int m] s = .ok (.imm (.int (v % m))) (s.set a (.lst [.int (v / m)])) :=
  draw_run (nm := "_law_draw") rfl h hv hm hm2
/-- a feed stands at a -/
def Fed (s : St) (a : Nat) : Prop := ∃ v : Int, 0 ≤ v ∧ s.ob a = some (.lst [.int v])
theorem Fed.draw {d : Nat} {s : St} {a : Nat} (f : Fed s a) {m : Int} (hm : 0 < m) (hm2 : m < 340282366920938463463374607431768211456) : ∃ (x : Int) (s' : St), callD FS (d + 1) 6 [.ref a, .int m] s = .ok (.imm (.int x)) s' ∧ 0 ≤ x ∧ x < m ∧ Fed s' a := by
  obtain ⟨v, hv, h⟩ := f
  refine ⟨v % m, _, draw_at h hv hm hm2, Int.emod_nonneg _ (by omega), Int.emod_lt_of_pos _ hm, v / m, Int.ediv_nonneg hv (by omega), by simp⟩
theorem Fed.worth {d : Nat} {s : St} {a : Nat} (f : Fed s a) : ∃ (x : Int) (s' : St), callD FS (d + 2) 7 [.ref a] s = .ok (.imm (.int x)) s' ∧ wor x ∧ Fed s' a := by
  rw [call_at (fn := ⟨"_law_worth", 1, 2, b_law_worth⟩) rfl]
  obtain ⟨w, s1, e1, w1, w2, f1⟩ := f.draw (d := d) (m := 8) (by omega) (by omega)
  by_cases c0 : w = 0
  · subst c0
    obtain ⟨x, s2, e2, x1, x2, f2⟩ := f1.draw (d := d) (m := 4294967296) (by omega) (by omega)
    exact ⟨x - 2147483648, s2, by simp [b_law_worth, setSl, e1, e2], ⟨by omega, by omega⟩, f2⟩
  by_cases c1 : w = 1
  · subst c1
    obtain ⟨x, s2, e2, x1, x2, f2⟩ := f1.draw (d := d) (m := 4) (by omega) (by omega)
    have c : x = 0 ∨ x = 1 ∨ x = 2 ∨ x = 3 := by omega
    rcases c with rfl | rfl | rfl | rfl
    · exact ⟨2147483647, s2, by simp [b_law_worth, setSl, e1, e2, ixOf], ⟨by omega, by omega⟩, f2⟩
    · exact ⟨-2147483648, s2, by simp [b_law_worth, setSl, e1, e2, ixOf], ⟨by omega, by omega⟩, f2⟩
    · exact ⟨-1, s2, by simp [b_law_worth, setSl, e1, e2, ixOf], ⟨by omega, by omega⟩, f2⟩
    · exact ⟨0, s2, by simp [b_law_worth, setSl, e1, e2, ixOf], ⟨by omega, by omega⟩, f2⟩
  · obtain ⟨x, s2, e2, x1, x2, f2⟩ := f1.draw (d := d) (m := 9) (by omega) (by omega)
    exact ⟨x - 3, s2, by simp [b_law_worth, setSl, e1, e2, c0, c1], ⟨by omega, by omega⟩, f2⟩
theorem sum_run {d : Nat} {s : St} {a b : Int} (hb : wor b) {g : String} (hg : g = "+" ∨ g = "-" ∨ g = "*" ∨ g = "<" ∨ g = "=") : callD FS (d + 4) 8 [.str g, .int a, .int b] s = .ok (.imm (.bl true)) s := by
  rw [call_at (fn := ⟨"_law_sum_right", 3, 5, b_law_sum_right⟩) rfl]
  have h1 : b.natAbs < 18446744073709551616 := by unfold wor at hb; omega
  have mb : ∀ g : String, callD FS (d + 3) 2 [.str g, .int a, .int b] s = _ := fun g => call_at (fn := ⟨"made_by", 3, 3, b_made_by⟩) rfl
  rcases hg with rfl | rfl | rfl | rfl | rfl
  · simp [b_law_sum_right, b_made_by, setSl, mb, brought_run, whole_at, bro_ge, bro_le, bro_mod, h1, flat, inL, deq, dget, isKey, keyEq, Int.fmod_eq_emod_of_nonneg]
  · simp [b_law_sum_right, b_made_by, setSl, mb, brought_run, whole_at, bro_ge, bro_le, bro_mod, h1, flat, inL, deq, dget, isKey, keyEq, Int.fmod_eq_emod_of_nonneg]
  · simp [b_law_sum_right, b_made_by, setSl, mb, brought_run, whole_at, bro_ge, bro_le, bro_mod, h1, flat, inL, deq, dget, isKey, keyEq, Int.fmod_eq_emod_of_nonneg]
  · by_cases c : a < b <;> simp [b_law_sum_right, b_made_by, setSl, mb, brought_run, whole_at, c, h1, flat, inL, deq, Int.fmod_eq_emod_of_nonneg]
  · by_cases c : a = b
    · subst c; simp [b_law_sum_right, b_made_by, setSl, mb, brought_run, whole_at, h1, flat, inL, deq, Int.fmod_eq_emod_of_nonneg]
    · simp [b_law_sum_right, b_made_by, setSl, mb, brought_run, whole_at, c, h1, flat, inL, deq, Int.fmod_eq_emod_of_nonneg]
theorem pair_run {s : St} {a b : Int} (ha : wor a) (hb : wor b) (l0 l1 l2 l3 l4 l5 l6 l7 l8 : L) : forB (callD FS 19) (.tup [6, 7]) b_law_1 (.tup [.int a, .int b]) [l0, l1, l2, l3, l4, l5, l6, l7, l8] s = .nx [l0, l1, l2, l3, l4, l5, .imm (.int a), .imm (.int b), l8] s := by
  have sm : ∀ g : String, (g = "+" ∨ g = "-" ∨ g = "*" ∨ g = "<" ∨ g = "=") → callD FS 19 8 [.str g, .int a, .int b] s = .ok (.imm (.bl true)) s := fun g h => sum_run (d := 15) hb h
  have pr := parted_run (d := 16) (s := s) ha hb
  simp [forB, b_law_1, asgTups, setSl, compL, compF, wipeL, sm, pr, LIM, boolsOf]
theorem turn_run {s : St} (ns : List Int) {j : Nat} (l1 l2 l3 l4 l5 l6 l7 l8 : L) : ∃ k1 k2 k3 k4 k5 k6 k7 k8 s', forB (callD FS 19) (.slot 1) b_law_2 (.int j) [.imm (.lst (ns.map D.int)), l1, l2, l3, l4, l5, l6, l7, l8] s = .nx [.imm (.lst (ns.map D.int)), k1, k2, k3, k4, k5, k6, k7, k8] s' := by
  obtain ⟨v, hv, e0⟩ := feed_run (fs := FS) (d := 17) (i := 5) (c := 4) (nm := "_law_feed") (nm2 := "_law_cell") (s := s) rfl rfl ns (k := j) (by omega)
  have f0 : Fed (s.add (.lst [.int v])) s.nx := ⟨v, hv, by simp⟩
  generalize hs0 : s.add (.lst [.int v]) = s0 at f0
  generalize hnx : s.nx = n at f0
  obtain ⟨w, s1, e1, w1, w2, f1⟩ := f0.draw (d := 18) (m := 8) (by omega) (by omega)
  obtain ⟨a, s2, e2, ha, f2⟩ := f1.worth (d := 17)
  obtain ⟨b, s3, e3, hb, f3⟩ := f2.worth (d := 17)
  by_cases c0 : w = 0
  · subst c0
    have p1 := fun l8 => pair_run (s := s3) ha ha (.imm (.lst (ns.map D.int))) (.imm (.int j)) (.imm (.ref n)) (.imm (.int 0)) (.imm (.int a)) (.imm (.int a)) l6 l7 l8
    have p2 := fun l6 l7 l8 => pair_run (s := s3) ha ha (.imm (.lst (ns.map D.int))) (.imm (.int j)) (.imm (.ref n)) (.imm (.int 0)) (.imm (.int a)) (.imm (.int a)) l6 l7 l8
    refine ⟨.imm (.int j), .imm (.ref n), .imm (.int 0), .imm (.int a), .imm (.int a), .imm (.int a), .imm (.int a), l8, s3, ?_⟩
    rw [forB]
    simp [b_law_2, setSl, e0, hs0, hnx, e1, e2, e3, forL, p2]
  by_cases c1 : w = 1
  · subst c1
    obtain ⟨x, s4, e4, x1, x2, f4⟩ := f3.draw (d := 18) (m := 2) (by omega) (by omega)
    obtain ⟨y, s5, e5, y1, y2, f5⟩ := f4.draw (d := 18) (m := 5) (by omega) (by omega)
    have hy : wor (y - 2) := ⟨by omega, by omega⟩
    have c : x = 0 ∨ x = 1 := by omega
    rcases c with rfl | rfl
    · have hx : wor (-2147483648) := ⟨by omega, by omega⟩
      have p1 := fun l6 l7 l8 => pair_run (s := s5) hx hy (.imm (.lst (ns.map D.int))) (.imm (.int j)) (.imm (.ref n)) (.imm (.int 1)) (.imm (.int (-2147483648))) (.imm (.int (y - 2))) l6 l7 l8
      have p2 := fun l6 l7 l8 => pair_run (s := s5) hy hx (.imm (.lst (ns.map D.int))) (.imm (.int j)) (.imm (.ref n)) (.imm (.int 1)) (.imm (.int (-2147483648))) (.imm (.int (y - 2))) l6 l7 l8
      refine ⟨.imm (.int j), .imm (.ref n), .imm (.int 1), .imm (.int (-2147483648)), .imm (.int (y - 2)), .imm (.int (y - 2)), .imm (.int (-2147483648)), l8, s5, ?_⟩
      rw [forB]
      simp [b_law_2, setSl, e0, hs0, hnx, e1, e2, e3, e4, e5, ixOf, forL, p1, p2]
    · have hx : wor 2147483647 := ⟨by omega, by omega⟩
      have p1 := fun l6 l7 l8 => pair_run (s := s5) hx hy (.imm (.lst (ns.map D.int))) (.imm (.int j)) (.imm (.ref n)) (.imm (.int 1)) (.imm (.int 2147483647)) (.imm (.int (y - 2))) l6 l7 l8
      have p2 := fun l6 l7 l8 => pair_run (s := s5) hy hx (.imm (.lst (ns.map D.int))) (.imm (.int j)) (.imm (.ref n)) (.imm (.int 1)) (.imm (.int 2147483647)) (.imm (.int (y - 2))) l6 l7 l8
      refine ⟨.imm (.int j), .imm (.ref n), .imm (.int 1), .imm (.int 2147483647), .imm (.int (y - 2)), .imm (.int (y - 2)), .imm (.int 2147483647), l8, s5, ?_⟩
      rw [forB]
      simp [b_law_2, setSl, e0, hs0, hnx, e1, e2, e3, e4, e5, ixOf, forL, p1, p2]
  · have p1 := fun l6 l7 l8 => pair_run (s := s3) ha hb (.imm (.lst (ns.map D.int))) (.imm (.int j)) (.imm (.ref n)) (.imm (.int w)) (.imm (.int a)) (.imm (.int b)) l6 l7 l8
    have p2 := fun l6 l7 l8 => pair_run (s := s3) hb ha (.imm (.lst (ns.map D.int))) (.imm (.int j)) (.imm (.ref n)) (.imm (.int w)) (.imm (.int a)) (.imm (.int b)) l6 l7 l8
    refine ⟨.imm (.int j), .imm (.ref n), .imm (.int w), .imm (.int a), .imm (.int b), .imm (.int b), .imm (.int a), l8, s3, ?_⟩
    rw [forB]
    simp [b_law_2, setSl, e0, hs0, hnx, e1, e2, e3, c0, c1, forL, p1, p2]
theorem plain (ns : List Int) (h : ns.length ≤ 63) : ∃ s', callD (fsOf ds) 20 10 [.lst (ns.map D.int)] St.none = .ok (.imm (.bl true)) s' := by
  show ∃ s', callD FS 20 10 [.lst (ns.map D.int)] St.none = .ok (.imm (.bl true)) s'
  have hn : ∃ m : Nat, (if 1 < (if (ns.length : Int) < 40 then (ns.length : Int) else 40) then (if (ns.length : Int) < 40 then (ns.length : Int) else 40) else 1) = (m : Int) ∧ m < 100 := by
    refine ⟨(if 1 < (if (ns.length : Int) < 40 then (ns.length : Int) else 40) then (if (ns.length : Int) < 40 then (ns.length : Int) else 40) else 1).toNat, ?_, ?_⟩ <;> (split <;> split <;> omega)
  obtain ⟨m, hm, hm2⟩ := hn
  rw [call_at (fn := ⟨"law", 1, 9, b_law⟩) rfl]
  obtain ⟨sl', s', h1, h2⟩ := forL_all (body := forB (callD FS 19) (.slot 1) b_law_2) (xs := rangeD 0 m) (s := St.none) (sl := [.imm (.lst (ns.map D.int)), .un, .un, .un, .un, .un, .un, .un, .un]) (fun _ sl s => ∃ l1 l2 l3 l4 l5 l6 l7 l8, sl = [.imm (.lst (ns.map D.int)), l1, l2, l3, l4, l5, l6, l7, l8]) ⟨_, _, _, _, _, _, _, _, rfl⟩ (by
    rintro j x sl s hx ⟨l1, l2, l3, l4, l5, l6, l7, l8, rfl⟩
    obtain ⟨hj, rfl⟩ := range0_at hx
    obtain ⟨k1, k2, k3, k4, k5, k6, k7, k8, s', e⟩ := turn_run (s := s) ns (j := j) l1 l2 l3 l4 l5 l6 l7 l8
    exact ⟨_, s', .inl e, _, _, _, _, _, _, _, _, rfl⟩)
  refine ⟨s', ?_⟩
  simp [b_law, hm, h1, show (m : Int) < 4611686018427387904 by omega, show (-4611686018427387904 : Int) ≤ m by omega]
end K02

/-! ### the text says so; the top's run -/
namespace K02
open PySem PySem.Spec PyProof.Rows L2 Rx
theorem chk : ds.all (chFn tb) = true := by kernel_rfl
theorem hat : ds.all (fun q => decide (q.d.at_ = (q.d.name, none))) = true := by kernel_rfl
def fn : List He.DefD := ds.map (·.d)
def fa : List He.Fa := faOf tb ds
abbrev R : PySem.W.OpenRow := PySem.W.OpenLaw.row PySem.Challenge.rw_ownnames_k02_what_signs_make
abbrev hk : PySem.W.Hook := He.hookD 4 fa fn
def ob (s : PySem.W.SharedT) : He.AlD := He.obsDG 4 fa fn (HandSHeadRun.getT s)
theorem ob_eq (s : PySem.W.SharedT) : ob s = hk.obs s.abs := He.obsDG_eq (HandSHeadRun.getT_eq s)
theorem run (w : World) : HandSHeadRun.RunEq R (PySem.W.view R.prog [14]) hk ob 400 ["HALF", "WHOLE", "brought", "quotient", "made_by", "_law_is_whole", "_law_cell", "_law_feed", "_law_draw", "_law_worth", "_law_sum_right", "_law_parted"] w := by
  intro os
  kernel_rfl
end K02
open PySem PySem.W PySem.Calls PyProof.Rows
theorem PySem.Challenge.cw_ownnames_k02_what_signs_make_holds : PySem.Challenge.rw_ownnames_k02_what_signs_make.Holds := by
  w_on; o_law
  refine HandSHeadRun.head_any (r := OpenLaw.row PySem.Challenge.rw_ownnames_k02_what_signs_make) (q := view (OpenLaw.row PySem.Challenge.rw_ownnames_k02_what_signs_make).prog [14]) (H := K02.hk) (ob := K02.ob) (M := 400) (loose := ["HALF", "WHOLE", "brought", "quotient", "made_by", "_law_is_whole", "_law_cell", "_law_feed", "_law_draw", "_law_worth", "_law_sum_right", "_law_parted"]) (d := HandSHeadRun.topDef (OpenLaw.row PySem.Challenge.rw_ownnames_k02_what_signs_make).prog 14) (kwd := []) K02.ob_eq
    (by kernel_rfl) (fun s => by kernel_rfl) K02.run (by kernel_rfl) (by kernel_rfl) (by kernel_rfl) (by rfl) (by first | assumption | decide +kernel) (by decide +kernel) ⟨rfl, rfl, rfl, rfl, rfl, by decide +kernel⟩ ?hw ?hc
  case hw => w_witness2
  case hc =>
    refine Rx.walkX (law := PySem.Challenge.rw_ownnames_k02_what_signs_make) (m := 63) (k := 20) (x := "_law_script") rfl (by decide) (by kernel_rfl) ⟨rfl, by decide, by decide⟩ ?_
    intro w mg fa h Y G hmg0
    obtain ⟨K, KX, c⟩ := Y
    have hmg : mg (K02.q_law).d.name = some (.ref fa) := by
      have e : (HandSHeadRun.topDef (OpenLaw.row PySem.Challenge.rw_ownnames_k02_what_signs_make).prog 14).name = (K02.q_law).d.name := by kernel_rfl
      rw [← e]
      exact hmg0
    exact ⟨K, KX, Rx.law_at (x := "_law_script") (i := 10) (q := K02.q_law) (ds := K02.ds) (T := K02.tb) KX G c K02.hat rfl K02.chk rfl rfl hmg K02.plain⟩
