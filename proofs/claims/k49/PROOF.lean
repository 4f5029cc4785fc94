import PyProof.Rows.All
import Wide.All
import OpenK.AllK
import Wide.FinOn
import HandS.ForMost
import HandS.Wide
import HandS.Walk
import HandS.IsInst
import HandS.Flow
import HandS.Style
import HandS.HeadEnd
import HandS.HeadHook2
import HandS.Head2
import HandS.Defaults
import HandS.TupAny
import HandS.Deep
import HandS.TupLe
import HandS.RaiseMore
import KE.DataMinMax
import HandS.More
import HandS.Replace
import HandS.Strs
import HandS.StrMore
import HandS.TupMul
import PyProof.ReprRoads
import HandS.SetFor
import HandS.SortInts
import HandS.SortRule
import PyProof.TupleOfSeq
import HandS.Zip
import HandS.TryOnly
import HandS.HeadHook3
import PyProof.Rows.ReprOcc
import PyProof.Rows.ReprWords
import PyProof.ReprLen
import PySem.Challenge.RW_onepolicy_k49_headers_that_go_on
set_option linter.all false
set_option Elab.async false
set_option maxRecDepth 100000
set_option maxHeartbeats 4000000
/-! Mi: a small interpreter over data, its heap of lists and dicts by numbers. -/
namespace Mi
noncomputable section
open PySem L2

/-- data: a tuple is a value; fl: a list that nobody changes; ref: a list or dict of the small heap -/
inductive D where
  | non | bl (b : Bool) | int (i : Int) | str (x : Str)
  | tup (xs : List D) | fl (xs : List D) | ref (l : Nat)

inductive O where
  | lst (xs : List D)
  | dic (kvs : List (Key × D))

abbrev M := List O
abbrev Sl := List (Option D)

inductive R (α : Type) where
  | ok (a : α) (m : M)
  | exc (c : Nat) (as : List D) (m : M)
  | bad
def R.bind {α β : Type} (r : R α) (f : α → M → R β) : R β := match r with
  | .ok a m => f a m
  | .exc c as m => .exc c as m
  | .bad => .bad
theorem bind_ok {α β : Type} (a : α) (m : M) (f : α → M → R β) : (R.ok a m).bind f = f a m := (rfl)
theorem bind_bad {α β : Type} (f : α → M → R β) : (R.bad : R α).bind f = .bad := (rfl)
theorem bind_exc {α β : Type} (c : Nat) (as : List D) (m : M) (f : α → M → R β) : (R.exc c as m : R α).bind f = .exc c as m := (rfl)

/-- what a statement comes to -/
inductive Out where
  | nx (σ : Sl) (m : M) | rt (d : D) (m : M) | bk (σ : Sl) (m : M) | ct (σ : Sl) (m : M)
  | exc (c : Nat) (as : List D) (m : M) | bad
def Out.bind (o : Out) (f : Sl → M → Out) : Out := match o with
  | .nx σ m => f σ m
  | o => o
theorem obind_nx (σ : Sl) (m : M) (f : Sl → M → Out) : (Out.nx σ m).bind f = f σ m := (rfl)
theorem obind_rt (d : D) (m : M) (f : Sl → M → Out) : (Out.rt d m).bind f = .rt d m := (rfl)
theorem obind_bk (σ : Sl) (m : M) (f : Sl → M → Out) : (Out.bk σ m).bind f = .bk σ m := (rfl)
theorem obind_ct (σ : Sl) (m : M) (f : Sl → M → Out) : (Out.ct σ m).bind f = .ct σ m := (rfl)
theorem obind_bad (f : Sl → M → Out) : Out.bad.bind f = .bad := (rfl)
theorem obind_exc (c : Nat) (as : List D) (m : M) (f : Sl → M → Out) : (Out.exc c as m).bind f = .exc c as m := (rfl)
def R.out {α : Type} (r : R α) (f : α → M → Out) : Out := match r with
  | .ok a m => f a m
  | .exc c as m => .exc c as m
  | .bad => .bad
theorem out_ok {α : Type} (a : α) (m : M) (f : α → M → Out) : (R.ok a m).out f = f a m := (rfl)
theorem out_bad {α : Type} (f : α → M → Out) : (R.bad : R α).out f = .bad := (rfl)
theorem out_exc {α : Type} (c : Nat) (as : List D) (m : M) (f : α → M → Out) : (R.exc c as m : R α).out f = .exc c as m := (rfl)
def Out.fin (o : Out) : R D := match o with
  | .nx _ m => .ok .non m
  | .rt d m => .ok d m
  | .exc c as m => .exc c as m
  | _ => .bad

/-! ### values -/
def line : Nat := 16777216
def mapO {α β : Type} (f : α → Option β) : List α → Option (List β)
  | [] => some []
  | a :: r => match f a with
    | some b => match mapO f r with
      | some bs => some (b :: bs)
      | none => none
    | none => none
/-- as data for == -/
def toPy : Nat → M → D → Option PyData
  | 0, _, _ => none
  | n + 1, m, d => match d with
    | .non => some .none
    | .bl b => some (.bool b)
    | .int i => some (.int i)
    | .str x => some (.str x)
    | .tup xs => (mapO (toPy n m) xs).map .tuple
    | .fl xs => (mapO (toPy n m) xs).map .list
    | .ref l => match m[l]? with
      | some (.lst xs) => (mapO (toPy n m) xs).map .list
      | _ => none
/-- the items of a tuple or list -/
def seqD (d : D) (m : M) : Option (List D) := match d with
  | .tup xs => some xs
  | .fl xs => some xs
  | .ref l => match m[l]? with
    | some (.lst xs) => some xs
    | _ => none
  | _ => none
def truth (d : D) (m : M) : Option Bool := match d with
  | .non => some false
  | .bl b => some b
  | .int i => some (i != 0)
  | .str x => some ((x.length : Int) != 0)
  | .tup xs => some (!xs.isEmpty)
  | .fl xs => some (!xs.isEmpty)
  | .ref l => match m[l]? with
    | some (.lst xs) => some (!xs.isEmpty)
    | some (.dic kvs) => some (!kvs.isEmpty)
    | none => none
def flat : D → Bool
  | .non => true
  | .bl _ => true
  | .int _ => true
  | .str _ => true
  | _ => false
def eqF : D → D → Bool
  | .non, .non => true
  | .bl a, .bl b => a == b
  | .bl a, .int b => (if a then 1 else 0) == b
  | .int a, .bl b => a == (if b then 1 else 0)
  | .int a, .int b => a == b
  | .str a, .str b => a == b
  | _, _ => false
def keyD : D → Option Key
  | .int i => some (.inl i)
  | .str x => some (.inr x)
  | _ => none
def dKey : Key → D
  | .inl i => .int i
  | .inr x => .str x
/-! ### dicts -/
def valK : List (Key × D) → Key → Option D
  | [], _ => none
  | (j, d) :: r, k => if j = k then some d else valK r k
def hasK : List (Key × D) → Key → Bool
  | [], _ => false
  | (j, _) :: r, k => if j = k then true else hasK r k
def repK : List (Key × D) → Key → D → List (Key × D)
  | [], _, _ => []
  | (j, d) :: r, k, v => (if j = k then (j, v) else (j, d)) :: repK r k v
/-- in its place, or at the end -/
def putKD (kvs : List (Key × D)) (k : Key) (v : D) : List (Key × D) := if hasK kvs k = true then repK kvs k v else kvs ++ [(k, v)]
def mergeKD : List (Key × D) → List (Key × D) → List (Key × D)
  | acc, [] => acc
  | acc, (k, v) :: r => mergeKD (putKD acc k v) r
def dicD (d : D) (m : M) : Option (List (Key × D)) := match d with
  | .ref l => match m[l]? with
    | some (.dic kvs) => some kvs
    | _ => none
  | _ => none
def pairsD : List D → Option (List (Key × D))
  | [] => some []
  | .tup [k, d] :: r => (match keyD k with
    | some k => (match pairsD r with
      | some t => some ((k, d) :: t)
      | none => none)
    | none => none)
  | _ :: _ => none
def allocK (kvs : List (Key × D)) (m : M) : R D := .ok (.ref m.length) (m ++ [.dic kvs])

/-! ### operators -/
inductive Bop where
  | add | sub | mul | fdiv | mod | pow | shl | shr
inductive Cop where
  | lt | le | gt | ge | eq | ne | is | nis | mem | nmem
def smallF (i : Int) : Prop := -18446744073709551616 < i ∧ i < 18446744073709551616
instance (i : Int) : Decidable (smallF i) := by unfold smallF; infer_instance
def alloc (xs : List D) (m : M) : R D := .ok (.ref m.length) (m ++ [.lst xs])
/-- a text that the model takes -/
def okS (x : Str) : Bool := PyData.strOk x && decide (x.length ≤ line)
def strR (x : Str) (m : M) : R D := if okS x = true then .ok (.str x) m else .bad
def repS (a : Str) (n : Nat) : Str := ⟨(List.replicate n a.cps).foldl (· ++ ·) #[]⟩
def binD (o : Bop) (x y : D) (m : M) : R D := match o, x, y with
  | .add, .int i, .int j => .ok (.int (i + j)) m
  | .sub, .int i, .int j => .ok (.int (i - j)) m
  | .mul, .int i, .int j => if smallF i ∨ smallF j then .ok (.int (i * j)) m else .bad
  | .fdiv, .int i, .int j => if 0 < j ∧ j < 1606938044258990275541962092341162602522202993782792835301376 then .ok (.int (i / j)) m else .bad
  | .mod, .int i, .int j => if 0 < j then .ok (.int (i % j)) m else .bad
  | .pow, .int i, .int j => if 0 ≤ j ∧ j ≤ 1000000 ∧ smallF i then .ok (.int (i ^ j.toNat)) m else .bad
  | .shl, .int i, .int j => if 0 ≤ j ∧ j ≤ 1000000 ∧ smallF i then .ok (.int (i * 2 ^ j.toNat)) m else .bad
  | .shr, .int i, .int j => if 0 ≤ j then .ok (.int (i / 2 ^ j.toNat)) m else .bad
  | .mul, .str a, .int k => if 0 ≤ k ∧ k ≤ 1000000 ∧ a.length * k.toNat ≤ line then strR (repS a k.toNat) m else .bad
  | .add, .str a, .str b => if a.length + b.length ≤ line then .ok (.str (a ++ b)) m else .bad
  | .add, .tup xs, .tup ys => if xs.length + ys.length ≤ line then .ok (.tup (xs ++ ys)) m else .bad
  | .add, .ref a, .ref b => match m[a]?, m[b]? with
    | some (.lst xs), some (.lst ys) => if xs.length + ys.length ≤ line then alloc (xs ++ ys) m else .bad
    | _, _ => .bad
  | .mul, .tup xs, .int k => if -9223372036854775808 ≤ k ∧ k < 9223372036854775808 ∧ xs.length * k.toNat ≤ line then .ok (.tup (List.replicate k.toNat xs).flatten) m else .bad
  | .mul, .ref a, .int k => match m[a]? with
    | some (.lst xs) => if -9223372036854775808 ≤ k ∧ k < 9223372036854775808 ∧ xs.length * k.toNat ≤ line then alloc (List.replicate k.toNat xs).flatten m else .bad
    | _ => .bad
  | _, _, _ => .bad
/-- x op= y -/
def augD (o : Bop) (x y : D) (m : M) : R D := match o, x, y with
  | .add, .int i, .int j => .ok (.int (i + j)) m
  | .sub, .int i, .int j => .ok (.int (i - j)) m
  | .mul, .int i, .int j => if smallF i ∨ smallF j then .ok (.int (i * j)) m else .bad
  | .add, .str a, .str b => if a.length + b.length ≤ line then .ok (.str (a ++ b)) m else .bad
  | _, _, _ => .bad
/-- dicts of empty dicts -/
def isEm (m : M) (d : D) : Bool := match d with
  | .ref l => (match m[l]? with
    | some (.dic []) => true
    | _ => false)
  | _ => false
def dicN (d : D) (m : M) : Option (List (Key × D)) := match d with
  | .ref l => (match m[l]? with
    | some (.dic kvs) => some kvs
    | _ => none)
  | _ => none
def eqN (m : M) (x y : D) : Option Bool := match dicN x m, dicN y m with
  | some ks, some ls => if ks.map (·.1) = ls.map (·.1) ∧ (ks.all fun p => isEm m p.2) = true ∧ (ls.all fun p => isEm m p.2) = true then some true else none
  | _, _ => none
def eqD (m : M) (x y : D) : Option Bool := match toPy 60 m x, toPy 60 m y with
  | some a, some b => some (PyData.eqv a b)
  | _, _ => eqN m x y
def isD (x y : D) : Option Bool := match y, x with
  | .non, .non => some true
  | .non, .bl _ => some false
  | .non, .int _ => some false
  | .non, .str _ => some false
  | .non, .tup _ => some false
  | .non, .fl _ => some false
  | .non, .ref _ => some false
  | .bl b, .bl a => some (decide (a = b))
  | _, _ => none
/-- x.lower().replace(y, z) -/
def lrpD (y z : Str) (d : D) (m : M) : R D := match d with
  | .str a => if a.length ≤ 5592405 ∧ (Txt.lower a).length + ((Txt.lower a).length + 1) * z.length ≤ 16777216 then strR (Txt.replace (Txt.lower a) y z) m else .bad
  | _ => .bad
/-- one sign in a text -/
def sgnD (x y : D) : Option Bool := match y with
  | .str z => (match x with
    | .str a => (match a.cps.toList with
      | [c] => some (decide (c ∈ z.cps.toList))
      | _ => none)
    | _ => none)
  | _ => none
def inS (x y : D) (m : M) : Option Bool := match seqD y m with
  | some xs => if flat x = true ∧ xs.all flat = true then some (xs.any fun z => eqF z x) else (match y with
    | .tup _ => none
    | _ => match toPy 60 m x, mapO (toPy 60 m) xs with
      | some a, some bs => some (bs.any fun z => PyData.eqv z a)
      | _, _ => none)
  | none => sgnD x y
def inD (x y : D) (m : M) : Option Bool := match dicD y m with
  | some kvs => (match keyD x with
    | some k => some (valK kvs k).isSome
    | none => none)
  | none => inS x y m
def bO (o : Option Bool) (m : M) : R D := match o with
  | some b => .ok (.bl b) m
  | none => .bad
def cmpD (o : Cop) (x y : D) (m : M) : R D := match o with
  | .lt => (match x, y with
    | .int i, .int j => .ok (.bl (decide (i < j))) m
    | _, _ => .bad)
  | .le => (match x, y with
    | .int i, .int j => .ok (.bl (decide (i ≤ j))) m
    | _, _ => .bad)
  | .gt => (match x, y with
    | .int i, .int j => .ok (.bl (decide (j < i))) m
    | _, _ => .bad)
  | .ge => (match x, y with
    | .int i, .int j => .ok (.bl (decide (j ≤ i))) m
    | _, _ => .bad)
  | .eq => bO (eqD m x y) m
  | .ne => bO ((eqD m x y).map (!·)) m
  | .is => bO (isD x y) m
  | .nis => bO ((isD x y).map (!·)) m
  | .mem => bO (inD x y m) m
  | .nmem => bO ((inD x y m).map (!·)) m
/-- a text's sign -/
def ixT (x : D) (k : Int) (m : M) : R D := match x with
  | .str z => (match atI z.cps.toList k with
    | some c => .ok (.str ⟨#[c]⟩) m
    | none => .bad)
  | _ => .bad
def ixS (x i : D) (m : M) : R D := match i with
  | .int k => (match seqD x m with
    | some xs => (match atI xs k with
      | some d => .ok d m
      | none => .bad)
    | none => ixT x k m)
  | _ => .bad
def ixD (x i : D) (m : M) : R D := match dicD x m with
  | some kvs => (match keyD i with
    | some k => (match valK kvs k with
      | some d => .ok d m
      | none => .bad)
    | none => .bad)
  | none => ixS x i m
def cutD (xs : List D) (lo hi : Option Int) : List D := (xs.drop (HT.sIx xs.length 0 lo)).take (HT.sIx xs.length xs.length hi - HT.sIx xs.length 0 lo)
def slD (x : D) (lo hi : Option Int) (m : M) : R D := match x with
  | .tup xs => .ok (.tup (cutD xs lo hi)) m
  | .fl xs => alloc (cutD xs lo hi) m
  | .ref l => match m[l]? with
    | some (.lst xs) => alloc (cutD xs lo hi) m
    | _ => .bad
  | .str x => strR (cutS x lo hi) m
  | _ => .bad
def setS (x i v : D) (m : M) : Option M := match x, i with
  | .ref l, .int k => (match m[l]? with
    | some (.lst xs) => (match ixN xs.length k with
      | some j => some (m.set l (.lst (xs.set j v)))
      | none => none)
    | _ => none)
  | _, _ => none
def setD (x i v : D) (m : M) : Option M := match x with
  | .ref l => (match m[l]? with
    | some (.dic kvs) => (match keyD i with
      | some k => if kvs.length < line then some (m.set l (.dic (putKD kvs k v))) else none
      | none => none)
    | _ => setS x i v m)
  | _ => none

/-! ### built-ins -/
inductive Bi where
  | len | abs | int | min | max | list | tuple | all | any | sum | repr | str | ord | chr | dict
def intsD : List D → Option (List Int)
  | [] => some []
  | .int i :: r => (match intsD r with
    | some is => some (i :: is)
    | none => none)
  | _ :: _ => none
def blsD : List D → Option (List Bool)
  | [] => some []
  | .bl i :: r => (match blsD r with
    | some is => some (i :: is)
    | none => none)
  | _ :: _ => none
/-- of a list's items -/
def biL (f : Bi) (xs : List D) (m : M) : R D := match f with
  | .len => .ok (.int xs.length) m
  | .list => alloc xs m
  | .tuple => .ok (.tup xs) m
  | .all => (match blsD xs with
    | some bs => .ok (.bl (bs.all id)) m
    | none => .bad)
  | .any => (match blsD xs with
    | some bs => .ok (.bl (bs.any id)) m
    | none => .bad)
  | .sum => (match intsD xs with
    | some is => .ok (.int is.sum) m
    | none => .bad)
  | .dict => (match pairsD xs with
    | some kvs => allocK (mergeKD [] kvs) m
    | none => .bad)
  | _ => .bad
def one (ds : List D) (g : D → R D) : R D := match ds with
  | [d] => g d
  | _ => .bad
def two (ds : List D) (g : D → D → R D) : R D := match ds with
  | [d, e] => g d e
  | _ => .bad
def lenD (d : D) (m : M) : R D := match d with
  | .str x => .ok (.int x.length) m
  | .tup xs => .ok (.int xs.length) m
  | .fl xs => .ok (.int xs.length) m
  | .ref l => (match m[l]? with
    | some (.lst xs) => .ok (.int xs.length) m
    | some (.dic kvs) => .ok (.int kvs.length) m
    | _ => .bad)
  | _ => .bad
def intD (d : D) (m : M) : R D := match d with
  | .int i => .ok (.int i) m
  | .bl k => .ok (.int (if k then 1 else 0)) m
  | .str a => (match PySem.intText? a with
    | some n => if a.length ≤ 640 then .ok (.int n) m else .bad
    | none => .bad)
  | _ => .bad
def absD (d : D) (m : M) : R D := match d with
  | .int i => .ok (.int (if i < 0 then -i else i)) m
  | _ => .bad
def minD (d e : D) (m : M) : R D := match d, e with
  | .int i, .int j => .ok (.int (if j < i then j else i)) m
  | _, _ => .bad
def maxD (d e : D) (m : M) : R D := match d, e with
  | .int i, .int j => .ok (.int (if j > i then j else i)) m
  | _, _ => .bad
/-- a display's text -/
def showR (d : D) (m : M) : R D := match toPy 60 m d with
  | some p => if p.showable = true then strR p.shown m else .bad
  | none => .bad
def keyP : Key → PyData
  | .inl i => .int i
  | .inr x => .str x
mutual
/-- no list, no dict within -/
def noL : PyData → Bool
  | .none => true
  | .bool _ => true
  | .int _ => true
  | .str _ => true
  | .tuple xs => noLs xs
  | .list _ => false
  | .dict _ => false
def noLs : List PyData → Bool
  | [] => true
  | x :: xs => noL x && noLs xs
end
def zipP : List (Key × D) → List PyData → List (PyData × PyData)
  | (k, _) :: r, p :: ps => (keyP k, p) :: zipP r ps
  | _, _ => []
/-- a dict's text -/
def showK (kvs : List (Key × D)) (m : M) : R D := match mapO (toPy 58 m) (kvs.map (·.2)) with
  | some ps => if noLs ps = true ∧ (PyData.dict (zipP kvs ps)).showable = true then strR (PyData.dict (zipP kvs ps)).shown m else .bad
  | none => .bad
def reprD (d : D) (m : M) : R D := match d with
  | .non => .ok (.str "None") m
  | .bl b => .ok (.str (if b then "True" else "False")) m
  | .int i => if i.natAbs.log2 < 1920 then strR (toString i) m else .bad
  | .str x => strR (reprText x) m
  | .tup xs => showR (.tup xs) m
  | .fl xs => showR (.fl xs) m
  | .ref l => (match m[l]? with
    | some (.dic kvs) => showK kvs m
    | _ => showR (.ref l) m)
def strD (d : D) (m : M) : R D := match d with
  | .int i => if i.natAbs.log2 < 1920 then strR (toString i) m else .bad
  | .str x => .ok (.str x) m
  | _ => .bad
def ordD (d : D) (m : M) : R D := match d with
  | .str x => if x.length = 1 then .ok (.int (x.cps.getD 0 0 : Nat)) m else .bad
  | _ => .bad
def chrD (d : D) (m : M) : R D := match d with
  | .int i => if 0 ≤ i ∧ i ≤ 1114111 then strR ⟨#[i.toNat]⟩ m else .bad
  | _ => .bad
/-- of a list of ours -/
def lstB (f : Bi) (d : D) (m : M) : R D := match d with
  | .ref l => (match m[l]? with
    | some (.lst xs) => biL f xs m
    | _ => .bad)
  | _ => .bad
/-- the place of the best one, the first of its like -/
def bestI (f : Nat → Nat → Bool) : Nat → Nat
  | 0 => 0
  | k + 1 => if f (k + 1) (bestI f k) = true then k + 1 else bestI f k
def isNoP : PyData → Bool
  | .none => true
  | _ => false
/-- all can be compared with one another -/
def alikeP (ps : List PyData) : Bool := ps.all fun x => !isNoP x && ps.all fun y => PySem.W.alike x y
def ltP (lo : Bool) (ps : List PyData) (i j : Nat) : Bool := if lo = true then PySem.W.dataLt (ps.getD i .none) (ps.getD j .none) else PySem.W.dataLt (ps.getD j .none) (ps.getD i .none)
/-- the least (the greatest) of a list of ours -/
def extD (lo : Bool) (d : D) (m : M) : R D := match d with
  | .ref l => (match m[l]? with
    | some (.lst xs) => (match mapO (toPy 60 m) xs with
      | some ps => if 0 < ps.length ∧ alikeP ps = true then .ok (xs.getD (bestI (ltP lo ps) (ps.length - 1)) .non) m else .bad
      | none => .bad)
    | _ => .bad)
  | _ => .bad
def ext2 (lo : Bool) (g : D → D → R D) (ds : List D) (m : M) : R D := match ds with
  | [d] => extD lo d m
  | _ => two ds g
def biD (f : Bi) (ds : List D) (m : M) : R D := match f with
  | .len => one ds fun d => lenD d m
  | .abs => one ds fun d => absD d m
  | .int => one ds fun d => intD d m
  | .min => ext2 true (fun d e => minD d e m) ds m
  | .max => ext2 false (fun d e => maxD d e m) ds m
  | .list => one ds fun d => (match seqD d m with
    | some xs => alloc xs m
    | none => .bad)
  | .tuple => one ds fun d => (match seqD d m with
    | some xs => .ok (.tup xs) m
    | none => .bad)
  | .all => one ds fun d => lstB .all d m
  | .any => one ds fun d => lstB .any d m
  | .sum => one ds fun d => lstB .sum d m
  | .repr => one ds fun d => reprD d m
  | .str => one ds fun d => strD d m
  | .ord => one ds fun d => ordD d m
  | .chr => one ds fun d => chrD d m
  | .dict => one ds fun d => (match dicD d m with
    | some kvs => allocK kvs m
    | none => lstB .dict d m)
/-- o.m(..), m of a list -/
inductive Me where
  | append | pop | get | startswith | split | join
  | index | extend | insert | lower | upper | strip | sindex
def strsD : List D → Option (List Str)
  | [] => some []
  | .str i :: r => (match strsD r with
    | some is => some (i :: is)
    | none => none)
  | _ :: _ => none
def lstM (d : D) (m : M) (g : Nat → List D → R D) : R D := match d with
  | .ref l => (match m[l]? with
    | some (.lst xs) => g l xs
    | _ => .bad)
  | _ => .bad
/-- where a list has its first equal item -/
def idxD (xs : List D) (y : D) (m : M) : Option Nat := match toPy 60 m y, mapO (toPy 60 m) xs with
  | some d, some es => es.findIdx? fun z => PyData.eqv z d
  | _, _ => none
def meD (f : Me) (o : D) (ds : List D) (m : M) : R D := match f with
  | .index => one ds fun y => lstM o m fun _ xs => (match idxD xs y m with
    | some j => .ok (.int (j : Nat)) m
    | none => .bad)
  | .extend => one ds fun d => lstM o m fun l xs => lstM d m fun _ zs => if xs.length + zs.length ≤ line then .ok .non (m.set l (.lst (xs ++ zs))) else .bad
  | .insert => (match ds with
    | [.int i, y] => lstM o m fun l xs => if xs.length < line ∧ 0 ≤ i ∧ i < 9223372036854775808 then .ok .non (m.set l (.lst (xs.take i.toNat ++ [y] ++ xs.drop i.toNat))) else .bad
    | _ => .bad)
  | .lower => (match o, ds with
    | .str a, [] => if a.length ≤ 5592405 then strR (Txt.lower a) m else .bad
    | _, _ => .bad)
  | .upper => (match o, ds with
    | .str a, [] => if a.length ≤ 5592405 then strR (Txt.upper a) m else .bad
    | _, _ => .bad)
  | .strip => (match o, ds with
    | .str a, [.str b] => if a.length ≤ line then strR (Txt.stripChars a b) m else .bad
    | _, _ => .bad)
  | .sindex => (match o, ds with
    | .str a, [.str b] => (match Builtin.Str.occurrences a b 0 a.length 1 with
      | i :: _ => .ok (.int (i : Nat)) m
      | [] => .bad)
    | _, _ => .bad)
  | .append => one ds fun d => lstM o m fun l xs => if xs.length < line then .ok .non (m.set l (.lst (xs ++ [d]))) else .bad
  | .pop => (match ds with
    | [] => lstM o m fun l xs => (match xs[xs.length - 1]? with
      | some y => .ok y (m.set l (.lst xs.dropLast))
      | none => .bad)
    | [.int i] => lstM o m fun l xs => if -9223372036854775808 ≤ i ∧ i < 9223372036854775808 then (match ixN xs.length i with
      | some j => (match xs[j]? with
        | some y => .ok y (m.set l (.lst (xs.eraseIdx j)))
        | none => .bad)
      | none => .bad) else .bad
    | _ => .bad)
  | .get => (match dicD o m with
    | some kvs => (match ds with
      | [k] => (match keyD k with
        | some k => .ok ((valK kvs k).getD .non) m
        | none => .bad)
      | [k, d] => (match keyD k with
        | some k => .ok ((valK kvs k).getD d) m
        | none => .bad)
      | _ => .bad)
    | none => .bad)
  | .startswith => (match o, ds with
    | .str a, [.str b] => .ok (.bl (Txt.startswith a b)) m
    | _, _ => .bad)
  | .split => (match o, ds with
    | .str a, [.str b] => if b.length ≠ 0 ∧ a.length + 2 ≤ line ∧ (Txt.split a b).all okS = true then alloc ((Txt.split a b).map .str) m else .bad
    | _, _ => .bad)
  | .join => (match o, ds with
    | .str a, [.ref l] => (match m[l]? with
      | some (.lst xs) => (match strsD xs with
        | some ys => if (ys.map (·.length)).sum + ys.length * a.length ≤ 16777216 then strR (Txt.join a ys) m else .bad
        | none => .bad)
      | _ => .bad)
    | _, _ => .bad)

/-! ### sorted(set(..)) of ints -/
def insU (x : Int) : List Int → List Int
  | [] => [x]
  | y :: ys => if x < y then x :: y :: ys else if x = y then y :: ys else y :: insU x ys
def sortU (xs : List Int) : List Int := xs.foldr insU []
def ssD (d : D) (m : M) : R D := match d with
  | .ref l => (match m[l]? with
    | some (.lst xs) => (match intsD xs with
      | some is => if is.length ≤ 60 then alloc ((sortU is).map .int) m else .bad
      | none => .bad)
    | _ => .bad)
  | .tup xs => (match intsD xs with
    | some is => if is.length ≤ 1000 then alloc ((sortU is).map .int) m else .bad
    | none => .bad)
  | _ => .bad
/-! ### sorted(..) of pairs of ints -/
def prsD : List D → Option (List (Int × Int))
  | [] => some []
  | .tup [.int i, .int j] :: r => (match prsD r with
    | some is => some ((i, j) :: is)
    | none => none)
  | _ :: _ => none
def prD (p : Int × Int) : D := .tup [.int p.1, .int p.2]
def insP (x : Int × Int) : List (Int × Int) → List (Int × Int)
  | [] => [x]
  | y :: ys => if y.1 < x.1 ∨ y.1 = x.1 ∧ y.2 < x.2 then y :: insP x ys else x :: y :: ys
def sortP (xs : List (Int × Int)) : List (Int × Int) := xs.foldr insP []
def insN (x : Int) : List Int → List Int
  | [] => [x]
  | y :: ys => if y < x then y :: insN x ys else x :: y :: ys
def sortN (xs : List Int) : List Int := xs.foldr insN []
def soD (d : D) (m : M) : R D := match seqD d m with
  | some xs => (match prsD xs with
    | some ps => alloc ((sortP ps).map prD) m
    | none => (match intsD xs with
      | some is => alloc ((sortN is).map .int) m
      | none => .bad))
  | none => .bad
/-- xs[::-1] -/
def rvD (d : D) (m : M) : R D := match d with
  | .ref l => (match m[l]? with
    | some (.lst xs) => alloc xs.reverse m
    | _ => .bad)
  | _ => .bad

/-! ### types -/
inductive Ty where
  | int | bool | str | list | tuple | dict
def tyD (d : D) (m : M) : Option Ty := match d with
  | .bl _ => some .bool
  | .int _ => some .int
  | .str _ => some .str
  | .tup _ => some .tuple
  | .fl _ => some .list
  | .ref l => match m[l]? with
    | some (.lst _) => some .list
    | some (.dic _) => some .dict
    | none => none
  | .non => none
def isTy : Ty → Ty → Bool
  | .int, .int => true
  | .bool, .bool => true
  | .bool, .int => true
  | .str, .str => true
  | .list, .list => true
  | .tuple, .tuple => true
  | .dict, .dict => true
  | _, _ => false
def Ty.same : Ty → Ty → Bool
  | .int, .int => true | .bool, .bool => true | .str, .str => true | .list, .list => true | .tuple, .tuple => true | .dict, .dict => true
  | _, _ => false
def meTy : Me → Ty
  | .append => .list | .pop => .list | .get => .dict | .startswith => .str | .split => .str | .join => .str
  | .index => .list | .extend => .list | .insert => .list | .lower => .str | .upper => .str | .strip => .str | .sindex => .str
/-- is it a thing whose methods these are? -/
def recvB (t : Ty) (x : D) (m : M) : Bool := match x with
  | .str _ => t.same .str
  | .ref l => (match m[l]? with
    | some (.lst _) => t.same .list
    | some (.dic _) => t.same .dict
    | none => false)
  | _ => false
def isiD (d : D) (ts : List Ty) (m : M) : R D := match d with
  | .non => .ok (.bl false) m
  | d => match tyD d m with
    | some t => .ok (.bl (ts.any (isTy t))) m
    | none => .bad

/-! ### the terms -/
inductive Tg where
  | nm (i : Nat)
  | tp (is : List Nat)
mutual
inductive E where
  | var (i : Nat)
  | cst (d : D)
  | glo (x : Str) (g : Nat)
  | bin (o : Bop) (a b : E)
  | neg (a : E)
  | nt (a : E)
  | cmp (o : Cop) (a b : E)
  | ch2 (o p : Cop) (a b c : E)
  | ch3 (o p q : Cop) (a b c d : E)
  | and (a b : E)
  | or (a b : E)
  | ife (c a b : E)
  | tup (es : Es)
  | lst (es : Es)
  | dct0
  | dct (ks : List D) (es : Es)
  | ix (a b : E)
  | kix (x : Str) (kvs : List (Str × Int)) (a : E)
  | kgt (x : Str) (kvs : List (Str × Int)) (es : Es)
  | sl (a : E) (lo hi : Eo)
  | fn (x : Str) (f : Nat) (es : Es)
  | bi (f : Bi) (es : Es)
  | bt (f : Bi) (e : E)
  | ss (e : E)
  | so (e : E)
  | rv (e : E)
  | halt
  | lrp (e : E) (y z : Str)
  | me (f : Me) (o : E) (es : Es)
  | isi (a : E) (one : Bool) (ts : List Ty)
  | lc (vs : List Nat) (x : Tg) (it : It) (ts : Es) (e : E)
inductive Es where
  | nil
  | cons (e : E) (es : Es)
inductive Eo where
  | no
  | so (e : E)
inductive It where
  | seq (e : E)
  | tmp (e : E)
  | rng1 (b : E)
  | rng2 (a b : E)
  | rng3 (a b c : E)
  | zip (a b : E)
end
/-- a name or an item, of several that are set at once -/
inductive T2 where
  | nm (i : Nat)
  | sub (o i : E)
mutual
inductive S where
  | set (x : Tg) (e : E)
  | six (o i e : E)
  | aug (i : Nat) (o : Bop) (e : E)
  | exp (e : E)
  | ret (e : E)
  | retN
  | ife (c : E) (a b : Ss)
  | for (x : Tg) (it : It) (b : Ss)
  | whl (c : E) (b : Ss)
  | brk | cnt | pas
  | par (is : List Nat) (es : Es)
  | mset (ts : List T2) (e : E)
  | halt
  | sel (c : E) (i : Nat) (a b : S)
inductive Ss where
  | nil
  | cons (s : S) (r : Ss)
end

/-! ### the run -/
structure Cx where
  call : Nat → List D → M → R D
  fu : Nat
  con : Nat → Option D
def setNs : List Nat → List D → Sl → Option Sl
  | [], [], σ => some σ
  | i :: is, d :: ds, σ => setNs is ds (σ.set i (some d))
  | _, _, _ => none
def setT (x : Tg) (d : D) (σ : Sl) : Option Sl := match x with
  | .nm i => some (σ.set i (some d))
  | .tp is => match d with
    | .tup ds => setNs is ds σ
    | _ => none
/-- what several names take: the items of a list, too -/
def lstT (x : Tg) (d : D) (m : M) : D := match x with
  | .nm _ => d
  | .tp _ => match d with
    | .ref l => (match m[l]? with
      | some (.lst ds) => .tup ds
      | _ => .ref l)
    | d => d
def wipeM (σ : Sl) : List Nat → Sl
  | [] => σ
  | v :: vs => (wipeM σ vs).set v none
/-- what is walked: the items; a list of the heap that has to stand -/
inductive IV where
  | free (xs : List D)
  | held (l : Nat) (xs : List D)
def IV.xs : IV → List D
  | .free xs => xs
  | .held _ xs => xs
def IV.stands (v : IV) (m : M) : Prop := match v with
  | .free _ => True
  | .held l xs => m[l]? = some (.lst xs)
def iterD (d : D) (m : M) : R IV := match d with
  | .tup xs => .ok (.free xs) m
  | .fl xs => .ok (.free xs) m
  | .str x => .ok (.free (x.cps.toList.map fun c => .str ⟨#[c]⟩)) m
  | .ref l => match m[l]? with
    | some (.lst xs) => .ok (.held l xs) m
    | _ => .bad
  | _ => .bad
def rngD (lo hi : D) (m : M) : R IV := match lo, hi with
  | .int a, .int b => if -4611686018427387904 ≤ a ∧ a < 4611686018427387904 ∧ -4611686018427387904 ≤ b ∧ b < 4611686018427387904 ∧ b - a ≤ 16777216 then
      .ok (.free ((List.range (b - a).toNat).map fun k => .int (a + (k : Nat)))) m else .bad
  | _, _ => .bad
/-- how many: a, a + c, .. below b -/
def stepN (a b c : Int) : Nat := if a < b then ((b - a - 1) / c + 1).toNat else 0
def rng3D (x y z : D) (m : M) : R IV := match x, y, z with
  | .int a, .int b, .int c => if -4611686018427387904 ≤ a ∧ a < 4611686018427387904 ∧ -4611686018427387904 ≤ b ∧ b < 4611686018427387904 ∧ b - a ≤ 16777216 ∧ 0 < c ∧ c < 1073741824 then
      .ok (.free ((List.range (stepN a b c)).map fun k => .int (a + (k : Nat) * c))) m else .bad
  | _, _, _ => .bad
def zipD (x y : D) (m : M) : R IV := match x, y with
  | .tup xs, .tup ys => .ok (.free (List.zipWith (fun a b => .tup [a, b]) xs ys)) m
  | _, _ => .bad
/-- a written table at a text -/
def kixD (kvs : List (Str × Int)) (d : D) (m : M) : R D := match d with
  | .str k => (match kvs.find? (fun q => decide (q.1 = k)) with
    | some q => .ok (.int q.2) m
    | none => .bad)
  | _ => .bad
/-- a display's pairs -/
def zipK : List D → List D → Option (List (Key × D))
  | [], [] => some []
  | k :: ks, d :: ds => (match keyD k with
    | some k => (match zipK ks ds with
      | some r => some ((k, d) :: r)
      | none => none)
    | none => none)
  | _, _ => none
def dctD (ks ds : List D) (m : M) : R D := match zipK ks ds with
  | some kvs => allocK (mergeKD [] kvs) m
  | none => .bad
/-- a written table's get, with what is told for other keys -/
def kgtV (kvs : List (Str × Int)) (k : Str) (d : D) : D := match kvs.find? (fun q => decide (q.1 = k)) with
  | some q => .int q.2
  | none => d
def kgtD (kvs : List (Str × Int)) (ds : List D) (m : M) : R D := match ds with
  | [.str k, d] => .ok (kgtV kvs k d) m
  | _ => .bad
/-- a comprehension's items -/
def lcD (set : D → Option Sl) (stands : M → Prop) (ts : Sl → M → R Bool) (e : Sl → M → R D) : List D → List D → M → R (List D)
  | [], acc, m => open Classical in if stands m then .ok acc m else .bad
  | d :: ds, acc, m => open Classical in if stands m then (match set d with
    | some σ => (match ts σ m with
      | .ok true m1 => (match e σ m1 with
        | .ok y m2 => lcD set stands ts e ds (acc ++ [y]) m2
        | _ => .bad)
      | .ok false m1 => lcD set stands ts e ds acc m1
      | _ => .bad)
    | none => .bad) else .bad
def forD (set : D → Sl → Option Sl) (stands : M → Prop) (b : Sl → M → Out) : List D → Sl → M → Out
  | [], σ, m => open Classical in if stands m then .nx σ m else .bad
  | d :: ds, σ, m => open Classical in if stands m then (match set d σ with
    | some σ1 => (match b σ1 m with
      | .nx σ2 m2 => forD set stands b ds σ2 m2
      | .ct σ2 m2 => forD set stands b ds σ2 m2
      | .bk σ2 m2 => .nx σ2 m2
      | o => o)
    | none => .bad) else .bad
def whlD (c : Sl → M → R Bool) (b : Sl → M → Out) : Nat → Sl → M → Out
  | 0, _, _ => .bad
  | n + 1, σ, m => match c σ m with
    | .ok true m1 => (match b σ m1 with
      | .nx σ2 m2 => whlD c b n σ2 m2
      | .ct σ2 m2 => whlD c b n σ2 m2
      | .bk σ2 m2 => .nx σ2 m2
      | o => o)
    | .ok false m1 => .nx σ m1
    | _ => .bad
def negD (d : D) (m : M) : R D := match d with
  | .int i => .ok (.int (-i)) m
  | _ => .bad
def chD (z : D) (m : M) (k : M → R D) : R D := match z with
  | .bl true => k m
  | .bl false => .ok (.bl false) m
  | _ => .bad
def optD (d : D) (m : M) : R (Option Int) := match d with
  | .int i => .ok (some i) m
  | _ => .bad
def tru (d : D) (m : M) : R Bool := match truth d m with
  | some b => .ok b m
  | none => .bad
mutual
def ev (C : Cx) : E → Sl → M → R D
  | .var i, σ, m => (match σ[i]? with
    | some (some d) => .ok d m
    | _ => .bad)
  | .cst d, _, m => .ok d m
  | .glo _ g, _, m => (match C.con g with
    | some d => .ok d m
    | none => .bad)
  | .bin o a b, σ, m => (ev C a σ m).bind fun x m1 => (ev C b σ m1).bind fun y m2 => binD o x y m2
  | .neg a, σ, m => (ev C a σ m).bind fun x m1 => negD x m1
  | .nt a, σ, m => ((ev C a σ m).bind tru).bind fun b m1 => .ok (.bl (!b)) m1
  | .cmp o a b, σ, m => (ev C a σ m).bind fun x m1 => (ev C b σ m1).bind fun y m2 => cmpD o x y m2
  | .ch2 o p a b c, σ, m => (ev C a σ m).bind fun x m1 => (ev C b σ m1).bind fun y m2 => (cmpD o x y m2).bind fun z m3 => chD z m3 fun m3 => (ev C c σ m3).bind fun w m4 => cmpD p y w m4
  | .ch3 o p q a b c d, σ, m => (ev C a σ m).bind fun x m1 => (ev C b σ m1).bind fun y m2 => (cmpD o x y m2).bind fun z m3 => chD z m3 fun m3 => (ev C c σ m3).bind fun w m4 => (cmpD p y w m4).bind fun z m5 => chD z m5 fun m5 => (ev C d σ m5).bind fun u m6 => cmpD q w u m6
  | .and a b, σ, m => (ev C a σ m).bind fun x m1 => (tru x m1).bind fun k m2 => if k = true then ev C b σ m2 else .ok x m2
  | .or a b, σ, m => (ev C a σ m).bind fun x m1 => (tru x m1).bind fun k m2 => if k = true then .ok x m2 else ev C b σ m2
  | .ife c a b, σ, m => ((ev C c σ m).bind tru).bind fun k m1 => if k = true then ev C a σ m1 else ev C b σ m1
  | .tup es, σ, m => (evs C es σ m).bind fun ds m1 => .ok (.tup ds) m1
  | .lst es, σ, m => (evs C es σ m).bind fun ds m1 => alloc ds m1
  | .dct0, _, m => allocK [] m
  | .dct ks es, σ, m => (evs C es σ m).bind fun ds m1 => dctD ks ds m1
  | .ix a b, σ, m => (ev C a σ m).bind fun x m1 => (ev C b σ m1).bind fun y m2 => ixD x y m2
  | .kix _ kvs a, σ, m => (ev C a σ m).bind fun x m1 => kixD kvs x m1
  | .kgt _ kvs es, σ, m => (evs C es σ m).bind fun ds m1 => kgtD kvs ds m1
  | .sl a lo hi, σ, m => (ev C a σ m).bind fun x m1 => (evo C lo σ m1).bind fun l m2 => (evo C hi σ m2).bind fun h m3 => slD x l h m3
  | .fn _ f es, σ, m => (evs C es σ m).bind fun ds m1 => C.call f ds m1
  | .bi f es, σ, m => (evs C es σ m).bind fun ds m1 => biD f ds m1
  | .ss e, σ, m => (ev C e σ m).bind fun x m1 => ssD x m1
  | .so e, σ, m => (ev C e σ m).bind fun x m1 => soD x m1
  | .rv e, σ, m => (ev C e σ m).bind fun x m1 => rvD x m1
  | .halt, _, _ => .bad
  | .lrp e y z, σ, m => (ev C e σ m).bind fun x m1 => lrpD y z x m1
  | .bt f e, σ, m => (evL C e σ m).bind fun xs m1 => biL f xs m1
  | .me f o es, σ, m => (ev C o σ m).bind fun x m1 => if recvB (meTy f) x m1 = true then (evs C es σ m1).bind fun ds m2 => meD f x ds m2 else .bad
  | .isi a _ ts, σ, m => (ev C a σ m).bind fun x m1 => isiD x ts m1
  | .lc vs x it ts e, σ, m => (evI C it σ m).bind fun v m1 => (lcD (fun d => setT x d (wipeM σ vs)) v.stands (evTs C ts) (ev C e) v.xs [] m1).bind fun ds m2 => alloc ds m2
/-- an expression that makes a list: its items, the list not laid -/
def evL (C : Cx) : E → Sl → M → R (List D)
  | .lst es, σ, m => evs C es σ m
  | .lc vs x it ts e, σ, m => (evI C it σ m).bind fun v m1 => lcD (fun d => setT x d (wipeM σ vs)) v.stands (evTs C ts) (ev C e) v.xs [] m1
  | _, _, _ => .bad
def evs (C : Cx) : Es → Sl → M → R (List D)
  | .nil, _, m => .ok [] m
  | .cons e es, σ, m => (ev C e σ m).bind fun d m1 => (evs C es σ m1).bind fun ds m2 => .ok (d :: ds) m2
def evTs (C : Cx) : Es → Sl → M → R Bool
  | .nil, _, m => .ok true m
  | .cons e es, σ, m => ((ev C e σ m).bind tru).bind fun k m1 => if k = true then evTs C es σ m1 else .ok false m1
def evo (C : Cx) : Eo → Sl → M → R (Option Int)
  | .no, _, m => .ok none m
  | .so e, σ, m => (ev C e σ m).bind fun d m1 => optD d m1
def evI (C : Cx) : It → Sl → M → R IV
  | .seq e, σ, m => (ev C e σ m).bind fun d m1 => iterD d m1
  | .tmp e, σ, m => (evL C e σ m).bind fun xs m1 => .ok (.free xs) m1
  | .rng1 b, σ, m => (ev C b σ m).bind fun y m1 => rngD (.int 0) y m1
  | .rng2 a b, σ, m => (ev C a σ m).bind fun x m1 => (ev C b σ m1).bind fun y m2 => rngD x y m2
  | .rng3 a b c, σ, m => (ev C a σ m).bind fun x m1 => (ev C b σ m1).bind fun y m2 => (ev C c σ m2).bind fun z m3 => rng3D x y z m3
  | .zip a b, σ, m => (ev C a σ m).bind fun x m1 => (ev C b σ m1).bind fun y m2 => zipD x y m2
end
/-- several targets, one after another -/
def setM (C : Cx) : List T2 → List D → Sl → M → Out
  | [], [], σ, m => .nx σ m
  | .nm i :: ts, d :: ds, σ, m => setM C ts ds (σ.set i (some d)) m
  | .sub o i :: ts, d :: ds, σ, m => (ev C o σ m).out fun x m2 => (ev C i σ m2).out fun y m3 => (match setD x y d m3 with
    | some m4 => setM C ts ds σ m4
    | none => .bad)
  | _, _, _, _ => .bad
/-- as a test -/
def evT (C : Cx) (e : E) (σ : Sl) (m : M) : R Bool := (ev C e σ m).bind tru
mutual
def evS (C : Cx) : S → Sl → M → Out
  | .set x e, σ, m => (ev C e σ m).out fun d m1 => (match setT x (lstT x d m1) σ with
    | some σ1 => .nx σ1 m1
    | none => .bad)
  | .six o i e, σ, m => (ev C e σ m).out fun v m1 => (ev C o σ m1).out fun x m2 => (ev C i σ m2).out fun y m3 => (match setD x y v m3 with
    | some m4 => .nx σ m4
    | none => .bad)
  | .aug i o e, σ, m => (match σ[i]? with
    | some (some x) => (ev C e σ m).out fun y m1 => (augD o x y m1).out fun z m2 => .nx (σ.set i (some z)) m2
    | _ => .bad)
  | .exp e, σ, m => (ev C e σ m).out fun _ m1 => .nx σ m1
  | .ret e, σ, m => (ev C e σ m).out fun d m1 => .rt d m1
  | .retN, _, m => .rt .non m
  | .ife c a b, σ, m => (evT C c σ m).out fun k m1 => if k = true then evSs C a σ m1 else evSs C b σ m1
  | .for x it b, σ, m => (evI C it σ m).out fun v m1 => forD (setT x) v.stands (evSs C b) v.xs σ m1
  | .whl c b, σ, m => whlD (evT C c) (evSs C b) C.fu σ m
  | .brk, σ, m => .bk σ m
  | .cnt, σ, m => .ct σ m
  | .pas, σ, m => .nx σ m
  | .halt, _, _ => .bad
  | .sel c i a b, σ, m => if i < σ.length then (evT C c σ m).out fun k m1 => if k = true then evS C a (σ.set i none) m1 else evS C b (σ.set i none) m1 else .bad
  | .mset ts e, σ, m => (ev C e σ m).out fun d m1 => (match d with
    | .tup ds => if ds.length = ts.length then setM C ts ds σ m1 else .bad
    | _ => .bad)
  | .par is es, σ, m => (evs C es σ m).out fun ds m1 => (match setNs is ds σ with
    | some σ1 => .nx σ1 m1
    | none => .bad)
def evSs (C : Cx) : Ss → Sl → M → Out
  | .nil, σ, m => .nx σ m
  | .cons s r, σ, m => (evS C s σ m).bind fun σ1 m1 => evSs C r σ1 m1
end
/-- a def: how many parameters, how many slots, its body -/
structure Fn where
  np : Nat
  ns : Nat
  body : Ss
def callF (T : List Fn) (fu : Nat) (con : Nat → Option D) : Nat → Nat → List D → M → R D
  | 0, _, _, _ => .bad
  | k + 1, f, ds, m => match T[f]? with
    | some fn => if ds.length = fn.np then (evSs ⟨callF T fu con k, fu, con⟩ fn.body (ds.map some ++ List.replicate (fn.ns - fn.np) none) m).fin else .bad
    | none => .bad
end
end Mi

set_option linter.all false
set_option autoImplicit false
set_option Elab.async false
set_option maxRecDepth 100000
set_option maxHeartbeats 4000000
/-! Mi2: how data lie in the abstract heap; readings. -/
namespace Mi
open PySem L2
/-- a text that may be laid -/
def SOk (x : Str) : Prop := PyData.strOk x = true ∧ x.length ≤ sizeLine
/-- a list that nobody changes -/
def FzL (K : PySem.W.Frag) (H : Hp) (a : Addr) (vs : List V) : Prop :=
  (∃ o, H a = some (.frz o (.lst vs))) ∨
    ∃ (o : Obj) (its : Array Value) (n : Nat), K.lookup a = some o ∧ o.cls = .type "list" ∧ o.dict = none ∧ o.data = .seq its n ∧ its.size ≤ sizeLine ∧ Vals vs its.toList
theorem FzL.sq {K : PySem.W.Frag} {H : Hp} {a : Addr} {vs : List V} (h : FzL K H a vs) : SqL K H a vs := by
  rcases h with h | h
  · exact .inl (.inr h)
  · exact .inr h
mutual
def RV (K : PySem.W.Frag) (H : Hp) (ρ : List Addr) : D → V → Prop
  | .non, v => v = .non
  | .bl b, v => v = .bl b
  | .int i, v => v = .int i
  | .str x, v => v = .str x ∧ SOk x
  | .tup xs, v => ∃ a vs, v = .ref a ∧ SqT K H a vs ∧ RVs K H ρ xs vs
  | .fl xs, v => ∃ a vs, v = .ref a ∧ FzL K H a vs ∧ RVs K H ρ xs vs
  | .ref l, v => ∃ a, v = .ref a ∧ ρ[l]? = some a
def RVs (K : PySem.W.Frag) (H : Hp) (ρ : List Addr) : List D → List V → Prop
  | [], vs => vs = []
  | d :: ds, vs => ∃ v r, vs = v :: r ∧ RV K H ρ d v ∧ RVs K H ρ ds r
end
/-- a dict's pairs -/
def RKs (K : PySem.W.Frag) (H : Hp) (ρ : List Addr) : List (Key × D) → List (Key × V) → Prop
  | [], ws => ws = []
  | (k, d) :: r, ws => ∃ v s, ws = (k, v) :: s ∧ RV K H ρ d v ∧ RKs K H ρ r s
def RO (K : PySem.W.Frag) (H : Hp) (ρ : List Addr) : O → Addr → Prop
  | .lst xs, a => ∃ vs, H a = some (.lst vs) ∧ RVs K H ρ xs vs
  | .dic kvs, a => ∃ ws, H a = some (.dK ws) ∧ RKs K H ρ kvs ws
structure Rel (K : PySem.W.Frag) (H : Hp) (ρ : List Addr) (m : M) : Prop where
  len : ρ.length = m.length
  nd : ρ.Nodup
  ob : ∀ (l : Nat) (o : O), m[l]? = some o → ∃ a, ρ[l]? = some a ∧ RO K H ρ o a
/-- all that is not ours stands; what is new of ours was free -/
structure Ext (H : Hp) (ρ : List Addr) (H' : Hp) (ρ' : List Addr) : Prop where
  pre : ρ <+: ρ'
  keep : ∀ a o, H a = some o → a ∉ ρ → H' a = some o
  new : ∀ a o, H a = some o → a ∈ ρ' → a ∈ ρ
theorem Ext.refl (H : Hp) (ρ : List Addr) : Ext H ρ H ρ := ⟨List.prefix_refl _, fun _ _ h _ => h, fun _ _ _ h => h⟩
theorem Ext.trans {H H1 H2 : Hp} {ρ ρ1 ρ2 : List Addr} (x : Ext H ρ H1 ρ1) (y : Ext H1 ρ1 H2 ρ2) : Ext H ρ H2 ρ2 where
  pre := x.pre.trans y.pre
  keep := fun a o h n => y.keep a o (x.keep a o h n) fun h1 => n (x.new a o h h1)
  new := fun a o h h2 => Classical.byContradiction fun n => n (x.new a o h (y.new a o (x.keep a o h n) h2))
theorem prefix_get {α : Type} {l l' : List α} (h : l <+: l') {i : Nat} {a : α} (e : l[i]? = some a) : l'[i]? = some a := by
  obtain ⟨t, rfl⟩ := h
  rw [List.getElem?_append_left (List.getElem?_eq_some_iff.mp e).1]
  exact e
/-- ours are lists and dicts -/
theorem Rel.own {K : PySem.W.Frag} {H : Hp} {ρ : List Addr} {m : M} (r : Rel K H ρ m) {a : Addr} (h : a ∈ ρ) : (∃ vs, H a = some (.lst vs)) ∨ ∃ ws, H a = some (.dK ws) := by
  obtain ⟨l, hl, e⟩ := List.getElem_of_mem h
  have hm : l < m.length := by rw [← r.len]; exact hl
  obtain ⟨b, hb, ro⟩ := r.ob l m[l] (by simp [hm])
  have e2 : ρ[l]? = some a := by rw [List.getElem?_eq_getElem hl, e]
  rw [e2] at hb
  cases hb
  cases q : m[l] with
  | lst xs =>
    rw [q] at ro
    obtain ⟨vs, h1, _⟩ := ro
    exact .inl ⟨vs, h1⟩
  | dic kvs =>
    rw [q] at ro
    obtain ⟨vs, h1, _⟩ := ro
    exact .inr ⟨vs, h1⟩
theorem Rel.notin {K : PySem.W.Frag} {H : Hp} {ρ : List Addr} {m : M} (r : Rel K H ρ m) {a : Addr} {o : HO} (h : H a = some o) (n1 : ∀ vs, o ≠ .lst vs) (n2 : ∀ ws, o ≠ .dK ws) : a ∉ ρ := fun q => by
  rcases r.own q with ⟨vs, e⟩ | ⟨vs, e⟩
  · rw [h] at e; exact n1 _ (Option.some.inj e)
  · rw [h] at e; exact n2 _ (Option.some.inj e)
theorem Rel.free {K : PySem.W.Frag} {H : Hp} {ρ : List Addr} {m : M} (r : Rel K H ρ m) {a : Addr} (h : H a = none) : a ∉ ρ := fun q => by
  rcases r.own q with ⟨vs, e⟩ | ⟨vs, e⟩ <;> (rw [h] at e; cases e)
/-- what is free behind was free ahead -/
theorem Ext.nofree {K : PySem.W.Frag} {H H' : Hp} {ρ ρ' : List Addr} {m' : M} (r : Rel K H' ρ' m') (x : Ext H ρ H' ρ') {p : Addr} (h : H' p = Option.none) : H p = Option.none := by
  cases e : H p with
  | none => rfl
  | some o =>
    by_cases q : p ∈ ρ
    · exact absurd (x.pre.subset q) (r.free h)
    · rw [x.keep p o e q] at h
      cases h
section
variable {K : PySem.W.Frag} {H H' : Hp} {ρ ρ' : List Addr} {m : M}
mutual
/-- where the tuples and the lists that nobody changes stand as well -/
theorem RV.down (ht : ∀ {a us}, SqT K H a us → SqT K H' a us) (hf : ∀ {a us}, FzL K H a us → FzL K H' a us) : ∀ (d : D) (v : V), RV K H ρ d v → RV K H' ρ d v
  | .non, _, h => by simp only [RV] at h ⊢; exact h
  | .bl _, _, h => by simp only [RV] at h ⊢; exact h
  | .int _, _, h => by simp only [RV] at h ⊢; exact h
  | .str _, _, h => by simp only [RV] at h ⊢; exact h
  | .tup xs, _, h => by
    simp only [RV] at h ⊢
    obtain ⟨a, vs, e, h1, h2⟩ := h
    exact ⟨a, vs, e, ht h1, RVs.down ht hf xs vs h2⟩
  | .fl xs, _, h => by
    simp only [RV] at h ⊢
    obtain ⟨a, vs, e, h1, h2⟩ := h
    exact ⟨a, vs, e, hf h1, RVs.down ht hf xs vs h2⟩
  | .ref l, _, h => by
    simp only [RV] at h ⊢
    exact h
theorem RVs.down (ht : ∀ {a us}, SqT K H a us → SqT K H' a us) (hf : ∀ {a us}, FzL K H a us → FzL K H' a us) : ∀ (ds : List D) (vs : List V), RVs K H ρ ds vs → RVs K H' ρ ds vs
  | [], _, h => by simp only [RVs] at h ⊢; exact h
  | d :: ds, _, h => by
    simp only [RVs] at h ⊢
    obtain ⟨v, s, e, h1, h2⟩ := h
    exact ⟨v, s, e, RV.down ht hf d v h1, RVs.down ht hf ds s h2⟩
end
theorem RKs.down (ht : ∀ {a us}, SqT K H a us → SqT K H' a us) (hf : ∀ {a us}, FzL K H a us → FzL K H' a us) : ∀ (ds : List (Key × D)) (vs : List (Key × V)), RKs K H ρ ds vs → RKs K H' ρ ds vs
  | [], _, h => by simp only [RKs] at h ⊢; exact h
  | (k, d) :: ds, _, h => by
    simp only [RKs] at h ⊢
    obtain ⟨v, s, e, h1, h2⟩ := h
    exact ⟨v, s, e, RV.down ht hf d v h1, RKs.down ht hf ds s h2⟩
mutual
theorem RV.up (x : ρ <+: ρ') : ∀ (d : D) (v : V), RV K H ρ d v → RV K H ρ' d v
  | .non, _, h => by simp only [RV] at h ⊢; exact h
  | .bl _, _, h => by simp only [RV] at h ⊢; exact h
  | .int _, _, h => by simp only [RV] at h ⊢; exact h
  | .str _, _, h => by simp only [RV] at h ⊢; exact h
  | .tup xs, _, h => by
    simp only [RV] at h ⊢
    obtain ⟨a, vs, e, h1, h2⟩ := h
    exact ⟨a, vs, e, h1, RVs.up x xs vs h2⟩
  | .fl xs, _, h => by
    simp only [RV] at h ⊢
    obtain ⟨a, vs, e, h1, h2⟩ := h
    exact ⟨a, vs, e, h1, RVs.up x xs vs h2⟩
  | .ref l, _, h => by
    simp only [RV] at h ⊢
    obtain ⟨a, e, h1⟩ := h
    exact ⟨a, e, prefix_get x h1⟩
theorem RVs.up (x : ρ <+: ρ') : ∀ (ds : List D) (vs : List V), RVs K H ρ ds vs → RVs K H ρ' ds vs
  | [], _, h => by simp only [RVs] at h ⊢; exact h
  | d :: ds, _, h => by
    simp only [RVs] at h ⊢
    obtain ⟨v, s, e, h1, h2⟩ := h
    exact ⟨v, s, e, RV.up x d v h1, RVs.up x ds s h2⟩
end
theorem RKs.up (x : ρ <+: ρ') : ∀ (ds : List (Key × D)) (vs : List (Key × V)), RKs K H ρ ds vs → RKs K H ρ' ds vs
  | [], _, h => by simp only [RKs] at h ⊢; exact h
  | (k, d) :: ds, _, h => by
    simp only [RKs] at h ⊢
    obtain ⟨v, s, e, h1, h2⟩ := h
    exact ⟨v, s, e, RV.up x d v h1, RKs.up x ds s h2⟩
theorem sqT_ext (r : Rel K H ρ m) (x : Ext H ρ H' ρ') {a : Addr} {vs : List V} (h : SqT K H a vs) : SqT K H' a vs := by
  rcases h with (h | ⟨o, h⟩) | h
  · exact .inl (.inl (x.keep a _ h (r.notin h (fun _ z => nomatch z) fun _ z => nomatch z)))
  · exact .inl (.inr ⟨o, x.keep a _ h (r.notin h (fun _ z => nomatch z) fun _ z => nomatch z)⟩)
  · exact .inr h
theorem fzL_ext (r : Rel K H ρ m) (x : Ext H ρ H' ρ') {a : Addr} {vs : List V} (h : FzL K H a vs) : FzL K H' a vs := by
  rcases h with ⟨o, h⟩ | h
  · exact .inl ⟨o, x.keep a _ h (r.notin h (fun _ z => nomatch z) fun _ z => nomatch z)⟩
  · exact .inr h
mutual
theorem RV.ext (r : Rel K H ρ m) (x : Ext H ρ H' ρ') : ∀ (d : D) (v : V), RV K H ρ d v → RV K H' ρ' d v
  | .non, _, h => by simp only [RV] at h ⊢; exact h
  | .bl _, _, h => by simp only [RV] at h ⊢; exact h
  | .int _, _, h => by simp only [RV] at h ⊢; exact h
  | .str _, _, h => by simp only [RV] at h ⊢; exact h
  | .tup xs, _, h => by
    simp only [RV] at h ⊢
    obtain ⟨a, vs, e, h1, h2⟩ := h
    exact ⟨a, vs, e, sqT_ext r x h1, RVs.ext r x xs vs h2⟩
  | .fl xs, _, h => by
    simp only [RV] at h ⊢
    obtain ⟨a, vs, e, h1, h2⟩ := h
    exact ⟨a, vs, e, fzL_ext r x h1, RVs.ext r x xs vs h2⟩
  | .ref l, _, h => by
    simp only [RV] at h ⊢
    obtain ⟨a, e, h1⟩ := h
    exact ⟨a, e, prefix_get x.pre h1⟩
theorem RVs.ext (r : Rel K H ρ m) (x : Ext H ρ H' ρ') : ∀ (ds : List D) (vs : List V), RVs K H ρ ds vs → RVs K H' ρ' ds vs
  | [], _, h => by simp only [RVs] at h ⊢; exact h
  | d :: ds, _, h => by
    simp only [RVs] at h ⊢
    obtain ⟨v, s, e, h1, h2⟩ := h
    exact ⟨v, s, e, RV.ext r x d v h1, RVs.ext r x ds s h2⟩
end
theorem RKs.ext (r : Rel K H ρ m) (x : Ext H ρ H' ρ') : ∀ (ds : List (Key × D)) (vs : List (Key × V)), RKs K H ρ ds vs → RKs K H' ρ' ds vs
  | [], _, h => by simp only [RKs] at h ⊢; exact h
  | (k, d) :: ds, _, h => by
    simp only [RKs] at h ⊢
    obtain ⟨v, s, e, h1, h2⟩ := h
    exact ⟨v, s, e, RV.ext r x d v h1, RKs.ext r x ds s h2⟩
theorem RO.ext (r : Rel K H ρ m) (x : Ext H ρ H' ρ') {o : O} {a : Addr} (e : H' a = H a) (h : RO K H ρ o a) : RO K H' ρ' o a := by
  cases o with
  | lst xs =>
    obtain ⟨vs, h1, h2⟩ := h
    exact ⟨vs, e.trans h1, RVs.ext r x _ _ h2⟩
  | dic kvs =>
    obtain ⟨vs, h1, h2⟩ := h
    exact ⟨vs, e.trans h1, RKs.ext r x _ _ h2⟩
/-- an object that is not ours is laid -/
theorem Ext.laid (r : Rel K H ρ m) {p : Addr} {o : HO} (hp : H p = none) : Ext H ρ (upd H p o) ρ :=
  ⟨List.prefix_refl _, fun a u h _ => by rw [upd_ne (ne_of_none h hp)]; exact h, fun _ _ _ h => h⟩
theorem Rel.laid (r : Rel K H ρ m) {p : Addr} {o : HO} (hp : H p = none) : Rel K (upd H p o) ρ m :=
  ⟨r.len, r.nd, fun l u e => by
    obtain ⟨a, ha, ro⟩ := r.ob l u e
    have hne : a ≠ p := fun q => r.free (q ▸ hp) (List.mem_of_getElem? ha)
    exact ⟨a, ha, RO.ext r (Ext.laid r hp) (upd_ne hne) ro⟩⟩
/-- an object of ours is laid -/
theorem Ext.alloc (r : Rel K H ρ m) {p : Addr} {o : HO} (hp : H p = none) : Ext H ρ (upd H p o) (ρ ++ [p]) :=
  ⟨List.prefix_append _ _, fun a u h _ => by rw [upd_ne (ne_of_none h hp)]; exact h, fun a u h hm => by
    rcases List.mem_append.mp hm with q | q
    · exact q
    · have e : a = p := by simpa using q
      exact absurd h (by rw [e, hp]; exact fun z => nomatch z)⟩
theorem Rel.alloc (r : Rel K H ρ m) {p : Addr} {o : HO} {u : O} (hp : H p = none) (ro : RO K (upd H p o) (ρ ++ [p]) u p) : Rel K (upd H p o) (ρ ++ [p]) (m ++ [u]) := by
  refine ⟨by simp [r.len], ?_, fun l w e => ?_⟩
  · rw [List.nodup_append]
    refine ⟨r.nd, by simp, fun a ha b hb => ?_⟩
    have e : b = p := by simpa using hb
    rintro rfl
    exact r.free hp (e ▸ ha)
  · by_cases hl : l < m.length
    · rw [List.getElem?_append_left hl] at e
      obtain ⟨a, ha, r2⟩ := r.ob l w e
      have hne : a ≠ p := fun q => r.free (q ▸ hp) (List.mem_of_getElem? ha)
      exact ⟨a, prefix_get (List.prefix_append _ _) ha, RO.ext r (Ext.alloc r hp) (upd_ne hne) r2⟩
    · rw [List.getElem?_append_right (by omega)] at e
      have h0 : l - m.length = 0 := by
        by_cases q : l - m.length = 0
        · exact q
        · rw [List.getElem?_eq_none (by simp; omega)] at e
          cases e
      rw [h0] at e
      cases e
      refine ⟨p, ?_, ro⟩
      have : l = ρ.length := by rw [r.len]; omega
      rw [this]
      simp
/-- an object of ours is changed -/
theorem Ext.set (r : Rel K H ρ m) {a : Addr} {o : HO} (ha : a ∈ ρ) : Ext H ρ (upd H a o) ρ :=
  ⟨List.prefix_refl _, fun b u h n => by rw [upd_ne (show b ≠ a from fun q => n (by rw [q]; exact ha))]; exact h, fun _ _ _ h => h⟩
theorem Rel.set (r : Rel K H ρ m) {a : Addr} {o : HO} {l : Nat} {u : O} (ha : ρ[l]? = some a) (ro : RO K (upd H a o) ρ u a) : Rel K (upd H a o) ρ (m.set l u) := by
  have hma := List.mem_of_getElem? ha
  refine ⟨by simp [r.len], r.nd, fun l2 w e => ?_⟩
  by_cases hl : l = l2
  · subst hl
    have hlt : l < m.length := by rw [← r.len]; exact (List.getElem?_eq_some_iff.mp ha).1
    rw [List.getElem?_set_self hlt] at e
    cases e
    exact ⟨a, ha, ro⟩
  · rw [List.getElem?_set_ne hl] at e
    obtain ⟨b, hb, r2⟩ := r.ob l2 w e
    have hne : b ≠ a := by
      rintro rfl
      obtain ⟨h1, e1⟩ := List.getElem?_eq_some_iff.mp ha
      obtain ⟨h2, e2⟩ := List.getElem?_eq_some_iff.mp hb
      exact hl ((List.getElem_inj r.nd).mp (e1.trans e2.symm))
    exact ⟨b, hb, RO.ext r (Ext.set r hma) (upd_ne hne) r2⟩
theorem Rel.lst (r : Rel K H ρ m) {l : Nat} {xs : List D} (e : m[l]? = some (.lst xs)) : ∃ a vs, ρ[l]? = some a ∧ H a = some (.lst vs) ∧ RVs K H ρ xs vs := by
  obtain ⟨a, ha, vs, h1, h2⟩ := r.ob l _ e
  exact ⟨a, vs, ha, h1, h2⟩
theorem RVs.length : ∀ (ds : List D) (vs : List V), RVs K H ρ ds vs → ds.length = vs.length
  | [], _, h => by simp only [RVs] at h; subst h; rfl
  | d :: ds, _, h => by
    simp only [RVs] at h
    obtain ⟨v, s, rfl, _, h2⟩ := h
    simp [RVs.length ds s h2]
theorem RVs.get : ∀ (ds : List D) (vs : List V) (i : Nat) (d : D), RVs K H ρ ds vs → ds[i]? = some d → ∃ v, vs[i]? = some v ∧ RV K H ρ d v
  | [], _, _, _, _, e => by simp at e
  | d :: ds, _, 0, _, h, e => by
    simp only [RVs] at h
    obtain ⟨v, s, rfl, h1, _⟩ := h
    simp at e
    subst e
    exact ⟨v, by simp, h1⟩
  | d :: ds, _, i + 1, d', h, e => by
    simp only [RVs] at h
    obtain ⟨v, s, rfl, _, h2⟩ := h
    obtain ⟨w, h3, h4⟩ := RVs.get ds s i d' h2 (by simpa using e)
    exact ⟨w, by simpa using h3, h4⟩
theorem RVs.nil : RVs K H ρ [] [] := by simp only [RVs]
theorem RVs.cons {d : D} {v : V} {ds : List D} {vs : List V} (h : RV K H ρ d v) (t : RVs K H ρ ds vs) : RVs K H ρ (d :: ds) (v :: vs) := by
  simp only [RVs]
  exact ⟨v, vs, rfl, h, t⟩
theorem RVs.append : ∀ (ds : List D) (vs : List V) (es : List D) (ws : List V), RVs K H ρ ds vs → RVs K H ρ es ws → RVs K H ρ (ds ++ es) (vs ++ ws)
  | [], _, _, _, h, t => by simp only [RVs] at h; subst h; exact t
  | d :: ds, _, es, ws, h, t => by
    simp only [RVs] at h
    obtain ⟨v, s, rfl, h1, h2⟩ := h
    exact RVs.cons h1 (RVs.append ds s es ws h2 t)
theorem RVs.take : ∀ (n : Nat) (ds : List D) (vs : List V), RVs K H ρ ds vs → RVs K H ρ (ds.take n) (vs.take n)
  | 0, _, _, _ => by simp only [List.take_zero]; exact RVs.nil
  | n + 1, [], _, h => by simp only [RVs] at h; subst h; simp only [List.take_nil]; exact RVs.nil
  | n + 1, d :: ds, _, h => by
    simp only [RVs] at h
    obtain ⟨v, s, rfl, h1, h2⟩ := h
    exact RVs.cons h1 (RVs.take n ds s h2)
theorem RVs.drop : ∀ (n : Nat) (ds : List D) (vs : List V), RVs K H ρ ds vs → RVs K H ρ (ds.drop n) (vs.drop n)
  | 0, _, _, h => by simpa only [List.drop_zero] using h
  | n + 1, [], _, h => by simp only [RVs] at h; subst h; simp only [List.drop_nil]; exact RVs.nil
  | n + 1, d :: ds, _, h => by
    simp only [RVs] at h
    obtain ⟨v, s, rfl, h1, h2⟩ := h
    exact RVs.drop n ds s h2
theorem RVs.set : ∀ (ds : List D) (vs : List V) (i : Nat) (d : D) (v : V), RVs K H ρ ds vs → RV K H ρ d v → RVs K H ρ (ds.set i d) (vs.set i v)
  | [], _, _, _, _, h, _ => by simp only [RVs] at h; subst h; simp only [List.set_nil]; exact RVs.nil
  | x :: ds, _, 0, d, v, h, t => by
    simp only [RVs] at h
    obtain ⟨w, s, rfl, h1, h2⟩ := h
    exact RVs.cons t h2
  | x :: ds, _, i + 1, d, v, h, t => by
    simp only [RVs] at h
    obtain ⟨w, s, rfl, h1, h2⟩ := h
    exact RVs.cons h1 (RVs.set ds s i d v h2 t)
theorem RVs.dropLast (ds : List D) (vs : List V) (h : RVs K H ρ ds vs) : RVs K H ρ ds.dropLast vs.dropLast := by
  rw [List.dropLast_eq_take, List.dropLast_eq_take, RVs.length ds vs h]
  exact RVs.take _ _ _ h
theorem RVs.cut (ds : List D) (vs : List V) (lo hi : Option Int) (h : RVs K H ρ ds vs) : RVs K H ρ (cutD ds lo hi) (cutV vs lo hi) := by
  unfold cutD cutV
  rw [RVs.length ds vs h]
  exact RVs.take _ _ _ (RVs.drop _ _ _ h)
theorem RVs.atI (ds : List D) (vs : List V) (i : Int) (d : D) (h : RVs K H ρ ds vs) (e : L2.atI ds i = some d) : ∃ v, L2.atI vs i = some v ∧ RV K H ρ d v := by
  unfold L2.atI at e ⊢
  rw [← RVs.length ds vs h]
  cases q : ixN ds.length i with
  | none => rw [q] at e; cases e
  | some j =>
    rw [q] at e
    exact RVs.get ds vs j d h e
theorem RVs.mapint : ∀ (is : List Int), RVs K H ρ (is.map D.int) (is.map V.int)
  | [] => RVs.nil
  | i :: is => RVs.cons (by simp only [RV]) (RVs.mapint is)
theorem intsD_map : ∀ (xs : List D) (is : List Int), intsD xs = some is → xs = is.map D.int
  | [], _, h => by cases h; rfl
  | .int i :: r, _, h => by
    unfold intsD at h
    split at h
    · rename_i js e
      cases h
      rw [intsD_map r js e]
      rfl
    · cases h
  | .non :: _, _, h => by simp [intsD] at h
  | .bl _ :: _, _, h => by simp [intsD] at h
  | .str _ :: _, _, h => by simp [intsD] at h
  | .tup _ :: _, _, h => by simp [intsD] at h
  | .fl _ :: _, _, h => by simp [intsD] at h
  | .ref _ :: _, _, h => by simp [intsD] at h
theorem blsD_map : ∀ (xs : List D) (is : List Bool), blsD xs = some is → xs = is.map D.bl
  | [], _, h => by cases h; rfl
  | .bl i :: r, _, h => by
    unfold blsD at h
    split at h
    · rename_i js e
      cases h
      rw [blsD_map r js e]
      rfl
    · cases h
  | .non :: _, _, h => by simp [blsD] at h
  | .int _ :: _, _, h => by simp [blsD] at h
  | .str _ :: _, _, h => by simp [blsD] at h
  | .tup _ :: _, _, h => by simp [blsD] at h
  | .fl _ :: _, _, h => by simp [blsD] at h
  | .ref _ :: _, _, h => by simp [blsD] at h
theorem RVs.ints : ∀ (is : List Int) (vs : List V), RVs K H ρ (is.map D.int) vs → vs = is.map V.int
  | [], _, h => by simpa [RVs] using h
  | i :: is, _, h => by
    simp only [List.map_cons, RVs] at h
    obtain ⟨v, s, rfl, h1, h2⟩ := h
    simp only [RV] at h1
    rw [h1, RVs.ints is s h2]
    rfl
theorem RVs.bls : ∀ (is : List Bool) (vs : List V), RVs K H ρ (is.map D.bl) vs → vs = is.map V.bl
  | [], _, h => by simpa [RVs] using h
  | i :: is, _, h => by
    simp only [List.map_cons, RVs] at h
    obtain ⟨v, s, rfl, h1, h2⟩ := h
    simp only [RV] at h1
    rw [h1, RVs.bls is s h2]
    rfl
end

/-! ### slots -/
structure RS (K : PySem.W.Frag) (H : Hp) (ρ : List Addr) (σ : Sl) (τ : St) : Prop where
  len : σ.length = τ.length
  at_ : ∀ (i : Nat) (d : D), σ[i]? = some (some d) → ∃ v, τ[i]? = some (some v) ∧ RV K H ρ d v
section
variable {K : PySem.W.Frag} {H H' : Hp} {ρ ρ' : List Addr} {m : M} {σ : Sl} {τ : St}
theorem RS.ext (s : RS K H ρ σ τ) (r : Rel K H ρ m) (x : Ext H ρ H' ρ') : RS K H' ρ' σ τ :=
  ⟨s.len, fun i d e => let ⟨v, h1, h2⟩ := s.at_ i d e; ⟨v, h1, RV.ext r x d v h2⟩⟩
theorem RS.set (s : RS K H ρ σ τ) {d : D} {v : V} (i : Nat) (h : RV K H ρ d v) : RS K H ρ (σ.set i (some d)) (τ.set i (some v)) := by
  refine ⟨by simp [s.len], fun j e q => ?_⟩
  by_cases hj : i = j
  · subst hj
    by_cases hi : i < σ.length
    · rw [List.getElem?_set_self hi] at q
      cases q
      exact ⟨v, by rw [List.getElem?_set_self (by rw [← s.len]; exact hi)], h⟩
    · rw [List.getElem?_eq_none (by simpa using hi)] at q
      cases q
  · rw [List.getElem?_set_ne hj] at q
    obtain ⟨w, h1, h2⟩ := s.at_ j e q
    exact ⟨w, by rw [List.getElem?_set_ne hj]; exact h1, h2⟩
theorem RS.setN (s : RS K H ρ σ τ) (i : Nat) : RS K H ρ (σ.set i none) (τ.set i none) := by
  refine ⟨by simp [s.len], fun j e q => ?_⟩
  by_cases hj : i = j
  · subst hj
    by_cases hi : i < σ.length
    · rw [List.getElem?_set_self hi] at q
      cases q
    · rw [List.getElem?_eq_none (by simpa using hi)] at q
      cases q
  · rw [List.getElem?_set_ne hj] at q
    obtain ⟨w, h1, h2⟩ := s.at_ j e q
    exact ⟨w, by rw [List.getElem?_set_ne hj]; exact h1, h2⟩
theorem RS.wipe (s : RS K H ρ σ τ) : ∀ vs : List Nat, RS K H ρ (wipeM σ vs) (L2.wipe τ vs)
  | [] => s
  | v :: vs => by
    unfold wipeM L2.wipe
    exact (RS.wipe s vs).setN v
end

/-! ### what a run comes to, and what is wanted -/
def GF {α β : Type} (K : PySem.W.Frag) (A : Hp → List Addr → α → β → Prop) (Q : β → Hp → Prop) (H : Hp) (ρ : List Addr) : R α → Prop
  | .ok a m => ∀ H' ρ' b, Ext H ρ H' ρ' → Rel K H' ρ' m → A H' ρ' a b → Q b H'
  | .exc _ _ _ => False
  | .bad => False
section
variable {α β γ δ : Type} {K : PySem.W.Frag} {A : Hp → List Addr → α → β → Prop} {B : Hp → List Addr → γ → δ → Prop} {Q Q' : β → Hp → Prop} {H H' : Hp} {ρ ρ' : List Addr} {r : R α} {f : α → M → R γ}
theorem GF.mono (h : GF K A Q H ρ r) (hq : ∀ b H, Q b H → Q' b H) : GF K A Q' H ρ r := by
  cases r with
  | ok a m => exact fun H' ρ' b x y z => hq _ _ (h H' ρ' b x y z)
  | exc => exact h
  | bad => exact h
theorem GF.later (h : GF K A Q H ρ r) (x : Ext H ρ H' ρ') : GF K A Q H' ρ' r := by
  cases r with
  | ok a m => exact fun H2 ρ2 b y z w => h H2 ρ2 b (x.trans y) z w
  | exc => exact h
  | bad => exact h
theorem GF.bind {Q : δ → Hp → Prop} (h : GF K B Q H ρ (r.bind f)) : GF K A (fun b H1 => ∃ ρ1 m1 a, Ext H ρ H1 ρ1 ∧ Rel K H1 ρ1 m1 ∧ A H1 ρ1 a b ∧ GF K B Q H1 ρ1 (f a m1)) H ρ r := by
  cases r with
  | ok a m => exact fun H1 ρ1 b x y z => ⟨ρ1, m, a, x, y, z, GF.later h x⟩
  | exc => exact h
  | bad => exact h
end
/-- readings -/
def Rd {α β : Type} (K : PySem.W.Frag) (A : Hp → List Addr → α → β → Prop) (F : Sl → M → R α) (τ : St) (H : Hp) (Q : β → Hp → Prop) : Prop :=
  ∃ ρ σ m, Rel K H ρ m ∧ RS K H ρ σ τ ∧ GF K A Q H ρ (F σ m)
abbrev EqA {α : Type} : Hp → List Addr → α → α → Prop := fun _ _ a b => b = a
abbrev Pd (K : PySem.W.Frag) (F : Sl → M → R D) : TE := Rd K (RV K) F
abbrev Pt (K : PySem.W.Frag) (F : Sl → M → R Bool) : TT := Rd K EqA F
abbrev Pa (K : PySem.W.Frag) (F : Sl → M → R (List D)) : TA := Rd K (RVs K) F
abbrev Po (K : PySem.W.Frag) (F : Sl → M → R (Option Int)) : TO := Rd K EqA F
/-- a new list that is not ours -/
def GL (K : PySem.W.Frag) (Q : VK) (H : Hp) (ρ : List Addr) : R (List D) → Prop
  | .ok xs m => ∀ H' ρ' p vs, Ext H ρ H' ρ' → Rel K H' ρ' m → H p = none → H' p = some (.lst vs) → RVs K H' ρ' xs vs → p ∉ ρ' → Q (.ref p) H'
  | .exc _ _ _ => False
  | .bad => False
def Pl (K : PySem.W.Frag) (F : Sl → M → R (List D)) : TE := fun τ H Q => ∃ ρ σ m, Rel K H ρ m ∧ RS K H ρ σ τ ∧ GL K Q H ρ (F σ m)
section
variable {α β γ δ : Type} {K : PySem.W.Frag} {A : Hp → List Addr → α → β → Prop} {B : Hp → List Addr → γ → δ → Prop} {F : Sl → M → R α} {G : Sl → M → α → M → R γ} {τ : St} {H : Hp}
/-- the first part's reading, from the whole's; what follows is told behind it -/
theorem Rd.bind {G : Sl → α → M → R γ} {Q : δ → Hp → Prop} (h : Rd K B (fun σ m => (F σ m).bind (G σ)) τ H Q) {Q' : β → Hp → Prop}
    (k : ∀ b H1 ρ1 σ m1 a, Rel K H1 ρ1 m1 → RS K H1 ρ1 σ τ → A H1 ρ1 a b → GF K B Q H1 ρ1 (G σ a m1) → Q' b H1) : Rd K A F τ H Q' := by
  obtain ⟨ρ, σ, m, rel, rs, h⟩ := h
  refine ⟨ρ, σ, m, rel, rs, GF.mono (GF.bind (A := A) h) ?_⟩
  rintro b H1 ⟨ρ1, m1, a, x, y, z, w⟩
  exact k b H1 ρ1 σ m1 a y (rs.ext rel x) z w
end
/-- a rule for a stronger reading -/
theorem PE.imp {X : L2.Cx} {e : Expr} {t t' : TE} (h : PE X e t) (i : ∀ σ H Q, t' σ H Q → t σ H Q) : PE X e t' := ⟨fun pins s σ H Q I q => h.run pins s σ H Q I (i σ H Q q)⟩
theorem PT.imp {X : L2.Cx} {e : Expr} {t t' : TT} (h : PT X e t) (i : ∀ σ H Q, t' σ H Q → t σ H Q) : PT X e t' := ⟨fun pins s σ H Q I q => h.run pins s σ H Q I (i σ H Q q)⟩
theorem PA.imp {X : L2.Cx} {e : List Expr} {t t' : TA} (h : PA X e t) (i : ∀ σ H Q, t' σ H Q → t σ H Q) : PA X e t' := ⟨fun pos pins s σ H Q I q => h.run pos pins s σ H Q I (i σ H Q q)⟩
theorem PS.imp {X : L2.Cx} {e : Stmt} {t t' : TS} (h : PS X e t) (i : ∀ D σ H, t' D σ H → t D σ H) : PS X e t' := ⟨fun pins s σ H D I q => h.run pins s σ H D I (i D σ H q)⟩
theorem PSs.imp {X : L2.Cx} {e : List Stmt} {t t' : TS} (h : PSs X e t) (i : ∀ D σ H, t' D σ H → t D σ H) : PSs X e t' := ⟨fun pins s σ H D I q => h.run pins s σ H D I (i D σ H q)⟩
theorem PO.imp {X : L2.Cx} {e : Option Expr} {t t' : TO} (h : PO X e t) (i : ∀ σ H Q, t' σ H Q → t σ H Q) : PO X e t' := ⟨fun pins s σ H Q I q => h.run pins s σ H Q I (i σ H Q q)⟩
end Mi

set_option linter.all false
set_option autoImplicit false
set_option Elab.async false
set_option maxRecDepth 100000
set_option maxHeartbeats 4000000
/-! Mi3: the operations by values. -/
namespace Mi
open PySem L2
def R2m (K : PySem.W.Frag) (g : D → D → M → R D) : R2 := fun x y H Q => ∃ ρ m dx dy, Rel K H ρ m ∧ RV K H ρ dx x ∧ RV K H ρ dy y ∧ GF K (RV K) Q H ρ (g dx dy m)
def RNm (K : PySem.W.Frag) (g : List D → M → R D) : List V → Hp → VK → Prop := fun vs H Q => ∃ ρ m ds, Rel K H ρ m ∧ RVs K H ρ ds vs ∧ GF K (RV K) Q H ρ (g ds m)
def RMm (K : PySem.W.Frag) (g : D → List D → M → R D) : V → List V → Hp → VK → Prop := fun x vs H Q => ∃ ρ m d ds, Rel K H ρ m ∧ RV K H ρ d x ∧ RVs K H ρ ds vs ∧ GF K (RV K) Q H ρ (g d ds m)
theorem line_eq : line = sizeLine := by rw [sizeLine_eq]; rfl
section
variable {K : PySem.W.Frag} {H : Hp} {ρ : List Addr} {m : M} {Q : VK}
/-- an end at the same heap -/
theorem gf_ok {d : D} {v : V} (h : GF K (RV K) Q H ρ (.ok d m)) (r : Rel K H ρ m) (hv : RV K H ρ d v) : Q v H := h H ρ v (Ext.refl _ _) r hv
/-- .. with a new tuple -/
theorem gf_tup {ds : List D} {vs : List V} (h : GF K (RV K) Q H ρ (.ok (.tup ds) m)) (r : Rel K H ρ m) (hv : RVs K H ρ ds vs) {p : Addr} (hp : H p = none) : Q (.ref p) (upd H p (.tup vs)) := by
  refine h _ ρ _ (Ext.laid r hp) (Rel.laid r hp) ?_
  simp only [RV]
  exact ⟨p, vs, rfl, SqT.of upd_same, RVs.ext r (Ext.laid r hp) _ _ hv⟩
/-- .. with a new list of ours -/
theorem gf_lst {ds : List D} {vs : List V} (h : GF K (RV K) Q H ρ (alloc ds m)) (r : Rel K H ρ m) (hv : RVs K H ρ ds vs) {p : Addr} (hp : H p = none) : Q (.ref p) (upd H p (.lst vs)) := by
  refine h _ (ρ ++ [p]) _ (Ext.alloc r hp) (Rel.alloc r hp ⟨vs, upd_same, RVs.ext r (Ext.alloc r hp) _ _ hv⟩) ?_
  simp only [RV]
  refine ⟨p, rfl, ?_⟩
  rw [← r.len]
  simp
theorem rv_int {i : Int} {v : V} (h : RV K H ρ (.int i) v) : v = .int i := by simpa only [RV] using h
theorem rv_bl {i : Bool} {v : V} (h : RV K H ρ (.bl i) v) : v = .bl i := by simpa only [RV] using h
theorem rv_non {v : V} (h : RV K H ρ .non v) : v = .non := by simpa only [RV] using h
theorem rv_str {x : Str} {v : V} (h : RV K H ρ (.str x) v) : v = .str x ∧ SOk x := by simpa only [RV] using h
theorem rv_tup {xs : List D} {v : V} (h : RV K H ρ (.tup xs) v) : ∃ a vs, v = .ref a ∧ SqT K H a vs ∧ RVs K H ρ xs vs := by simpa only [RV] using h
theorem rv_fl {xs : List D} {v : V} (h : RV K H ρ (.fl xs) v) : ∃ a vs, v = .ref a ∧ FzL K H a vs ∧ RVs K H ρ xs vs := by simpa only [RV] using h
theorem rv_ref {l : Nat} {v : V} (h : RV K H ρ (.ref l) v) : ∃ a, v = .ref a ∧ ρ[l]? = some a := by simpa only [RV] using h
theorem rvI (i : Int) : RV K H ρ (.int i) (.int i) := by simp only [RV]
theorem rvB (i : Bool) : RV K H ρ (.bl i) (.bl i) := by simp only [RV]
theorem rvN : RV K H ρ .non .non := by simp only [RV]
theorem rvS {x : Str} (h : SOk x) : RV K H ρ (.str x) (.str x) := by simp only [RV]; exact ⟨trivial, h⟩
/-- a list of ours as it is read -/
theorem rv_lst {l : Nat} {xs : List D} {v : V} (r : Rel K H ρ m) (h : RV K H ρ (.ref l) v) (e : m[l]? = some (.lst xs)) : ∃ a vs, v = .ref a ∧ ρ[l]? = some a ∧ H a = some (.lst vs) ∧ RVs K H ρ xs vs := by
  obtain ⟨a, rfl, ha⟩ := rv_ref h
  obtain ⟨b, vs, hb, h1, h2⟩ := r.lst e
  rw [ha] at hb
  cases hb
  exact ⟨a, vs, rfl, ha, h1, h2⟩
/-- the items of a tuple or list -/
theorem rv_seq {d : D} {xs : List D} {v : V} (r : Rel K H ρ m) (h : RV K H ρ d v) (e : seqD d m = some xs) : ∃ a vs, v = .ref a ∧ (SqL K H a vs ∨ SqT K H a vs) ∧ RVs K H ρ xs vs := by
  cases d with
  | tup ys =>
    cases e
    obtain ⟨a, vs, rfl, h1, h2⟩ := rv_tup h
    exact ⟨a, vs, rfl, .inr h1, h2⟩
  | fl ys =>
    cases e
    obtain ⟨a, vs, rfl, h1, h2⟩ := rv_fl h
    exact ⟨a, vs, rfl, .inl h1.sq, h2⟩
  | ref l =>
    unfold seqD at e
    simp only at e
    split at e
    · rename_i zs q
      cases e
      obtain ⟨a, vs, rfl, _, h1, h2⟩ := rv_lst r h q
      exact ⟨a, vs, rfl, .inl (SqL.of h1), h2⟩
    · cases e
  | _ => cases e
theorem SOk.append {a b : Str} (ha : SOk a) (hb : SOk b) (h : a.length + b.length ≤ line) : SOk (a ++ b) := by
  refine ⟨?_, by rw [Str.length_append, ← line_eq]; exact h⟩
  have h1 := ha.1
  have h2 := hb.1
  unfold PyData.strOk at h1 h2 ⊢
  rw [Str.cps_append, Array.all_append, h1, h2]
  rfl
end
/-! ### data for == -/
mutual
theorem toPy_ok {K : PySem.W.Frag} {H : Hp} {ρ : List Addr} {m : M} (r : Rel K H ρ m) : ∀ (n : Nat) (d : D) (v : V) (p : PyData), RV K H ρ d v → toPy n m d = some p → Dp K H v p ∧ p.canLay0 = true ∧ p.depth ≤ n
  | 0, _, _, _, _, e => by cases e
  | n + 1, .non, _, _, h, e => by
    cases e; cases rv_non h; exact ⟨.non, rfl, by simp [PyData.depth]⟩
  | n + 1, .bl b, _, _, h, e => by
    cases e; cases rv_bl h; exact ⟨.bl b, rfl, by simp [PyData.depth]⟩
  | n + 1, .int b, _, _, h, e => by
    cases e; cases rv_int h; exact ⟨.int b, rfl, by simp [PyData.depth]⟩
  | n + 1, .str b, _, _, h, e => by
    cases e
    obtain ⟨rfl, h1⟩ := rv_str h
    exact ⟨.str b, by simpa [PyData.canLay0] using h1.1, by simp [PyData.depth]⟩
  | n + 1, .tup xs, _, _, h, e => by
    obtain ⟨a, vs, rfl, h1, h2⟩ := rv_tup h
    unfold toPy at e
    simp only at e
    cases q : mapO (toPy n m) xs with
    | none => rw [q] at e; cases e
    | some ps =>
      rw [q] at e
      cases e
      obtain ⟨k1, k2, k3⟩ := toPys_ok r n xs vs ps h2 q
      exact ⟨.tup h1 k1, by simpa [PyData.canLay0] using k2, by simp only [PyData.depth]; omega⟩
  | n + 1, .fl xs, _, _, h, e => by
    obtain ⟨a, vs, rfl, h1, h2⟩ := rv_fl h
    unfold toPy at e
    simp only at e
    cases q : mapO (toPy n m) xs with
    | none => rw [q] at e; cases e
    | some ps =>
      rw [q] at e
      cases e
      obtain ⟨k1, k2, k3⟩ := toPys_ok r n xs vs ps h2 q
      exact ⟨.lst h1.sq k1, by simpa [PyData.canLay0] using k2, by simp only [PyData.depth]; omega⟩
  | n + 1, .ref l, _, _, h, e => by
    unfold toPy at e
    simp only at e
    cases g : m[l]? with
    | none => rw [g] at e; cases e
    | some o =>
      rw [g] at e
      cases o with
      | dic _ => cases e
      | lst xs =>
        obtain ⟨a, vs, rfl, _, h1, h2⟩ := rv_lst r h g
        simp only at e
        cases q : mapO (toPy n m) xs with
        | none => rw [q] at e; cases e
        | some ps =>
          rw [q] at e
          cases e
          obtain ⟨k1, k2, k3⟩ := toPys_ok r n xs vs ps h2 q
          exact ⟨.lst (SqL.of h1) k1, by simpa [PyData.canLay0] using k2, by simp only [PyData.depth]; omega⟩
termination_by n _ => (n, 0)
theorem toPys_ok {K : PySem.W.Frag} {H : Hp} {ρ : List Addr} {m : M} (r : Rel K H ρ m) : ∀ (n : Nat) (ds : List D) (vs : List V) (ps : List PyData), RVs K H ρ ds vs → mapO (toPy n m) ds = some ps → DpAll K H vs ps ∧ PyData.canLayAll0 ps = true ∧ PyData.depthAll ps ≤ n
  | n, [], _, _, h, e => by
    cases e
    simp only [RVs] at h
    subst h
    exact ⟨.nil, rfl, by simp [PyData.depthAll]⟩
  | n, d :: ds, _, _, h, e => by
    simp only [RVs] at h
    obtain ⟨v, s, rfl, h1, h2⟩ := h
    unfold mapO at e
    cases q : toPy n m d with
    | none => rw [q] at e; cases e
    | some p =>
      rw [q] at e
      simp only at e
      cases q2 : mapO (toPy n m) ds with
      | none => rw [q2] at e; cases e
      | some ps =>
        rw [q2] at e
        cases e
        obtain ⟨k1, k2, k3⟩ := toPy_ok r n d v p h1 q
        obtain ⟨l1, l2, l3⟩ := toPys_ok r n ds s ps h2 q2
        refine ⟨.cons k1 l1, ?_, ?_⟩
        · unfold PyData.canLayAll0
          rw [k2, l2]
          rfl
        · unfold PyData.depthAll
          omega
termination_by n ds => (n, ds.length + 1)
end
theorem toPy_shaped {K : PySem.W.Frag} {H : Hp} {ρ : List Addr} {m : M} (r : Rel K H ρ m) {d : D} {v : V} {p : PyData} (h : RV K H ρ d v) (e : toPy 60 m d = some p) : Dp K H v p ∧ SeqAt.shaped p = true := by
  obtain ⟨h1, h2, h3⟩ := toPy_ok r 60 d v p h e
  refine ⟨h1, ?_⟩
  unfold SeqAt.shaped
  rw [h2, Bool.true_and, decide_eq_true_eq]
  omega
end Mi

set_option linter.all false
set_option autoImplicit false
set_option Elab.async false
set_option maxRecDepth 100000
set_option maxHeartbeats 4000000
/-! Mi3t: tuple * int in full. -/
namespace Mi
open PySem PySem.Spec PyProof.Rows L2
theorem tm_same (l : Addr) (its : Array Value) (n : Nat) (e : Option Addr) (sl : Array (Option Value)) (i : Int) (t : Tok) (a0 : (decide (i < -(2 ^ 63)) || decide (i ≥ 2 ^ 63)) = false) (a1 : (its.isEmpty || i == 1) = true) :
    Meets (Builtin.«tuple.__mul__» ⟨[.ref l, .int i t], []⟩) (fun _ R s => s.heap.get? l = some { cls := .type "tuple", dict := e, data := .seq its n, slots := sl } ∧ R (.ok (.ret (Value.ref l))) s) :=
  .of_wp fun prog w A R s h => by
    obtain ⟨hh, gs, ds, ts, o⟩ := s
    obtain ⟨hget, hR⟩ := h
    have f1 := AutoSeq1.idx_int
    wp_walk using wpAny_loadPart' hget
    repeat (first
      | (refine wpAny_ite_false (decide_eq_false (by rw [a0]; simp)) ?_; wp_walk using wpAny_loadPart' hget)
      | (refine wpAny_ite_true (decide_eq_true a1) ?_; wp_walk using wpAny_loadPart' hget))
    exact ⟨_, rfl, hR⟩
theorem tm_none (l : Addr) (its : Array Value) (n : Nat) (e : Option Addr) (sl : Array (Option Value)) (i : Int) (t : Tok) (a0 : (decide (i < -(2 ^ 63)) || decide (i ≥ 2 ^ 63)) = false) (a1 : (its.isEmpty || i == 1) = false) (a2 : (decide (i ≤ 0) || its.isEmpty) = true) :
    Meets (Builtin.«tuple.__mul__» ⟨[.ref l, .int i t], []⟩) (fun _ R s => s.heap.get? l = some { cls := .type "tuple", dict := e, data := .seq its n, slots := sl } ∧
      R (.ok (.ret (Value.ref s.heap.objs.size))) { s with heap := s.heap.push { cls := Value.type "tuple", data := Data.seq #[] }, toks := s.toks }) :=
  .of_wp fun prog w A R s h => by
    obtain ⟨hh, gs, ds, ts, o⟩ := s
    obtain ⟨hget, hR⟩ := h
    have f1 := AutoSeq1.idx_int
    have hsz : (#[] : Array Value).size ≤ sizeLine := by decide
    wp_walk using wpAny_loadPart' hget
    repeat (first
      | (refine wpAny_ite_false (decide_eq_false (by rw [a0]; simp)) ?_; wp_walk using wpAny_loadPart' hget)
      | (refine wpAny_ite_false (decide_eq_false (by rw [a1]; simp)) ?_; wp_walk using wpAny_loadPart' hget)
      | (refine wpAny_ite_true (decide_eq_true a2) ?_; wp_walk using wpAny_loadPart' hget)
      | (refine wpAny_ite_false (decide_eq_false (Nat.not_lt.mpr hsz)) ?_; wp_walk using wpAny_loadPart' hget))
    exact ⟨_, rfl, hR⟩
/-- tuple * int -/
def rTm (K : PySem.W.Frag) : R2 := fun x y H Q => ∃ l k xs, x = .ref l ∧ y = .int k ∧ SqT K H l xs ∧ -(2 ^ 63) ≤ k ∧ k < 2 ^ 63 ∧ xs.length * k.toNat ≤ sizeLine ∧
  ((xs = [] ∨ k = 1) → Q (.ref l) H) ∧ (¬ (xs = [] ∨ k = 1) → ∀ p, H p = none → Q (.ref p) (upd H p (.tup (List.replicate k.toNat xs).flatten)))
theorem op_tm {X : L2.Cx} : OpR X (binaryOp .Mult) (rTm X.K) := by
  intro pins s σ H x y v u Q I rx ry h
  obtain ⟨l, k, xs, rfl, rfl, hT, h1, h2, hz, q1, q2⟩ := h
  cases rx
  obtain ⟨t, rfl⟩ := ry
  obtain ⟨its, r, ⟨⟨cls, dd, data, sl⟩, ho, hc, n, hd⟩, hs⟩ := I.tuple hT
  simp only at hc hd
  subst hc hd
  have hle : its.length = xs.length := r.length.symm
  have a0 : (decide (k < -(2 ^ 63)) || decide (k ≥ 2 ^ 63)) = false := by
    rw [decide_eq_false (Int.not_lt.mpr h1), decide_eq_false (Int.not_le.mpr h2)]
    rfl
  have run : ∀ {S : PySem.Spec} {Q' : Value → Shared → Prop}, Meets (Builtin.«tuple.__mul__» ⟨[.ref l, .int k t], []⟩) S → S X.A (wants Q' X.xe) s → wpAny (model X.prog X.w) X.A (binaryOp .Mult (.ref l) (.int k t)) Q' X.xe s := fun {S Q'} g hS =>
    wpAny_binaryOp_repeat_ref (T := "tuple") (U := "int") (by decide) ⟨_, ho, rfl⟩ (fun z => typeIs_int z k t) noFill_tuple_mul F.fills_int_mul F.slot_int_rmul repeat_tuple F.slot_int_index.lookup
      (call_meets F.slot_int_rmul (typeIs_int s k t) F.entry_int_rmul (F.args_int_rmul_2 _ _) (int_rmul_tuple k t l its.toArray n dd sl)
        ⟨ho, rfl, ⟨_, ho, rfl⟩, call_meets F.slot_tuple_mul ⟨_, ho, rfl⟩ F.entry_tuple_mul (F.args_tuple_mul_2 _ _) g hS⟩)
  have emp : its.toArray.isEmpty = true ↔ xs = [] := by
    constructor
    · intro z
      have : its = [] := by simpa using z
      rw [this] at hle
      exact List.eq_nil_of_length_eq_zero hle.symm
    · rintro rfl
      have : its = [] := List.eq_nil_of_length_eq_zero hle
      rw [this]
      rfl
  by_cases a1 : (its.toArray.isEmpty || k == 1) = true
  · refine run (tm_same l its.toArray n dd sl k t a0 a1) ⟨ho, ?_⟩
    refine ⟨.ref l, H, I, rfl, q1 ?_⟩
    rcases (Bool.or_eq_true _ _).mp a1 with z | z
    · exact .inl (emp.mp z)
    · exact .inr (eq_of_beq z)
  have a1' := Bool.eq_false_iff.mpr a1
  have hne : ¬ (xs = [] ∨ k = 1) := by
    rintro (z | z)
    · rw [emp.mpr z] at a1; exact a1 rfl
    · rw [z] at a1; exact a1 (by simp)
  by_cases a2 : (decide (k ≤ 0) || its.toArray.isEmpty) = true
  · refine run (tm_none l its.toArray n dd sl k t a0 a1' a2) ⟨ho, ?_⟩
    have hk : k ≤ 0 := by
      rcases (Bool.or_eq_true _ _).mp a2 with z | z
      · exact of_decide_eq_true z
      · exact absurd (.inl (emp.mp z)) hne
    have e0 : (List.replicate k.toNat xs).flatten = [] := by
      rw [show k.toNat = 0 by omega]
      rfl
    have q := q2 hne _ (I.hok.fresh (Nat.le_refl _))
    rw [e0] at q
    refine ⟨.ref s.heap.objs.size, _, I.laid (t' := s.toks) (o := .tup []) (fun b ob z => Heap.get?_push_of_some _ z) (Nat.le_refl _) ?_, rfl, q⟩
    exact ⟨Nat.zero_le _, _, .nil, IsTup.new _ _⟩
  have a2' := Bool.eq_false_iff.mpr a2
  have szl : its.toArray.size * k.toNat ≤ sizeLine := by rw [List.size_toArray, hle]; exact hz
  have hk0 : 0 < k := by
    rcases (Bool.or_eq_false_iff.mp a2') with ⟨z, _⟩
    have := of_decide_eq_false z
    omega
  have hcast : ((its.toArray.size : Nat) : Int) * k = ((its.toArray.size * k.toNat : Nat) : Int) := by
    rw [Int.natCast_mul, Int.toNat_of_nonneg (Int.le_of_lt hk0)]
  have lim : (sizeLine : Int) ≤ (2 ^ 63 - 1) / 8 := by decide
  refine run (tuple_mulW l its.toArray n dd sl k t a0 a1' a2' (by rw [hcast]; omega) ?_ ?_) ⟨ho, ?_⟩
  · unfold Builtin.Tuple.tupleTooMany
    rw [hcast]
    exact decide_eq_false (by omega)
  · rw [size_rep, List.size_toArray, PyProof.Rows.lm_len_rep_flat, Nat.mul_comm]
    exact szl
  · rw [size_rep]
    refine ⟨.ref s.heap.objs.size, _, I.laid (t' := s.toks) (o := .tup (List.replicate k.toNat xs).flatten) (fun b ob z => Heap.get?_push_of_some _ z) (Nat.le_refl _) ?_, rfl, q2 hne _ (I.hok.fresh (Nat.le_refl _))⟩
    exact ⟨by rw [PyProof.Rows.lm_len_rep_flat, Nat.mul_comm]; exact hz, _, r.rep k.toNat, IsTup.new _ _⟩
end Mi

set_option linter.all false
set_option autoImplicit false
set_option Elab.async false
set_option maxRecDepth 100000
set_option maxHeartbeats 4000000
/-! Mi3d: dicts. -/
namespace Mi
open PySem L2
section
variable {K : PySem.W.Frag} {H H' : Hp} {ρ ρ' : List Addr} {m : M} {Q : VK}
theorem key_V {d : D} {k : Key} {v : V} (h : RV K H ρ d v) (e : keyD d = some k) : v = kV k := by
  cases d with
  | int i => cases e; exact rv_int h
  | str x => cases e; exact (rv_str h).1
  | _ => cases e
theorem rv_dic {l : Nat} {kvs : List (Key × D)} {v : V} (r : Rel K H ρ m) (h : RV K H ρ (.ref l) v) (e : m[l]? = some (.dic kvs)) : ∃ a ws, v = .ref a ∧ ρ[l]? = some a ∧ H a = some (.dK ws) ∧ RKs K H ρ kvs ws := by
  obtain ⟨a, rfl, ha⟩ := rv_ref h
  obtain ⟨b, hb, ws, h1, h2⟩ := r.ob l _ e
  rw [ha] at hb
  cases hb
  exact ⟨a, ws, rfl, ha, h1, h2⟩
theorem dicD_some {d : D} {kvs : List (Key × D)} (e : dicD d m = some kvs) : ∃ l, d = .ref l ∧ m[l]? = some (.dic kvs) := by
  cases d with
  | ref l =>
    unfold dicD at e
    dsimp only at e
    split at e
    · rename_i q
      cases e
      exact ⟨l, rfl, q⟩
    · cases e
  | _ => cases e
theorem dicD_none {l : Nat} {kvs : List (Key × D)} (e : dicD (.ref l) m = none) : m[l]? ≠ some (.dic kvs) := fun q => by
  unfold dicD at e
  simp only [q] at e
  cases e
theorem RKs.length : ∀ (kvs : List (Key × D)) (ws : List (Key × V)), RKs K H ρ kvs ws → kvs.length = ws.length
  | [], _, h => by simp only [RKs] at h; subst h; rfl
  | (k, d) :: r, _, h => by
    simp only [RKs] at h
    obtain ⟨v, s, rfl, _, h2⟩ := h
    simp [RKs.length r s h2]
theorem RKs.val (k : Key) : ∀ (kvs : List (Key × D)) (ws : List (Key × V)), RKs K H ρ kvs ws → (valK kvs k = none ∧ valV ws k = none) ∨ ∃ d v, valK kvs k = some d ∧ valV ws k = some v ∧ RV K H ρ d v
  | [], _, h => by simp only [RKs] at h; subst h; exact .inl ⟨rfl, rfl⟩
  | (j, d) :: r, _, h => by
    simp only [RKs] at h
    obtain ⟨v, s, rfl, h1, h2⟩ := h
    unfold valK
    by_cases e : j = k
    · rw [if_pos e, valV_pos (p := (j, v)) e]
      exact .inr ⟨d, v, rfl, rfl, h1⟩
    · rw [if_neg e, valV_neg (p := (j, v)) e]
      exact RKs.val k r s h2
theorem RKs.has (k : Key) : ∀ (kvs : List (Key × D)) (ws : List (Key × V)), RKs K H ρ kvs ws → (ws.any fun kv => decide (kv.1 = k)) = hasK kvs k
  | [], _, h => by simp only [RKs] at h; subst h; rfl
  | (j, d) :: r, _, h => by
    simp only [RKs] at h
    obtain ⟨v, s, rfl, h1, h2⟩ := h
    unfold hasK
    rw [List.any_cons, RKs.has k r s h2]
    by_cases e : j = k
    · rw [if_pos e, decide_eq_true e]; rfl
    · rw [if_neg e, decide_eq_false e]; rfl
theorem RKs.rep (k : Key) {x : D} {y : V} (rx : RV K H ρ x y) : ∀ (kvs : List (Key × D)) (ws : List (Key × V)), RKs K H ρ kvs ws → RKs K H ρ (repK kvs k x) (ws.map fun kv => if kv.1 = k then (kv.1, y) else kv)
  | [], _, h => by simp only [RKs] at h; subst h; simp only [repK, RKs, List.map_nil]
  | (j, d) :: r, _, h => by
    simp only [RKs] at h
    obtain ⟨v, s, rfl, h1, h2⟩ := h
    unfold repK
    rw [List.map_cons]
    have ih := RKs.rep k rx r s h2
    by_cases e : j = k
    · rw [if_pos e, if_pos (show (j, v).1 = k from e)]
      simp only [RKs]
      exact ⟨y, _, rfl, rx, ih⟩
    · rw [if_neg e, if_neg (show ¬ (j, v).1 = k from e)]
      simp only [RKs]
      exact ⟨v, _, rfl, h1, ih⟩
theorem RKs.snoc (k : Key) {x : D} {y : V} (rx : RV K H ρ x y) : ∀ (kvs : List (Key × D)) (ws : List (Key × V)), RKs K H ρ kvs ws → RKs K H ρ (kvs ++ [(k, x)]) (ws ++ [(k, y)])
  | [], _, h => by
    simp only [RKs] at h; subst h
    simp only [List.nil_append, RKs]
    exact ⟨y, [], rfl, rx, rfl⟩
  | (j, d) :: r, _, h => by
    simp only [RKs] at h
    obtain ⟨v, s, rfl, h1, h2⟩ := h
    rw [List.cons_append]
    simp only [RKs]
    exact ⟨v, _, rfl, h1, RKs.snoc k rx r s h2⟩
theorem RKs.put (k : Key) {x : D} {y : V} (rx : RV K H ρ x y) (kvs : List (Key × D)) (ws : List (Key × V)) (h : RKs K H ρ kvs ws) : RKs K H ρ (putKD kvs k x) (putK ws k y) := by
  unfold putKD putK
  rw [RKs.has k kvs ws h]
  by_cases e : hasK kvs k = true
  · rw [if_pos e, if_pos e]; exact RKs.rep k rx kvs ws h
  · rw [if_neg e, if_neg e]; exact RKs.snoc k rx kvs ws h
theorem RKs.merge : ∀ (more : List (Key × D)) (kvs : List (Key × D)) (rs ws : List (Key × V)), RKs K H ρ kvs ws → RKs K H ρ more rs → RKs K H ρ (mergeKD kvs more) (mergeK ws rs)
  | [], kvs, rs, ws, h, q => by
    simp only [RKs] at q
    subst q
    exact h
  | (k, d) :: t, kvs, rs, ws, h, q => by
    simp only [RKs] at q
    obtain ⟨v, s, rfl, h1, h2⟩ := q
    unfold mergeKD
    exact RKs.merge t _ s (putK ws k v) (RKs.put k h1 kvs ws h) h2
theorem pairs_V : ∀ (xs : List D) (kvs : List (Key × D)) (vs : List V), pairsD xs = some kvs → RVs K H ρ xs vs → ∃ (ps : List Addr) (ws : List (Key × V)), vs = ps.map V.ref ∧ Paired (fun p kv => SqT K H p [kV kv.1, kv.2]) ps ws ∧ RKs K H ρ kvs ws
  | [], _, vs, e, h => by
    cases e
    simp only [RVs] at h
    subst h
    exact ⟨[], [], rfl, .nil, by simp only [RKs]⟩
  | x :: xs, kvs, vs, e, h => by
    unfold pairsD at e
    split at e
    · rename_i q; cases q
    · rename_i k d r q
      cases q
      cases e1 : keyD k with
      | none => rw [e1] at e; cases e
      | some kk =>
        rw [e1] at e
        dsimp only at e
        cases e2 : pairsD xs with
        | none => rw [e2] at e; cases e
        | some t =>
          rw [e2] at e
          cases e
          simp only [RVs] at h
          obtain ⟨v, s, rfl, h1, h2⟩ := h
          obtain ⟨a, us, rfl, h3, h4⟩ := rv_tup h1
          simp only [RVs] at h4
          obtain ⟨v1, _, rfl, k1, v2, _, rfl, k2, rfl⟩ := h4
          have e3 := key_V k1 e1
          subst e3
          obtain ⟨ps, ws, rfl, p1, p2⟩ := pairs_V xs t s e2 h2
          refine ⟨a :: ps, (kk, v2) :: ws, rfl, .cons h3 p1, ?_⟩
          simp only [RKs]
          exact ⟨v2, ws, rfl, k2, p2⟩
    · cases e
theorem RVs.erase : ∀ (ds : List D) (vs : List V) (i : Nat), RVs K H ρ ds vs → RVs K H ρ (ds.eraseIdx i) (vs.eraseIdx i)
  | [], _, _, h => by simp only [RVs] at h; subst h; simp only [List.eraseIdx_nil, RVs]
  | d :: ds, _, 0, h => by
    simp only [RVs] at h
    obtain ⟨v, s, rfl, _, h2⟩ := h
    simpa using h2
  | d :: ds, _, i + 1, h => by
    simp only [RVs] at h
    obtain ⟨v, s, rfl, h1, h2⟩ := h
    simp only [List.eraseIdx_cons_succ, RVs]
    exact ⟨v, _, rfl, h1, RVs.erase ds s i h2⟩
/-- .. with a new dict of ours -/
theorem gf_dic {kvs : List (Key × D)} {ws : List (Key × V)} (h : GF K (RV K) Q H ρ (allocK kvs m)) (r : Rel K H ρ m) (hv : RKs K H ρ kvs ws) {p : Addr} (hp : H p = none) : Q (.ref p) (upd H p (.dK ws)) := by
  refine h _ (ρ ++ [p]) _ (Ext.alloc r hp) (Rel.alloc r hp ⟨ws, upd_same, RKs.ext r (Ext.alloc r hp) _ _ hv⟩) ?_
  simp only [RV]
  refine ⟨p, rfl, ?_⟩
  rw [← r.len]
  simp
end
/-! ### a dict's text -/
mutual
theorem reads_nil {h : Heap} : ∀ (p : PyData) {v : Value} {as : List Addr}, Reads h v p as → noL p = true → as = []
  | .none, _, _, r, _ => by cases r; rfl
  | .bool _, _, _, r, _ => by cases r; rfl
  | .int _, _, _, r, _ => by cases r; rfl
  | .str _, _, _, r, _ => by cases r; rfl
  | .tuple xs, _, _, r, n => by
    cases r with
    | tuple _ _ _ h4 => exact readsAll_nil xs h4 (by simpa only [noL] using n)
  | .list _, _, _, _, n => by simp only [noL] at n; cases n
  | .dict _, _, _, _, n => by simp only [noL] at n; cases n
theorem readsAll_nil {h : Heap} : ∀ (ps : List PyData) {vs : List Value} {as : List Addr}, ReadsAll h vs ps as → noLs ps = true → as = []
  | [], _, _, r, _ => by cases r; rfl
  | p :: ps, _, _, r, n => by
    simp only [noLs, Bool.and_eq_true] at n
    cases r with
    | cons r1 r2 =>
      rw [reads_nil p r1 n.1, readsAll_nil ps r2 n.2]
      rfl
end
theorem key_reads {P : Program} {w : World} {h : Heap} {k : Key} {v : Value} (e : (mixKind P w).is k v = true) : Reads h v (keyP k) [] := by
  rcases keyIs_shape (show keyIs k v = true from e) with ⟨i, t, rfl, rfl⟩ | ⟨x, t, rfl, rfl⟩
  · exact .int i t
  · exact .str x t
theorem zip_depth : ∀ (kvs : List (Key × D)) (ps : List PyData) (n : Nat), PyData.depthAll ps ≤ n → PyData.depthKv (zipP kvs ps) ≤ n
  | [], _, _, _ => by simp [zipP, PyData.depthKv]
  | _ :: _, [], _, _ => by simp [zipP, PyData.depthKv]
  | (k, _) :: r, p :: ps, n, h => by
    unfold PyData.depthAll at h
    simp only [zipP, PyData.depthKv]
    have a := zip_depth r ps n (by omega)
    have b : (keyP k).depth = 0 := by cases k <;> simp [keyP, PyData.depth]
    omega
theorem dic_reads {X : L2.Cx} {pins : List (Addr × Obj)} {σ : L2.St} {H : Hp} {s : Shared} {ρ : List Addr} {m : M} (I : Inv X pins σ H s) (r : Rel X.K H ρ m) : ∀ (kvs : List (Key × D)) (ps : List PyData) (ws : List (Key × V)) (vs : List (Key × Value)) (es : List DictEntry),
    RKs X.K H ρ kvs ws → KV ws vs → Pairs (mixKind X.prog X.w) es vs → mapO (toPy 58 m) (kvs.map (·.2)) = some ps → ReadsAll s.heap (es.map (·.key)) ((zipP kvs ps).map (·.1)) [] ∧ PyData.depthAll ps ≤ 58 ∧ ∃ bs, ReadsAll s.heap (es.map (·.val)) ((zipP kvs ps).map (·.2)) bs ∧ (noLs ps = true → bs = [])
  | [], ps, ws, vs, es, h, kv, pr, e => by
    cases e
    simp only [RKs] at h
    subst h
    cases kv
    cases pr
    exact ⟨.nil, by simp [PyData.depthAll], [], .nil, fun _ => rfl⟩
  | (k, d) :: t, ps, ws, vs, es, h, kv, pr, e => by
    simp only [RKs] at h
    obtain ⟨v, t2, rfl, h1, h2⟩ := h
    rw [List.map_cons] at e
    unfold mapO at e
    dsimp only at e
    cases q : toPy 58 m d with
    | none => rw [q] at e; cases e
    | some p =>
      rw [q] at e
      dsimp only at e
      cases q2 : mapO (toPy 58 m) (t.map (·.2)) with
      | none => rw [q2] at e; cases e
      | some ps2 =>
        rw [q2] at e
        cases e
        unfold KV at kv
        cases kv with
        | cons k1 k2 =>
          rename_i y ys
          cases pr with
          | cons p1 p2 p3 =>
            obtain ⟨i1, i2, bs, i3, i4⟩ := dic_reads I r t ps2 t2 _ _ h2 k2 p3 q2
            obtain ⟨d1, cl, dp⟩ := toPy_ok r 58 d v p h1 q
            obtain ⟨as, rd⟩ := L2.Dp.reads I p _ _ d1 k1.2
            refine ⟨?_, by unfold PyData.depthAll; omega, as ++ bs, ?_, fun n => ?_⟩
            · have ek : y.1 = k := k1.1.symm
              rw [ek] at p1
              exact ReadsAll.cons (as := []) (bs := []) (key_reads p1) i1
            · refine ReadsAll.cons ?_ i3
              show Reads s.heap (DictEntry.val _) p as
              rw [p2]
              exact rd
            · simp only [noLs, Bool.and_eq_true] at n
              rw [reads_nil p rd n.1, i4 n.2]
              rfl
end Mi

set_option linter.all false
set_option autoImplicit false
set_option Elab.async false
set_option maxRecDepth 100000
set_option maxHeartbeats 4000000
/-! Mi3n: dicts of empty dicts, compared. -/
namespace Mi
open PySem L2
theorem dictOf_nil {P : Program} {w : World} {h : Heap} {a : Addr} (x : h.DictOf (mixKind P w) a []) (P' : Program) (w' : World) : h.DictOf (mixKind P' w') a [] := by
  obtain ⟨o, es, ep, h1, h2, h3, _, h5, _⟩ := x
  have hl := h5.length
  have e : es = #[] := by
    apply Array.eq_empty_of_size_eq_zero
    rw [← Array.length_toList, hl]
    rfl
  subst e
  exact ⟨o, #[], ep, h1, h2, h3, (fun e he => absurd he (by simp)), Pairs.nil, List.nodup_nil⟩
theorem eqAt_nil {P : Program} {w : World} {A : Around} {s : Shared} {a b : Addr} (ha : (a == sysModules) = false) (hb : (b == sysModules) = false) (da : s.heap.DictOf (mixKind P w) a []) (db : s.heap.DictOf (mixKind P w) b []) (hu : A.units < cLine) : SeqAt.EqAt A s (.ref a) (.ref b) true := by
  by_cases e : a = b
  · subst e
    exact SeqAt.EqAt.same _
  · refine SeqAt.EqAt.of_refs e fun prog w E Q hq => ?_
    exact PySem.W.keq_eq (knd := mixKind prog w) (r := true) ha hb (dictOf_nil da prog w) (dictOf_nil db prog w) hu (fun _ => .nil) (by simpa using hq)
theorem hits_rel {κ : Type} [DecidableEq κ] {A : Around} {s : Shared} {kvs : List (κ × V)} {vb : List (κ × Value)} (rb : KV kvs vb) {ks : List (κ × V)} {va : List (κ × Value)} (ra : KV ks va) :
    (∀ p ∈ ks, ∃ w, valV kvs p.1 = some w ∧ ∀ y z, RelV p.2 y → RelV w z → SeqAt.EqAt A s y z true) → PySem.W.KeqHits A s vb va true := by
  unfold KV at ra
  induction ra with
  | nil => intro _; exact .nil
  | @cons p q ps qs h t ih =>
    intro hp
    obtain ⟨h1, h2⟩ := h
    obtain ⟨w, e, f⟩ := hp p List.mem_cons_self
    have rr : RelO (some w) (valueAt vb p.1) := by rw [← e]; exact rb.val p.1
    obtain ⟨y, hy, ry⟩ := rr.some_of
    obtain ⟨k, v⟩ := q
    have h1' : p.1 = k := h1
    rw [h1'] at hy
    show PySem.W.KeqHits A s vb ((k, v) :: qs) (true && true)
    exact .hit hy (f _ _ h2 ry) (ih fun p' hm => hp p' (List.mem_cons_of_mem _ hm))
section
variable {K : PySem.W.Frag} {H : Hp} {ρ : List Addr} {m : M}
theorem dicN_some {d : D} {kvs : List (Key × D)} (e : dicN d m = some kvs) : ∃ l, d = .ref l ∧ m[l]? = some (.dic kvs) := by
  unfold dicN at e
  split at e
  · rename_i l
    split at e
    · rename_i kvs' hm
      cases e
      exact ⟨l, rfl, hm⟩
    · cases e
  · cases e
theorem isEm_V {d : D} {v : V} (r : Rel K H ρ m) (h : RV K H ρ d v) (e : isEm m d = true) : ∃ a, v = .ref a ∧ H a = some (.dK []) := by
  unfold isEm at e
  split at e
  · rename_i l
    split at e
    · rename_i hm
      obtain ⟨a, ws, rfl, _, h1, h2⟩ := rv_dic r h hm
      simp only [RKs] at h2
      subst h2
      exact ⟨a, rfl, h1⟩
    · cases e
  · cases e
theorem em_keys (r : Rel K H ρ m) : ∀ (kvs : List (Key × D)) (ws : List (Key × V)), RKs K H ρ kvs ws → (kvs.all fun p => isEm m p.2) = true → kvs.map (·.1) = ws.map (·.1) ∧ ∀ p ∈ ws, ∃ a, p.2 = .ref a ∧ H a = some (.dK [])
  | [], _, h, _ => by
    simp only [RKs] at h
    subst h
    exact ⟨rfl, fun p hp => by cases hp⟩
  | (j, d) :: kvs, _, h, e => by
    simp only [RKs] at h
    obtain ⟨v, s, rfl, h1, h2⟩ := h
    rw [List.all_cons, Bool.and_eq_true] at e
    obtain ⟨e1, e2⟩ := em_keys r kvs s h2 e.2
    refine ⟨by rw [List.map_cons, List.map_cons, e1], fun p hp => ?_⟩
    rcases List.mem_cons.mp hp with rfl | hp
    · exact isEm_V r h1 e.1
    · exact e2 p hp
theorem valV_mem {ws : List (Key × V)} {k : Key} (h : k ∈ ws.map (·.1)) : ∃ p ∈ ws, valV ws k = some p.2 := by
  induction ws with
  | nil => cases h
  | cons q ws ih =>
    by_cases c : q.1 = k
    · exact ⟨q, List.mem_cons_self, valV_pos c⟩
    · rw [valV_neg c]
      rw [List.map_cons] at h
      rcases List.mem_cons.mp h with h | h
      · exact absurd h.symm c
      · obtain ⟨p, hp, e⟩ := ih h
        exact ⟨p, List.mem_cons_of_mem _ hp, e⟩
end
theorem op_eqN {X : L2.Cx} {pins : List (Addr × Obj)} {s : Shared} {σ : St} {H : Hp} {ρ : List Addr} {m : M} {dx dy : D} {x y : V} {v u : Value} {Q : VK} (hu : X.A.units + 64 < cLine) (neg : Bool) (I : L2.Inv X pins σ H s) (r : Rel X.K H ρ m) (hx : RV X.K H ρ dx x) (hy : RV X.K H ρ dy y) (rx : RelV x v) (ry : RelV y u) {b : Bool} (e : eqN m dx dy = some b) (q : Q (.bl (if neg = true then !b else b)) H) :
    wpAny (model X.prog X.w) X.A (compareOp (if neg = true then .NotEq else .Eq) v u) (EP X pins σ Q) X.xe s := by
  unfold eqN at e
  cases ex : dicN dx m with
  | none => rw [ex] at e; cases e
  | some ks =>
    cases ey : dicN dy m with
    | none => rw [ex, ey] at e; cases e
    | some ls =>
      rw [ex, ey] at e
      dsimp only at e
      by_cases c : ks.map (·.1) = ls.map (·.1) ∧ (ks.all fun p => isEm m p.2) = true ∧ (ls.all fun p => isEm m p.2) = true
      · rw [if_pos c] at e
        cases e
        obtain ⟨c1, c2, c3⟩ := c
        obtain ⟨l1, rfl, hm1⟩ := dicN_some ex
        obtain ⟨l2, rfl, hm2⟩ := dicN_some ey
        obtain ⟨a, ws, rfl, _, ea, r1⟩ := rv_dic r hx hm1
        obtain ⟨b, us, rfl, _, eb, r2⟩ := rv_dic r hy hm2
        obtain ⟨k1, g1⟩ := em_keys r ks ws r1 c2
        obtain ⟨k2, g2⟩ := em_keys r ls us r2 c3
        obtain rfl : v = Value.ref a := rx
        obtain rfl : u = Value.ref b := ry
        obtain ⟨_, ya, va, ra, da⟩ := (show ObjOk X.prog X.w H s.heap a (.dK ws) from I.hok a _ ea)
        obtain ⟨_, yb, vb, rb, db⟩ := (show ObjOk X.prog X.w H s.heap b (.dK us) from I.hok b _ eb)
        have hl : va.length = vb.length := by
          rw [← ra.length, ← rb.length]
          have := congrArg List.length (k1.symm.trans (c1.trans k2))
          rwa [List.length_map, List.length_map] at this
        have hu1 : X.A.in1.units < cLine := by show X.A.units + 1 < cLine; omega
        have hits : PySem.W.KeqHits X.A.in1 s vb va true := hits_rel rb ra fun p hp => by
          obtain ⟨w, hw, e⟩ := valV_mem (ws := us) (k := p.1) (by
            rw [← k2, ← c1, k1]
            exact List.mem_map.mpr ⟨p, hp, rfl⟩)
          refine ⟨w.2, e, fun y z hy hz => ?_⟩
          obtain ⟨i, pi, hi⟩ := g1 p hp
          obtain ⟨j, pj, hj⟩ := g2 w hw
          rw [pi] at hy
          rw [pj] at hz
          obtain rfl : y = Value.ref i := hy
          obtain rfl : z = Value.ref j := hz
          obtain ⟨_, yi, vi, ri, di⟩ := (show ObjOk X.prog X.w H s.heap i (.dK []) from I.hok i _ hi)
          obtain ⟨_, yj, vj, rj, dj⟩ := (show ObjOk X.prog X.w H s.heap j (.dK []) from I.hok j _ hj)
          have e1 : vi = [] := List.eq_nil_of_length_eq_zero (by rw [← ri.length]; rfl)
          have e2 : vj = [] := List.eq_nil_of_length_eq_zero (by rw [← rj.length]; rfl)
          subst e1
          subst e2
          exact eqAt_nil yi yj di dj hu1
        cases neg with
        | false => exact PySem.W.keq_eq (knd := mixKind X.prog X.w) (r := true) ya yb da db (by omega) (fun _ => hits) (fin_bl I q (by simp [hl]))
        | true => exact PySem.W.keq_ne (knd := mixKind X.prog X.w) (r := true) ya yb da db (by omega) (fun _ => hits) (fin_bl I q (by simp [hl]))
      · rw [if_neg c] at e
        cases e
end Mi

set_option linter.all false
set_option autoImplicit false
set_option Elab.async false
set_option maxRecDepth 100000
set_option maxHeartbeats 4000000
/-! Mi4: the operations by values, shown. -/
namespace Mi
open PySem L2
def bopO : Bop → Operator
  | .add => .Add | .sub => .Sub | .mul => .Mult | .fdiv => .FloorDiv | .mod => .Mod | .pow => .Pow | .shl => .LShift | .shr => .RShift
def copO : Cop → CmpOp
  | .lt => .Lt | .le => .LtE | .gt => .Gt | .ge => .GtE | .eq => .Eq | .ne => .NotEq | .is => .Is | .nis => .IsNot | .mem => .In | .nmem => .NotIn
theorem small_mul {i j : Int} (h : smallF i ∨ smallF j) : CMul i j := by
  unfold smallF at h
  unfold CMul
  omega
theorem wide_fdiv {j : Int} (h : 0 < j ∧ j < 1606938044258990275541962092341162602522202993782792835301376) : 0 < j ∧ j.natAbs.log2 < 9000 := by
  have q : j.natAbs.log2 < 200 := PySem.Flt.log2_lt_of (by decide) ?_
  · exact ⟨h.1, Nat.lt_trans q (by decide)⟩
  have e : (2 : Nat) ^ 200 = 1606938044258990275541962092341162602522202993782792835301376 := by decide
  rw [e]
  omega
theorem small_pow {i j : Int} (h : 0 ≤ j ∧ j ≤ 1000000 ∧ smallF i) : CPow i j := by
  unfold smallF at h
  unfold CPow
  omega
theorem strR_ok {K : PySem.W.Frag} {H : Hp} {ρ : List Addr} {m : M} {Q : VK} {x : Str} (h : GF K (RV K) Q H ρ (strR x m)) : SOk x ∧ GF K (RV K) Q H ρ (.ok (.str x) m) := by
  unfold strR at h
  by_cases c : okS x = true
  · rw [if_pos c] at h
    unfold okS at c
    rw [Bool.and_eq_true] at c
    exact ⟨⟨c.1, by rw [← line_eq]; exact of_decide_eq_true c.2⟩, h⟩
  · rw [if_neg c] at h
    exact h.elim
theorem okS_ok {x : Str} (c : okS x = true) : SOk x := by
  unfold okS at c
  rw [Bool.and_eq_true] at c
  exact ⟨c.1, by rw [← line_eq]; exact of_decide_eq_true c.2⟩
theorem sok_at {x : Str} (sx : SOk x) {i : Nat} {c : Nat} (h : x.cps[i]? = some c) : SOk ⟨#[c]⟩ := by
  refine ⟨?_, by show 1 ≤ sizeLine; rw [sizeLine_eq]; decide⟩
  have h1 := sx.1
  unfold PyData.strOk at h1 ⊢
  rw [Array.all_eq_true'] at h1
  have := h1 c (Array.mem_of_getElem? h)
  simpa using this
section
variable {X : L2.Cx}
/-- text * int -/
def rStm : R2 := fun x y H Q => ∃ a k, x = .str a ∧ y = .int k ∧ 0 ≤ k ∧ k ≤ 1000000 ∧ a.length * k.toNat ≤ sizeLine ∧ Q (.str (repS a k.toNat)) H
theorem op_stm : OpR X (binaryOp .Mult) rStm := by
  intro pins s σ H x y v u Q I rx ry h
  obtain ⟨a, k, rfl, rfl, h1, h2, hz, q⟩ := h
  obtain ⟨t, rfl⟩ := rx
  obtain ⟨t', rfl⟩ := ry
  have r0 : (decide (k < -(2 ^ 63 : Int)) || decide (k ≥ 2 ^ 63)) = false := by
    rw [decide_eq_false (by omega), decide_eq_false (by omega)]; rfl
  refine P.mul_str r0 (fun g _ => ?_) (fun _ _ => decide_eq_false (Nat.not_lt.mpr hz)) ?_
  · have e : ((a.length : Int)) * k = ((a.length * k.toNat : Nat) : Int) := by rw [Int.natCast_mul, Int.toNat_of_nonneg h1]
    have lim : (sizeLine : Int) ≤ 2 ^ 63 - 1 := by rw [sizeLine_eq]; decide
    exact Int.not_lt.mpr ((Int.le_ediv_iff_mul_le (by omega)).mpr (by rw [e]; omega))
  · have fit : Builtin.Str.tooLong (a.length * k.toNat) = false := decide_eq_false (Nat.not_lt.mpr hz)
    by_cases g : k < 1
    · rw [if_pos g]
      have e : k.toNat = 0 := by omega
      rw [e] at q
      exact ⟨by decide, ⟨.str _, H, I.tok _, ⟨_, rfl⟩, q⟩⟩
    · rw [if_neg g]
      by_cases g2 : (k == 1 || a.length == 0) = true
      · rw [if_pos g2]
        refine ⟨.str a, H, I, ⟨_, rfl⟩, ?_⟩
        have e : repS a k.toNat = a := by
          rcases (Bool.or_eq_true _ _).mp g2 with z | z
          · have : k = 1 := eq_of_beq z
            subst this
            unfold repS
            cases a
            simp
          · have z : a.cps = #[] := by
              have := eq_of_beq z
              exact Array.eq_empty_of_size_eq_zero this
            unfold repS
            cases a with
            | mk c =>
              have z : c = #[] := z
              subst z
              congr 1
              generalize k.toNat = n
              induction n with
              | zero => rfl
              | succ n ih => rw [List.replicate_succ, List.foldl_cons]; exact ih
        rw [e] at q
        exact q
      · rw [if_neg g2]
        exact ⟨fits_reps fit, ⟨.str _, H, I.tok _, ⟨_, rfl⟩, q⟩⟩
theorem oBin (o : Bop) : OpR X (binaryOp (bopO o)) (R2m X.K (binD o)) := by
  intro pins s σ H x y v u Q I rx ry h
  obtain ⟨ρ, m, dx, dy, r, hx, hy, h⟩ := h
  have bad : GF X.K (RV X.K) Q H ρ .bad → False := fun z => z
  cases dx with
  | int i =>
    obtain rfl := rv_int hx
    cases dy with
    | int j =>
      obtain rfl := rv_int hy
      cases o with
      | add => exact op_add pins s σ H _ _ v u Q I rx ry ⟨i, j, rfl, rfl, gf_ok h r (rvI _)⟩
      | sub => exact op_sub pins s σ H _ _ v u Q I rx ry ⟨i, j, rfl, rfl, gf_ok h r (rvI _)⟩
      | mul =>
        unfold binD at h
        dsimp only at h
        by_cases hc : smallF i ∨ smallF j
        · rw [if_pos hc] at h
          exact op_mul pins s σ H _ _ v u Q I rx ry ⟨i, j, rfl, rfl, small_mul hc, gf_ok h r (rvI _)⟩
        · rw [if_neg hc] at h
          exact h.elim
      | fdiv =>
        unfold binD at h
        dsimp only at h
        by_cases hc : 0 < j ∧ j < 1606938044258990275541962092341162602522202993782792835301376
        · rw [if_pos hc] at h
          exact op_fdivW pins s σ H _ _ v u Q I rx ry ⟨i, j, rfl, rfl, wide_fdiv hc, gf_ok h r (rvI _)⟩
        · rw [if_neg hc] at h
          exact h.elim
      | mod =>
        unfold binD at h
        dsimp only at h
        by_cases hc : 0 < j
        · rw [if_pos hc] at h
          exact op_mod pins s σ H _ _ v u Q I rx ry ⟨i, j, rfl, rfl, hc, gf_ok h r (rvI _)⟩
        · rw [if_neg hc] at h
          exact h.elim
      | pow =>
        unfold binD at h
        dsimp only at h
        by_cases hc : 0 ≤ j ∧ j ≤ 1000000 ∧ smallF i
        · rw [if_pos hc] at h
          exact op_pow pins s σ H _ _ v u Q I rx ry ⟨i, j, rfl, rfl, small_pow hc, gf_ok h r (rvI _)⟩
        · rw [if_neg hc] at h
          exact h.elim
      | shl =>
        unfold binD at h
        dsimp only at h
        by_cases hc : 0 ≤ j ∧ j ≤ 1000000 ∧ smallF i
        · rw [if_pos hc] at h
          exact op_shl pins s σ H _ _ v u Q I rx ry ⟨i, j, rfl, rfl, small_pow hc, gf_ok h r (rvI _)⟩
        · rw [if_neg hc] at h
          exact h.elim
      | shr =>
        unfold binD at h
        dsimp only at h
        by_cases hc : 0 ≤ j
        · rw [if_pos hc] at h
          exact op_shr pins s σ H _ _ v u Q I rx ry ⟨i, j, rfl, rfl, hc, gf_ok h r (rvI _)⟩
        · rw [if_neg hc] at h
          exact h.elim
    | _ => cases o <;> exact h.elim
  | str a =>
    obtain ⟨rfl, sa⟩ := rv_str hx
    cases dy with
    | str b =>
      obtain ⟨rfl, sb⟩ := rv_str hy
      cases o with
      | add =>
        unfold binD at h
        dsimp only at h
        by_cases hc : a.length + b.length ≤ line
        · rw [if_pos hc] at h
          exact op_add_str pins s σ H _ _ v u Q I rx ry ⟨a, b, rfl, rfl, by rw [← line_eq]; exact hc, gf_ok h r (rvS (sa.append sb hc))⟩
        · rw [if_neg hc] at h
          exact h.elim
      | _ => exact h.elim
    | int k =>
      obtain rfl := rv_int hy
      cases o with
      | mul =>
        unfold binD at h
        dsimp only at h
        by_cases hc : 0 ≤ k ∧ k ≤ 1000000 ∧ a.length * k.toNat ≤ line
        · rw [if_pos hc] at h
          obtain ⟨e, h⟩ := strR_ok h
          exact op_stm pins s σ H _ _ v u Q I rx ry ⟨a, k, rfl, rfl, hc.1, hc.2.1, by rw [← line_eq]; exact hc.2.2, gf_ok h r (rvS e)⟩
        · rw [if_neg hc] at h
          exact h.elim
      | _ => exact h.elim
    | _ => cases o <;> exact h.elim
  | tup xs =>
    obtain ⟨a, vs, rfl, ta, ra⟩ := rv_tup hx
    cases dy with
    | tup ys =>
      obtain ⟨b, ws, rfl, tb, rb⟩ := rv_tup hy
      cases o with
      | add =>
        unfold binD at h
        dsimp only at h
        by_cases hc : xs.length + ys.length ≤ line
        · rw [if_pos hc] at h
          have la := RVs.length _ _ ra
          have lb := RVs.length _ _ rb
          refine op_catA pins s σ H _ _ v u Q I rx ry ⟨a, b, vs, ws, rfl, rfl, ta, tb, by rw [← line_eq, ← la, ← lb]; exact hc, fun e => ?_, fun e1 e2 => ?_, fun _ _ p hp => gf_tup h r (RVs.append _ _ _ _ ra rb) hp⟩
          · have e2 : xs = [] := List.eq_nil_of_length_eq_zero (by rw [la, e]; rfl)
            subst e2
            exact gf_ok h r hy
          · have e2 : ys = [] := List.eq_nil_of_length_eq_zero (by rw [lb, e2]; rfl)
            subst e2
            rw [List.append_nil] at h
            exact gf_ok h r hx
        · rw [if_neg hc] at h
          exact h.elim
      | _ => exact h.elim
    | int k =>
      obtain rfl := rv_int hy
      cases o with
      | mul =>
        unfold binD at h
        dsimp only at h
        by_cases hc : -9223372036854775808 ≤ k ∧ k < 9223372036854775808 ∧ xs.length * k.toNat ≤ line
        · rw [if_pos hc] at h
          have la := RVs.length _ _ ra
          have rep : ∀ n : Nat, RVs X.K H ρ (List.replicate n xs).flatten (List.replicate n vs).flatten := fun n => by
            induction n with
            | zero => exact RVs.nil
            | succ n ih =>
              rw [List.replicate_succ, List.replicate_succ, List.flatten_cons, List.flatten_cons]
              exact RVs.append _ _ _ _ ra ih
          refine op_tm pins s σ H _ _ v u Q I rx ry ⟨a, k, vs, rfl, rfl, ta, by have := hc.1; omega, by have := hc.2.1; omega, by rw [← line_eq, ← la]; exact hc.2.2, fun e => ?_, fun _ p hp => gf_tup h r (rep _) hp⟩
          rcases e with e | e
          · have e2 : xs = [] := List.eq_nil_of_length_eq_zero (by rw [la, e]; rfl)
            subst e2
            rw [show (List.replicate k.toNat ([] : List D)).flatten = [] by simp] at h
            exact gf_ok h r hx
          · subst e
            rw [show (List.replicate (1 : Int).toNat xs).flatten = xs by simp] at h
            exact gf_ok h r hx
        · rw [if_neg hc] at h
          exact h.elim
      | _ => exact h.elim
    | _ => cases o <;> exact h.elim
  | ref a =>
    cases dy with
    | ref b =>
      cases o with
      | add =>
        unfold binD at h
        simp only at h
        split at h
        · rename_i xs ys ea eb
          obtain ⟨p, vs, rfl, _, ha, ra⟩ := rv_lst r hx ea
          obtain ⟨q, ws, rfl, _, hb, rb⟩ := rv_lst r hy eb
          by_cases hc : xs.length + ys.length ≤ line
          · rw [if_pos hc] at h
            exact op_cat pins s σ H _ _ v u Q I rx ry ⟨p, q, vs, ws, rfl, rfl, ha, hb, by rw [← line_eq, ← RVs.length _ _ ra, ← RVs.length _ _ rb]; exact hc, fun l hl => gf_lst h r (RVs.append _ _ _ _ ra rb) hl⟩
          · rw [if_neg hc] at h
            exact h.elim
        · exact h.elim
      | _ => exact h.elim
    | int k =>
      obtain rfl := rv_int hy
      cases o with
      | mul =>
        unfold binD at h
        simp only at h
        split at h
        · rename_i xs ea
          obtain ⟨p, vs, rfl, _, ha, ra⟩ := rv_lst r hx ea
          by_cases hc : -9223372036854775808 ≤ k ∧ k < 9223372036854775808 ∧ xs.length * k.toNat ≤ line
          · rw [if_pos hc] at h
            refine op_rep pins s σ H _ _ v u Q I rx ry ⟨p, k, vs, rfl, rfl, ha, by have := hc.1; omega, by have := hc.2.1; omega, by rw [← line_eq, ← RVs.length _ _ ra]; exact hc.2.2, fun l hl => gf_lst h r ?_ hl⟩
            have rep : ∀ n : Nat, RVs X.K H ρ (List.replicate n xs).flatten (List.replicate n vs).flatten := fun n => by
              induction n with
              | zero => exact RVs.nil
              | succ n ih =>
                rw [List.replicate_succ, List.replicate_succ, List.flatten_cons, List.flatten_cons]
                exact RVs.append _ _ _ _ ra ih
            exact rep _
          · rw [if_neg hc] at h
            exact h.elim
        · exact h.elim
      | _ => exact h.elim
    | _ => cases o <;> exact h.elim
  | _ => cases dy <;> cases o <;> exact h.elim
theorem eqF_V {K : PySem.W.Frag} {H : Hp} {ρ : List Addr} {z x : D} {v w : V} (hz : RV K H ρ z v) (hx : RV K H ρ x w) (fz : flat z = true) (fx : flat x = true) : eqV v w = eqF z x ∧ flatV v = true := by
  cases z with
  | non => obtain rfl := rv_non hz; cases x with
    | non => obtain rfl := rv_non hx; exact ⟨rfl, rfl⟩
    | bl _ => obtain rfl := rv_bl hx; exact ⟨rfl, rfl⟩
    | int _ => obtain rfl := rv_int hx; exact ⟨rfl, rfl⟩
    | str _ => obtain ⟨rfl, _⟩ := rv_str hx; exact ⟨rfl, rfl⟩
    | _ => cases fx
  | bl _ => obtain rfl := rv_bl hz; cases x with
    | non => obtain rfl := rv_non hx; exact ⟨rfl, rfl⟩
    | bl _ => obtain rfl := rv_bl hx; exact ⟨rfl, rfl⟩
    | int _ => obtain rfl := rv_int hx; exact ⟨rfl, rfl⟩
    | str _ => obtain ⟨rfl, _⟩ := rv_str hx; exact ⟨rfl, rfl⟩
    | _ => cases fx
  | int _ => obtain rfl := rv_int hz; cases x with
    | non => obtain rfl := rv_non hx; exact ⟨rfl, rfl⟩
    | bl _ => obtain rfl := rv_bl hx; exact ⟨rfl, rfl⟩
    | int _ => obtain rfl := rv_int hx; exact ⟨rfl, rfl⟩
    | str _ => obtain ⟨rfl, _⟩ := rv_str hx; exact ⟨rfl, rfl⟩
    | _ => cases fx
  | str _ => obtain ⟨rfl, _⟩ := rv_str hz; cases x with
    | non => obtain rfl := rv_non hx; exact ⟨rfl, rfl⟩
    | bl _ => obtain rfl := rv_bl hx; exact ⟨rfl, rfl⟩
    | int _ => obtain rfl := rv_int hx; exact ⟨rfl, rfl⟩
    | str _ => obtain ⟨rfl, _⟩ := rv_str hx; exact ⟨rfl, rfl⟩
    | _ => cases fx
  | _ => cases fz
theorem flat_V {K : PySem.W.Frag} {H : Hp} {ρ : List Addr} {x : D} {w : V} (hx : RV K H ρ x w) (fx : flat x = true) : flatV w = true := (eqF_V hx hx fx fx).2
theorem inF_V {K : PySem.W.Frag} {H : Hp} {ρ : List Addr} {x : D} {w : V} (hx : RV K H ρ x w) (fx : flat x = true) : ∀ (xs : List D) (vs : List V), RVs K H ρ xs vs → xs.all flat = true → inV w vs = (xs.any fun z => eqF z x) ∧ vs.all flatV = true
  | [], _, h, _ => by simp only [RVs] at h; subst h; exact ⟨rfl, rfl⟩
  | z :: zs, _, h, f => by
    simp only [RVs] at h
    obtain ⟨v, s, rfl, h1, h2⟩ := h
    rw [List.all_cons, Bool.and_eq_true] at f
    obtain ⟨e1, e2⟩ := eqF_V h1 hx f.1 fx
    obtain ⟨e3, e4⟩ := inF_V hx fx zs s h2 f.2
    refine ⟨?_, ?_⟩
    · unfold inV at e3 ⊢
      rw [List.any_cons, List.any_cons, e1, e3]
    · rw [List.all_cons, e2, e4]
      rfl
theorem oInFlat {xs : List D} {vs : List V} {K : PySem.W.Frag} {H : Hp} {ρ : List Addr} {m : M} {dx : D} {x : V} {a : Addr} {Q : VK} (neg : Bool) (hq : SqL K H a vs ∨ SqT K H a vs) (hr : RVs K H ρ xs vs) (r : Rel K H ρ m) (hx : RV K H ρ dx x) (hc : flat dx = true ∧ xs.all flat = true)
    (h : GF K (RV K) Q H ρ (.ok (.bl (if neg = true then !(xs.any fun z => eqF z dx) else xs.any fun z => eqF z dx)) m)) : rIn K neg x (.ref a) H Q := by
  obtain ⟨e3, e4⟩ := inF_V hx hc.1 xs vs hr hc.2
  have h' := gf_ok h r (rvB _)
  refine ⟨a, vs, rfl, hq, flat_V hx hc.1, e4, ?_⟩
  rw [e3]
  exact h'
theorem oInData {xs : List D} {vs : List V} {K : PySem.W.Frag} {H : Hp} {ρ : List Addr} {m : M} {dx : D} {x : V} {a : Addr} {ps : List PyData} {p : PyData} {R : Prop} (hq : SqL K H a vs) (hr : RVs K H ρ xs vs) (r : Rel K H ρ m) (hx : RV K H ρ dx x)
    (e1 : toPy 60 m dx = some p) (e2 : mapO (toPy 60 m) xs = some ps) : Dp K H x p ∧ Dp K H (.ref a) (.list ps) ∧ SeqAt.shaped p = true ∧ SeqAt.shaped (.list ps) = true := by
  obtain ⟨d1, s1⟩ := toPy_shaped r hx e1
  obtain ⟨d2, d3, d4⟩ := toPys_ok r 60 xs vs ps hr e2
  refine ⟨d1, .lst hq d2, s1, ?_⟩
  unfold SeqAt.shaped
  rw [show (PyData.list ps).canLay0 = true by simpa [PyData.canLay0] using d3, Bool.true_and, decide_eq_true_eq]
  simp only [PyData.depth]
  omega
theorem oInS (hu : X.A.units + 65 < cLine) (neg : Bool) : OpR X (compareOp (if neg = true then .NotIn else .In)) (R2m X.K fun x y m => bO ((inS x y m).map fun b => if neg = true then !b else b) m) := by
  intro pins s σ H x y v u Q I rx ry h
  obtain ⟨ρ, m, dx, dy, r, hx, hy, h⟩ := h
  have both : ∀ {a : Addr} {b : Bool}, rIn X.K neg x (.ref a) H Q → y = .ref a → wpAny (model X.prog X.w) X.A (compareOp (if neg = true then .NotIn else .In) v u) (EP X pins σ Q) X.xe s := fun {a b} h e => by
    subst e
    cases neg with
    | false => exact op_in_seq pins s σ H _ _ v u Q I rx ry h
    | true => exact op_notIn_seq pins s σ H _ _ v u Q I rx ry h
  have lists : ∀ {a : Addr} {xs : List D} {vs : List V}, y = .ref a → SqL X.K H a vs → RVs X.K H ρ xs vs → GF X.K (RV X.K) Q H ρ (bO ((if flat dx = true ∧ xs.all flat = true then some (xs.any fun z => eqF z dx) else (match toPy 60 m dx, mapO (toPy 60 m) xs with
          | some a, some bs => some (bs.any fun z => PyData.eqv z a)
          | _, _ => none)).map fun b => if neg = true then !b else b) m) → wpAny (model X.prog X.w) X.A (compareOp (if neg = true then .NotIn else .In) v u) (EP X pins σ Q) X.xe s := fun {a xs vs} e hl hr h => by
    by_cases hc : flat dx = true ∧ xs.all flat = true
    · rw [if_pos hc] at h
      exact both (b := true) (oInFlat neg (.inl hl) hr r hx hc h) e
    · rw [if_neg hc] at h
      cases e1 : toPy 60 m dx with
      | none => rw [e1] at h; exact h.elim
      | some p =>
        cases e2 : mapO (toPy 60 m) xs with
        | none => rw [e1, e2] at h; exact h.elim
        | some ps =>
          rw [e1, e2] at h
          have h' := gf_ok h r (rvB _)
          obtain ⟨d1, d2, s1, s2⟩ := oInData (R := True) hl hr r hx e1 e2
          subst e
          cases neg with
          | false => exact op_inD hu pins s σ H _ _ v u Q I rx ry ⟨p, ps, d1, d2, s1, s2, h'⟩
          | true => exact op_notInD hu pins s σ H _ _ v u Q I rx ry ⟨p, ps, d1, d2, s1, s2, h'⟩
  cases dy with
  | tup ys =>
    obtain ⟨a, vs, e, h1, h2⟩ := rv_tup hy
    by_cases hc : flat dx = true ∧ ys.all flat = true
    · simp only [inS, seqD, if_pos hc] at h
      exact both (b := true) (oInFlat neg (.inr h1) h2 r hx hc h) e
    · simp only [inS, seqD, if_neg hc] at h
      exact h.elim
  | fl ys =>
    obtain ⟨a, vs, e, h1, h2⟩ := rv_fl hy
    exact lists e h1.sq h2 h
  | ref l =>
    cases e : m[l]? with
    | none => simp only [inS, seqD, e] at h; exact h.elim
    | some o =>
      cases o with
      | dic _ => simp only [inS, seqD, e] at h; exact h.elim
      | lst ys =>
        obtain ⟨a, vs, ea, _, h1, h2⟩ := rv_lst r hy e
        simp only [inS, seqD, e] at h
        exact lists ea (SqL.of h1) h2 h
  | str z =>
    obtain ⟨rfl, _⟩ := rv_str hy
    simp only [inS, seqD, sgnD] at h
    cases dx with
    | str a =>
      obtain ⟨rfl, _⟩ := rv_str hx
      dsimp only at h
      cases e : a.cps.toList with
      | nil => rw [e] at h; exact h.elim
      | cons c t =>
        cases t with
        | cons _ _ => rw [e] at h; exact h.elim
        | nil =>
          rw [e] at h
          have h' := gf_ok h r (rvB _)
          have ea : a = ⟨#[c]⟩ := by
            cases a with
            | mk q =>
              have e : q.toList = [c] := e
              congr 1
              rw [← Array.toArray_toList (xs := q), e]
          cases neg with
          | false => exact op_in_sign pins s σ H _ _ v u Q I rx ry ⟨c, z, by rw [ea], rfl, h'⟩
          | true => exact op_notIn_sign pins s σ H _ _ v u Q I rx ry ⟨c, z, by rw [ea], rfl, h'⟩
    | _ => exact h.elim
  | _ => exact h.elim
theorem oIn (hu : X.A.units + 65 < cLine) (neg : Bool) : OpR X (compareOp (if neg = true then .NotIn else .In)) (R2m X.K fun x y m => bO ((inD x y m).map fun b => if neg = true then !b else b) m) := by
  intro pins s σ H x y v u Q I rx ry h
  obtain ⟨ρ, m, dx, dy, r, hx, hy, h⟩ := h
  unfold inD at h
  dsimp only at h
  cases e : dicD dy m with
  | none =>
    rw [e] at h
    exact oInS hu neg pins s σ H x y v u Q I rx ry ⟨ρ, m, dx, dy, r, hx, hy, h⟩
  | some kvs =>
    rw [e] at h
    dsimp only at h
    cases ek : keyD dx with
    | none => rw [ek] at h; exact h.elim
    | some k =>
      rw [ek] at h
      have h' := gf_ok h r (rvB _)
      obtain ⟨l, rfl, hm⟩ := dicD_some e
      obtain ⟨a, ws, rfl, ha, h1, h2⟩ := rv_dic r hy hm
      obtain rfl : u = Value.ref a := ry
      have ex := key_V hx ek
      subst ex
      have hv : (valV ws k).isSome = (valK kvs k).isSome := by
        rcases RKs.val k kvs ws h2 with ⟨e1, e2⟩ | ⟨d, w, e1, e2, _⟩ <;> rw [e1, e2] <;> rfl
      cases neg with
      | false => exact d_in (by omega) I (DGet.k h1) rx fun s' I' => ⟨.bl (valV ws k).isSome, H, I', rfl, by rw [hv]; exact h'⟩
      | true => exact d_notIn (by omega) I (DGet.k h1) rx fun s' I' => ⟨.bl (!(valV ws k).isSome), H, I', rfl, by rw [hv]; exact h'⟩
theorem oEq (hu : X.A.units + 64 < cLine) (neg : Bool) : OpR X (compareOp (if neg = true then .NotEq else .Eq)) (R2m X.K fun x y m => bO ((eqD m x y).map fun b => if neg = true then !b else b) m) := by
  intro pins s σ H x y v u Q I rx ry h
  obtain ⟨ρ, m, dx, dy, r, hx, hy, h⟩ := h
  unfold eqD at h
  dsimp only at h
  have N : GF X.K (RV X.K) Q H ρ (bO ((eqN m dx dy).map fun b => if neg = true then !b else b) m) → wpAny (model X.prog X.w) X.A (compareOp (if neg = true then .NotEq else .Eq) v u) (EP X pins σ Q) X.xe s := fun h => by
    cases e : eqN m dx dy with
    | none => rw [e] at h; exact h.elim
    | some b =>
      rw [e] at h
      exact op_eqN hu neg I r hx hy rx ry e (gf_ok h r (rvB _))
  cases e1 : toPy 60 m dx with
  | none => rw [e1] at h; exact N h
  | some p =>
    cases e2 : toPy 60 m dy with
    | none => rw [e1, e2] at h; exact N h
    | some q =>
      rw [e1, e2] at h
      have h' := gf_ok h r (rvB _)
      obtain ⟨d1, s1⟩ := toPy_shaped r hx e1
      obtain ⟨d2, s2⟩ := toPy_shaped r hy e2
      cases neg with
      | false => exact op_eqD hu pins s σ H _ _ v u Q I rx ry ⟨p, q, d1, d2, s1, s2, h'⟩
      | true => exact op_neD hu pins s σ H _ _ v u Q I rx ry ⟨p, q, d1, d2, s1, s2, h'⟩
theorem isN_V {K : PySem.W.Frag} {H : Hp} {ρ : List Addr} {d : D} {v : V} (h : RV K H ρ d v) : isD d .non = some (decide (v = .non)) := by
  cases d with
  | non => obtain rfl := rv_non h; rfl
  | bl b => obtain rfl := rv_bl h; rfl
  | int b => obtain rfl := rv_int h; rfl
  | str b => obtain ⟨rfl, _⟩ := rv_str h; rfl
  | tup b => obtain ⟨a, vs, rfl, _⟩ := rv_tup h; rfl
  | fl b => obtain ⟨a, vs, rfl, _⟩ := rv_fl h; rfl
  | ref b => obtain ⟨a, rfl, _⟩ := rv_ref h; rfl
theorem oIs (neg : Bool) : OpR X (compareOp (if neg = true then .IsNot else .Is)) (R2m X.K fun x y m => bO ((isD x y).map fun b => if neg = true then !b else b) m) := by
  intro pins s σ H x y v u Q I rx ry h
  obtain ⟨ρ, m, dx, dy, r, hx, hy, h⟩ := h
  cases dy with
  | non =>
    obtain rfl := rv_non hy
    dsimp only at h
    rw [isN_V hx] at h
    have h' := gf_ok h r (rvB _)
    cases neg with
    | false => exact op_isN pins s σ H _ _ v u Q I rx ry ⟨rfl, h'⟩
    | true => exact op_notN pins s σ H _ _ v u Q I rx ry ⟨rfl, h'⟩
  | bl b =>
    obtain rfl := rv_bl hy
    cases dx with
    | bl a =>
      obtain rfl := rv_bl hx
      have h' := gf_ok h r (rvB _)
      cases neg with
      | false => exact op_isBl pins s σ H _ _ v u Q I rx ry ⟨a, b, rfl, rfl, h'⟩
      | true => exact op_notBl pins s σ H _ _ v u Q I rx ry ⟨a, b, rfl, rfl, h'⟩
    | _ => exact h.elim
  | _ => cases dx <;> exact h.elim
theorem op_gt_ : OpR X (compareOp .Gt) (rI0 fun i j => .bl (decide (j < i))) := opB0 fun _ _ _ _ _ _ _ q => PyProof.Rows.gt_int q
theorem op_ge_ : OpR X (compareOp .GtE) (rI0 fun i j => .bl (decide (j ≤ i))) := opB0 fun _ _ _ _ _ _ _ q => PyProof.Rows.ge_int q
theorem op_lt_ : OpR X (compareOp .Lt) (rI0 fun i j => .bl (decide (i < j))) := opB0 fun _ _ _ _ _ _ _ q => PyProof.Rows.lt_int q
theorem op_le_ : OpR X (compareOp .LtE) (rI0 fun i j => .bl (decide (i ≤ j))) := opB0 fun _ _ _ _ _ _ _ q => PyProof.Rows.le_int q
theorem oCmp (hu : X.A.units + 65 < cLine) (o : Cop) : OpR X (compareOp (copO o)) (R2m X.K (cmpD o)) := by
  have ord : ∀ (f : Value → Value → Sem Value) (g : Int → Int → Bool), OpR X f (rI0 fun i j => .bl (g i j)) → OpR X f (R2m X.K fun x y m => match x, y with
      | .int i, .int j => .ok (.bl (g i j)) m
      | _, _ => .bad) := fun f g hf pins s σ H x y v u Q I rx ry h => by
    obtain ⟨ρ, m, dx, dy, r, hx, hy, h⟩ := h
    cases dx with
    | int i =>
      obtain rfl := rv_int hx
      cases dy with
      | int j =>
        obtain rfl := rv_int hy
        exact hf pins s σ H _ _ v u Q I rx ry ⟨i, j, rfl, rfl, gf_ok h r (rvB _)⟩
      | _ => exact h.elim
    | _ => cases dy <;> exact h.elim
  cases o with
  | lt => exact ord _ (fun i j => decide (i < j)) op_lt_
  | le => exact ord _ (fun i j => decide (i ≤ j)) op_le_
  | gt => exact ord _ (fun i j => decide (j < i)) op_gt_
  | ge => exact ord _ (fun i j => decide (j ≤ i)) op_ge_
  | eq =>
    have q := oEq (X := X) (by omega) false
    simp only [Bool.false_eq_true, if_false, Option.map_id'] at q
    exact q
  | ne => exact oEq (by omega) true
  | is =>
    have q := oIs (X := X) false
    simp only [Bool.false_eq_true, if_false, Option.map_id'] at q
    exact q
  | nis => exact oIs true
  | mem =>
    have q := oIn (X := X) hu false
    simp only [Bool.false_eq_true, if_false, Option.map_id'] at q
    exact q
  | nmem => exact oIn hu true
end
end Mi

set_option linter.all false
set_option autoImplicit false
set_option Elab.async false
set_option maxRecDepth 100000
set_option maxHeartbeats 4000000
/-! Mi4m: the least and the greatest of a list. -/
namespace Mi
open PySem L2 PySem.W PySem.F
section
variable {prog : Program} {w : World} {A : Around} {E : Value → Shared → Prop} {s : Shared}
theorem min_at {l : Addr} {vs : Array Value} {ps : List PyData} {as : List Addr} {Q : Value → Shared → Prop} (hh : A.handled = none) (hl : s.heap.IsList l vs) (hr : ReadsAll s.heap vs.toList ps as) (ha : AlikeAll ps) (hn : 0 < ps.length) (hu : A.units + 1 + PyData.depthAll ps < cLine)
    (h : ∀ v h' tk, vs[argBest (fun i j => dataLt (ps.getD i .none) (ps.getD j .none)) (ps.length - 1)]? = some v → (∀ b o, s.heap.get? b = some o → h'.get? b = some o) → Q v { s with heap := h', toks := tk }) :
    wpAny (model prog w) A (call (.builtin "min") [.ref l]) Q E s := by
  have hn' : vs.size = ps.length := readsAll_len hr
  refine call_min_walkH (iter_listW (A := A.in1) hh hl fun s₂ e W st hfp hw hk => ?_)
  refine ⟨_, _, _, _, _, _, _, s.heap, _, rfl, W, st, hfp, by omega, hw, hk, cmpIn_lt (A := A.in1) hr ha (by show A.units + 1 + _ < _; exact hu), fun v s' hP m => ?_⟩
  obtain ⟨h', tk, rfl, hk'⟩ := moved_old e rfl m
  rw [hn'] at hP
  exact h v h' tk hP hk'
theorem max_at {l : Addr} {vs : Array Value} {ps : List PyData} {as : List Addr} {Q : Value → Shared → Prop} (hh : A.handled = none) (hl : s.heap.IsList l vs) (hr : ReadsAll s.heap vs.toList ps as) (ha : AlikeAll ps) (hn : 0 < ps.length) (hu : A.units + 1 + PyData.depthAll ps < cLine)
    (h : ∀ v h' tk, vs[argBest (fun i j => dataLt (ps.getD j .none) (ps.getD i .none)) (ps.length - 1)]? = some v → (∀ b o, s.heap.get? b = some o → h'.get? b = some o) → Q v { s with heap := h', toks := tk }) :
    wpAny (model prog w) A (call (.builtin "max") [.ref l]) Q E s := by
  have hn' : vs.size = ps.length := readsAll_len hr
  refine call_max_walkH (iter_listW (A := A.in1) hh hl fun s₂ e W st hfp hw hk => ?_)
  refine ⟨_, _, _, _, _, _, _, s.heap, _, rfl, W, st, hfp, by omega, hw, hk, cmpIn_gt (A := A.in1) hr ha (by show A.units + 1 + _ < _; exact hu), fun v s' hP m => ?_⟩
  obtain ⟨h', tk, rfl, hk'⟩ := moved_old e rfl m
  rw [hn'] at hP
  exact h v h' tk hP hk'
theorem bestI_arg (f : Nat → Nat → Bool) : ∀ k, argBest f k = bestI f k
  | 0 => rfl
  | k + 1 => by
    rw [argBest, bestI, bestI_arg f k]
theorem bestI_le (f : Nat → Nat → Bool) : ∀ k, bestI f k ≤ k
  | 0 => Nat.le_refl _
  | k + 1 => by
    rw [bestI]
    split
    · exact Nat.le_refl _
    · exact Nat.le_succ_of_le (bestI_le f k)
theorem alikeP_all {ps : List PyData} (h : alikeP ps = true) : AlikeAll ps := by
  unfold alikeP at h
  rw [List.all_eq_true] at h
  refine ⟨fun x hx y hy => ?_, fun x hx e => ?_⟩
  · have := h x hx
    rw [Bool.and_eq_true, List.all_eq_true] at this
    exact this.2 y hy
  · have := h x hx
    subst e
    rw [Bool.and_eq_true] at this
    exact absurd this.1 (by decide)
end
section
variable {X : L2.Cx} {H : Hp} {ρ : List Addr} {m : M} {Q : VK}
theorem mapO_len {α β : Type} {f : α → Option β} : ∀ (xs : List α) (bs : List β), mapO f xs = some bs → xs.length = bs.length
  | [], _, h => by cases h; rfl
  | x :: xs, bs, h => by
    unfold mapO at h
    cases e : f x with
    | none => rw [e] at h; cases h
    | some b =>
      rw [e] at h
      dsimp only at h
      cases e2 : mapO f xs with
      | none => rw [e2] at h; cases h
      | some cs =>
        rw [e2] at h
        cases h
        simp [mapO_len xs cs e2]
theorem rvs_at {K : PySem.W.Frag} : ∀ (xs : List D) (vs : List V) (us : List Value) (i : Nat) (u : Value), RVs K H ρ xs vs → Vals vs us → us[i]? = some u → ∃ v, RelV v u ∧ RV K H ρ (xs.getD i .non) v
  | _, [], [], i, u, h, r, e => by simp at e
  | _, [], _ :: _, i, u, h, r, e => by cases r
  | _, _ :: _, [], i, u, h, r, e => by cases r
  | [], v :: vs, _ :: _, i, u, h, r, e => by
    simp only [RVs] at h
    cases h
  | x :: xs, v :: vs, w :: us, i, u, h, r, e => by
    have hh : RV K H ρ x v ∧ RVs K H ρ xs vs := by
      simp only [RVs] at h
      obtain ⟨v', vs', e1, h1, h2⟩ := h
      cases e1
      exact ⟨h1, h2⟩
    cases r with
    | cons r rs =>
      cases i with
      | zero =>
        have := Option.some.inj (show some _ = some u from e)
        subst this
        exact ⟨v, r, hh.1⟩
      | succ i =>
        obtain ⟨v', h1, h2⟩ := rvs_at xs vs us i u hh.2 rs (by simpa using e)
        exact ⟨v', h1, by simpa using h2⟩
theorem rvs_one {K : PySem.W.Frag} {d : D} {vs : List V} (h : RVs K H ρ [d] vs) : ∃ v, vs = [v] ∧ RV K H ρ d v := by
  simp only [RVs] at h
  obtain ⟨v, s, e, h1, h2⟩ := h
  subst h2
  exact ⟨v, e, h1⟩
theorem ext_of {lo : Bool} {d : D} {v : V} (r : Rel X.K H ρ m) (hv : RV X.K H ρ d v) (h : GF X.K (RV X.K) Q H ρ (extD lo d m)) :
    ∃ (a : Addr) (xs : List D) (ws : List V) (ps : List PyData), v = .ref a ∧ SqL X.K H a ws ∧ RVs X.K H ρ xs ws ∧ 0 < ps.length ∧ xs.length = ps.length ∧ AlikeAll ps ∧ DpAll X.K H ws ps ∧ PyData.depthAll ps ≤ 60 ∧ GF X.K (RV X.K) Q H ρ (.ok (xs.getD (bestI (ltP lo ps) (ps.length - 1)) .non) m) := by
  unfold extD at h
  cases d with
  | ref l =>
    dsimp only at h
    cases e : m[l]? with
    | none => rw [e] at h; exact h.elim
    | some o =>
      rw [e] at h
      cases o with
      | dic _ => exact h.elim
      | lst xs =>
        dsimp only at h
        cases q : mapO (toPy 60 m) xs with
        | none => rw [q] at h; exact h.elim
        | some ps =>
          rw [q] at h
          dsimp only at h
          obtain ⟨a, ws, ea, ha, h1, h2⟩ := rv_lst r hv e
          obtain ⟨k1, k2, k3⟩ := toPys_ok r 60 xs ws ps h2 q
          by_cases c : 0 < ps.length ∧ alikeP ps = true
          · rw [if_pos c] at h
            exact ⟨a, xs, ws, ps, ea, SqL.of h1, h2, c.1, mapO_len xs ps q, alikeP_all c.2, k1, k3, h⟩
          · rw [if_neg c] at h; exact h.elim
  | _ => exact h.elim
theorem o_min1 (hc : X.calm = true) (hu : X.A.units + 65 < cLine) {d : D} {vs : List V} (r : Rel X.K H ρ m) (hvs : RVs X.K H ρ [d] vs) (h : GF X.K (RV X.K) Q H ρ (biD .min [d] m)) (pins : List (Addr × Obj)) (s : Shared) (σ : L2.St) (us : List Value) (rs : Vals vs us) (I : Inv X pins σ H s) :
    wpAny (model X.prog X.w) X.A (call (.builtin "min") us) (EP X pins σ Q) X.xe s := by
  obtain ⟨v, rfl, hv⟩ := rvs_one hvs
  have h : GF X.K (RV X.K) Q H ρ (extD true d m) := h
  obtain ⟨a, xs, ws, ps, rfl, hs, hrv, hn, hlen, ha, dp, dd, hq⟩ := ext_of r hv h
  rw [Vals.ref1 rs]
  obtain ⟨its, rv, hl, _⟩ := I.list hs
  obtain ⟨as, rd⟩ := L2.Dp.readsAll I ps ws its dp rv
  refine min_at (I.ok.hd hc) hl.isList (by simpa using rd) ha hn (by omega) fun u h' tk e hk => ?_
  obtain ⟨v', r1, r2⟩ := rvs_at xs ws its _ u hrv rv (by simpa using e)
  rw [bestI_arg] at r2
  exact ⟨v', H, I.kept hk, r1, gf_ok hq r r2⟩
theorem o_max1 (hc : X.calm = true) (hu : X.A.units + 65 < cLine) {d : D} {vs : List V} (r : Rel X.K H ρ m) (hvs : RVs X.K H ρ [d] vs) (h : GF X.K (RV X.K) Q H ρ (biD .max [d] m)) (pins : List (Addr × Obj)) (s : Shared) (σ : L2.St) (us : List Value) (rs : Vals vs us) (I : Inv X pins σ H s) :
    wpAny (model X.prog X.w) X.A (call (.builtin "max") us) (EP X pins σ Q) X.xe s := by
  obtain ⟨v, rfl, hv⟩ := rvs_one hvs
  have h : GF X.K (RV X.K) Q H ρ (extD false d m) := h
  obtain ⟨a, xs, ws, ps, rfl, hs, hrv, hn, hlen, ha, dp, dd, hq⟩ := ext_of r hv h
  rw [Vals.ref1 rs]
  obtain ⟨its, rv, hl, _⟩ := I.list hs
  obtain ⟨as, rd⟩ := L2.Dp.readsAll I ps ws its dp rv
  refine max_at (I.ok.hd hc) hl.isList (by simpa using rd) ha hn (by omega) fun u h' tk e hk => ?_
  obtain ⟨v', r1, r2⟩ := rvs_at xs ws its _ u hrv rv (by simpa using e)
  rw [bestI_arg] at r2
  exact ⟨v', H, I.kept hk, r1, gf_ok hq r r2⟩
end
end Mi

set_option linter.all false
set_option autoImplicit false
set_option Elab.async false
set_option maxRecDepth 100000
set_option maxHeartbeats 4000000
/-! Mi5: built-ins, methods, items, slices, types, by values. -/
namespace Mi
open PySem L2
def biVal : Bi → Value
  | .len => .builtin "len" | .abs => .builtin "abs" | .int => .type "int" | .min => .builtin "min" | .max => .builtin "max"
  | .list => .type "list" | .tuple => .type "tuple" | .all => .builtin "all" | .any => .builtin "any" | .sum => .builtin "sum"
  | .repr => .builtin "repr" | .str => .type "str" | .ord => .builtin "ord" | .chr => .builtin "chr" | .dict => .type "dict"
section
variable {K : PySem.W.Frag} {H : Hp} {ρ : List Addr} {m : M} {Q : VK}
theorem rvs1 {d : D} {vs : List V} (h : RVs K H ρ [d] vs) : ∃ v, vs = [v] ∧ RV K H ρ d v := by
  simp only [RVs] at h
  obtain ⟨v, r, rfl, h1, rfl⟩ := h
  exact ⟨v, rfl, h1⟩
theorem rvs2 {d e : D} {vs : List V} (h : RVs K H ρ [d, e] vs) : ∃ v w, vs = [v, w] ∧ RV K H ρ d v ∧ RV K H ρ e w := by
  simp only [RVs] at h
  obtain ⟨v, r, rfl, h1, w, s, rfl, h2, rfl⟩ := h
  exact ⟨v, w, rfl, h1, h2⟩
end
section
variable {X : L2.Cx}
theorem CallR.imp {f : Value} {r r' : List V → Hp → VK → Prop} (h : CallR X f r) (i : ∀ vs H Q, r' vs H Q → r vs H Q) : CallR X f r' := fun pins s σ H xs us Q I rs q => h pins s σ H xs us Q I rs (i _ _ _ q)
/-- of a list at an address, whosever it is -/
def RQm (K : PySem.W.Frag) (g : List D → M → R D) : List V → Hp → VK → Prop := fun vs H Q => ∃ ρ m xs a ws, vs = [.ref a] ∧ Rel K H ρ m ∧ SqL K H a ws ∧ RVs K H ρ xs ws ∧ GF K (RV K) Q H ρ (g xs m)
theorem oL (hc : X.calm = true) (f : Bi) : CallR X (biVal f) (RQm X.K (biL f)) := by
  cases f with
  | len => exact CallR.imp call_len_seq fun vs H Q ⟨ρ, m, xs, a, ws, e, r, hs, hr, h⟩ => ⟨a, ws, e, .inl hs, by rw [← RVs.length _ _ hr]; exact gf_ok h r (rvI _)⟩
  | list => exact CallR.imp call_list_of fun vs H Q ⟨ρ, m, xs, a, ws, e, r, hs, hr, h⟩ => ⟨a, ws, e, .inl hs, fun l hl => gf_lst h r hr hl⟩
  | tuple => exact CallR.imp call_tuple_of fun vs H Q ⟨ρ, m, xs, a, ws, e, r, hs, hr, h⟩ => ⟨a, ws, e, .inl ⟨hs, fun l hl => gf_tup h r hr hl⟩⟩
  | all =>
    refine CallR.imp (cr_all hc) fun vs H Q ⟨ρ, m, xs, a, ws, e, r, hs, hr, h⟩ => ?_
    unfold biL at h
    dsimp only at h
    cases q : blsD xs with
    | none => rw [q] at h; exact h.elim
    | some bs =>
      rw [q] at h
      have e2 := blsD_map xs bs q
      subst e2
      have e3 := RVs.bls bs ws hr
      subst e3
      exact ⟨a, bs, e, hs, gf_ok h r (rvB _)⟩
  | any =>
    refine CallR.imp (cr_any hc) fun vs H Q ⟨ρ, m, xs, a, ws, e, r, hs, hr, h⟩ => ?_
    unfold biL at h
    dsimp only at h
    cases q : blsD xs with
    | none => rw [q] at h; exact h.elim
    | some bs =>
      rw [q] at h
      have e2 := blsD_map xs bs q
      subst e2
      have e3 := RVs.bls bs ws hr
      subst e3
      exact ⟨a, bs, e, hs, gf_ok h r (rvB _)⟩
  | sum =>
    refine CallR.imp (cr_sum hc) fun vs H Q ⟨ρ, m, xs, a, ws, e, r, hs, hr, h⟩ => ?_
    unfold biL at h
    dsimp only at h
    cases q : intsD xs with
    | none => rw [q] at h; exact h.elim
    | some bs =>
      rw [q] at h
      have e2 := intsD_map xs bs q
      subst e2
      have e3 := RVs.ints bs ws hr
      subst e3
      exact ⟨a, bs, e, hs, gf_ok h r (rvI _)⟩
  | dict =>
    refine CallR.imp (call_dictP hc) fun vs H Q ⟨ρ, m, xs, a, ws, e, r, hs, hr, h⟩ => ?_
    unfold biL at h
    dsimp only at h
    cases q : pairsD xs with
    | none => rw [q] at h; exact h.elim
    | some kvs =>
      rw [q] at h
      obtain ⟨ps, us, e2, h1, h2⟩ := pairs_V xs kvs ws q hr
      subst e2
      exact ⟨a, ps, us, e, hs, h1, fun p hp => gf_dic h r (RKs.merge kvs [] us [] (by simp only [RKs]) h2) hp⟩
  | _ => exact fun pins s σ H vs us Q I rs ⟨ρ, m, xs, a, ws, e, r, hs, hr, h⟩ => h.elim
theorem gf_one {K : PySem.W.Frag} {H : Hp} {ρ : List Addr} {Q : VK} {ds : List D} {g : D → R D} {vs : List V} (hv : RVs K H ρ ds vs) (h : GF K (RV K) Q H ρ (one ds g)) : ∃ d v, ds = [d] ∧ vs = [v] ∧ RV K H ρ d v ∧ GF K (RV K) Q H ρ (g d) := by
  rcases ds with _ | ⟨d, _ | ⟨e, t⟩⟩
  · exact h.elim
  · obtain ⟨v, rfl, h1⟩ := rvs1 hv
    exact ⟨d, v, rfl, rfl, h1, h⟩
  · exact h.elim
theorem gf_two {K : PySem.W.Frag} {H : Hp} {ρ : List Addr} {Q : VK} {ds : List D} {g : D → D → R D} {vs : List V} (hv : RVs K H ρ ds vs) (h : GF K (RV K) Q H ρ (two ds g)) : ∃ d e v w, ds = [d, e] ∧ vs = [v, w] ∧ RV K H ρ d v ∧ RV K H ρ e w ∧ GF K (RV K) Q H ρ (g d e) := by
  rcases ds with _ | ⟨d, _ | ⟨e, _ | ⟨f, t⟩⟩⟩
  · exact h.elim
  · exact h.elim
  · obtain ⟨v, w, rfl, h1, h2⟩ := rvs2 hv
    exact ⟨d, e, v, w, rfl, rfl, h1, h2, h⟩
  · exact h.elim
theorem gf_lstM {K : PySem.W.Frag} {H : Hp} {ρ : List Addr} {Q : VK} {m : M} {d : D} {g : Nat → List D → R D} {v : V} (r : Rel K H ρ m) (hv : RV K H ρ d v) (h : GF K (RV K) Q H ρ (lstM d m g)) :
    ∃ l xs a ws, d = .ref l ∧ m[l]? = some (.lst xs) ∧ v = .ref a ∧ ρ[l]? = some a ∧ H a = some (.lst ws) ∧ RVs K H ρ xs ws ∧ GF K (RV K) Q H ρ (g l xs) := by
  cases d with
  | ref l =>
    cases e : m[l]? with
    | none => simp only [lstM, e] at h; exact h.elim
    | some o =>
      cases o with
      | dic _ => simp only [lstM, e] at h; exact h.elim
      | lst xs =>
        simp only [lstM, e] at h
        obtain ⟨a, ws, ea, ha, h1, h2⟩ := rv_lst r hv e
        exact ⟨l, xs, a, ws, rfl, e, ea, ha, h1, h2, h⟩
  | _ => exact h.elim
/-- a list of ours handed to such a built-in -/
theorem q_of {f : Bi} {d : D} {v : V} {H : Hp} {ρ : List Addr} {m : M} {K : PySem.W.Frag} {Q : VK} (r : Rel K H ρ m) (hv : RV K H ρ d v) (h : GF K (RV K) Q H ρ (lstB f d m)) : RQm K (biL f) [v] H Q := by
  obtain ⟨l, xs, a, ws, rfl, e, rfl, ha, h1, h2, h3⟩ := gf_lstM (g := fun _ xs => biL f xs m) r hv h
  exact ⟨ρ, m, xs, a, ws, rfl, r, SqL.of h1, h2, h3⟩
/-- repr of a display -/
theorem show_rd (gd : X.A.guards = some []) (hu : X.A.units + 65 < cLine) {pins : List (Addr × Obj)} {σ : L2.St} {H : Hp} {s : Shared} {Q : VK} {v : V} {u : Value} {ρ : List Addr} {m : M} {d : D} (I : Inv X pins σ H s) (ru : RelV v u) (hv : RV X.K H ρ d v) (r : Rel X.K H ρ m)
    (hr : ∃ a, v = .ref a) (h : GF X.K (RV X.K) Q H ρ (showR d m)) : wpAny (model X.prog X.w) X.A (call (.builtin "repr") [u]) (EP X pins σ Q) X.xe s := by
  obtain ⟨a, rfl⟩ := hr
  obtain rfl : u = Value.ref a := ru
  unfold showR at h
  cases e : toPy 60 m d with
  | none => rw [e] at h; exact h.elim
  | some p =>
    rw [e] at h
    dsimp only at h
    by_cases hs : p.showable = true
    · rw [if_pos hs] at h
      obtain ⟨ok, h⟩ := strR_ok h
      obtain ⟨d1, cl, dp⟩ := toPy_ok r 60 d _ p hv e
      obtain ⟨as, rd⟩ := L2.Dp.reads I p _ _ d1 rfl
      refine PySem.repr_of_reads' rd hs (PyData.noDict_hsm (PyData.hasDict_of_canLay p cl)) gd (by omega) (fun _ _ z => z) (fun h' t tk hk => ⟨.str p.shown, H, I.kept (t' := tk) hk, ⟨t, rfl⟩, gf_ok h r (rvS ok)⟩) ok.2
    · rw [if_neg hs] at h; exact h.elim
theorem show_dic (gd : X.A.guards = some []) (hu : X.A.units + 65 < cLine) {pins : List (Addr × Obj)} {σ : L2.St} {H : Hp} {s : Shared} {Q : VK} {a : Addr} {u : Value} {ρ : List Addr} {m : M} {kvs : List (Key × D)} {ws : List (Key × V)} (I : Inv X pins σ H s) (ru : RelV (.ref a) u) (r : Rel X.K H ρ m)
    (h1 : H a = some (.dK ws)) (h2 : RKs X.K H ρ kvs ws) (h : GF X.K (RV X.K) Q H ρ (showK kvs m)) : wpAny (model X.prog X.w) X.A (call (.builtin "repr") [u]) (EP X pins σ Q) X.xe s := by
  obtain rfl : u = Value.ref a := ru
  unfold showK at h
  cases e : mapO (toPy 58 m) (kvs.map (·.2)) with
  | none => rw [e] at h; exact h.elim
  | some ps =>
    rw [e] at h
    dsimp only at h
    by_cases hs : noLs ps = true ∧ (PyData.dict (zipP kvs ps)).showable = true
    · rw [if_pos hs] at h
      obtain ⟨ok, h⟩ := strR_ok h
      obtain ⟨z, lo, vs, rel, o, es, ep, g1, g2, g3, g4, g5, g6⟩ := dk_of I.hok h1
      obtain ⟨i1, i2, bs, i3, i4⟩ := dic_reads I r kvs ps ws vs es.toList h2 rel g5 e
      have hb := i4 hs.1
      subst hb
      have rd : Reads s.heap (.ref a) (.dict (zipP kvs ps)) (a :: [] ++ []) := Reads.dict g1 g2.1 g3 i1 i3
      have dp := zip_depth kvs ps 58 i2
      refine PySem.repr_of_reads' rd hs.2 (fun _ hm => ?_) gd (by simp only [PyData.depth]; omega) (fun _ _ z => z) (fun h' t tk hk => ⟨.str (PyData.dict (zipP kvs ps)).shown, H, I.kept (t' := tk) hk, ⟨t, rfl⟩, gf_ok h r (rvS ok)⟩) ok.2
      simp only [List.append_nil, List.mem_singleton] at hm
      rw [hm] at lo
      simp at lo
    · rw [if_neg hs] at h; exact h.elim
theorem oBi (hc : X.calm = true) (gd : X.A.guards = some []) (hu : X.A.units + 65 < cLine) (f : Bi) : CallR X (biVal f) (RNm X.K (biD f)) := by
  intro pins s σ H vs us Q I rs h
  obtain ⟨ρ, m, ds, r, hv, h⟩ := h
  cases f with
  | len =>
    obtain ⟨d, v, rfl, rfl, hv, h⟩ := gf_one hv h
    cases d with
    | str x =>
      obtain ⟨rfl, sx⟩ := rv_str hv
      exact call_len_str pins s σ H _ us Q I rs ⟨x, rfl, sx.2, gf_ok h r (rvI _)⟩
    | tup xs =>
      obtain ⟨a, ws, rfl, h1, h2⟩ := rv_tup hv
      exact call_len_seq pins s σ H _ us Q I rs ⟨a, ws, rfl, .inr h1, by rw [← RVs.length _ _ h2]; exact gf_ok h r (rvI _)⟩
    | fl xs =>
      obtain ⟨a, ws, rfl, h1, h2⟩ := rv_fl hv
      exact call_len_seq pins s σ H _ us Q I rs ⟨a, ws, rfl, .inl h1.sq, by rw [← RVs.length _ _ h2]; exact gf_ok h r (rvI _)⟩
    | ref l =>
      cases e : m[l]? with
      | none => simp only [lenD, e] at h; exact h.elim
      | some o =>
        cases o with
        | lst xs =>
          simp only [lenD, e] at h
          exact oL hc .len pins s σ H _ us Q I rs (q_of (f := .len) r hv (by simp only [lstB, e, biL]; exact h))
        | dic kvs =>
          simp only [lenD, e] at h
          obtain ⟨a, ws, rfl, ha, h1, h2⟩ := rv_dic r hv e
          obtain ⟨u, rfl, ru⟩ := vals1 rs
          obtain rfl : u = Value.ref a := ru
          exact d_len I (.inl h1) fun t s' I' => ⟨.int ws.length, H, I', ⟨t, rfl⟩, gf_ok h r (by rw [RKs.length _ _ h2]; exact rvI _)⟩
    | _ => exact h.elim
  | abs =>
    obtain ⟨d, v, rfl, rfl, hv, h⟩ := gf_one hv h
    cases d with
    | int i =>
      obtain rfl := rv_int hv
      exact call_abs pins s σ H _ us Q I rs ⟨i, rfl, gf_ok h r (rvI _)⟩
    | _ => exact h.elim
  | int =>
    obtain ⟨d, v, rfl, rfl, hv, h⟩ := gf_one hv h
    cases d with
    | int i =>
      obtain rfl := rv_int hv
      exact call_int1 pins s σ H _ us Q I rs (.inl ⟨i, rfl, gf_ok h r (rvI _)⟩)
    | bl i =>
      obtain rfl := rv_bl hv
      exact call_int1 pins s σ H _ us Q I rs (.inr ⟨i, rfl, gf_ok h r (rvI _)⟩)
    | str a =>
      obtain ⟨rfl, _⟩ := rv_str hv
      unfold intD at h
      dsimp only at h
      cases e : PySem.intText? a with
      | none => rw [e] at h; exact h.elim
      | some n =>
        rw [e] at h
        dsimp only at h
        by_cases c : a.length ≤ 640
        · rw [if_pos c] at h
          exact call_int_str pins s σ H _ us Q I rs ⟨a, n, rfl, e, c, gf_ok h r (rvI _)⟩
        · rw [if_neg c] at h; exact h.elim
    | _ => exact h.elim
  | min =>
    by_cases h1 : ∃ d, ds = [d]
    · obtain ⟨d, rfl⟩ := h1
      exact o_min1 hc hu r hv h pins s σ us rs I
    have h : GF X.K (RV X.K) Q H ρ (two ds fun d e => minD d e m) := by
      rcases ds with _ | ⟨d, _ | ⟨e, t⟩⟩
      · exact h
      · exact absurd ⟨d, rfl⟩ h1
      · exact h
    obtain ⟨d, e, v, w, rfl, rfl, hv, hw, h⟩ := gf_two hv h
    cases d with
    | int i =>
      obtain rfl := rv_int hv
      cases e with
      | int j =>
        obtain rfl := rv_int hw
        exact call_min2 hc pins s σ H _ us Q I rs ⟨i, j, rfl, gf_ok h r (rvI _)⟩
      | _ => exact h.elim
    | _ => cases e <;> exact h.elim
  | max =>
    by_cases h1 : ∃ d, ds = [d]
    · obtain ⟨d, rfl⟩ := h1
      exact o_max1 hc hu r hv h pins s σ us rs I
    have h : GF X.K (RV X.K) Q H ρ (two ds fun d e => maxD d e m) := by
      rcases ds with _ | ⟨d, _ | ⟨e, t⟩⟩
      · exact h
      · exact absurd ⟨d, rfl⟩ h1
      · exact h
    obtain ⟨d, e, v, w, rfl, rfl, hv, hw, h⟩ := gf_two hv h
    cases d with
    | int i =>
      obtain rfl := rv_int hv
      cases e with
      | int j =>
        obtain rfl := rv_int hw
        exact call_max2 hc pins s σ H _ us Q I rs ⟨i, j, rfl, gf_ok h r (rvI _)⟩
      | _ => exact h.elim
    | _ => cases e <;> exact h.elim
  | list =>
    obtain ⟨d, v, rfl, rfl, hv, h⟩ := gf_one hv h
    cases e : seqD d m with
    | none => rw [e] at h; exact h.elim
    | some xs =>
      rw [e] at h
      obtain ⟨a, ws, rfl, h1, h2⟩ := rv_seq r hv e
      exact call_list_of pins s σ H _ us Q I rs ⟨a, ws, rfl, h1, fun l hl => gf_lst h r h2 hl⟩
  | tuple =>
    obtain ⟨d, v, rfl, rfl, hv, h⟩ := gf_one hv h
    cases d with
    | tup xs =>
      obtain ⟨a, ws, rfl, h1, h2⟩ := rv_tup hv
      exact call_tuple_of pins s σ H _ us Q I rs ⟨a, ws, rfl, .inr ⟨h1, gf_ok h r hv⟩⟩
    | fl xs =>
      obtain ⟨a, ws, rfl, h1, h2⟩ := rv_fl hv
      exact call_tuple_of pins s σ H _ us Q I rs ⟨a, ws, rfl, .inl ⟨h1.sq, fun l hl => gf_tup h r h2 hl⟩⟩
    | ref l =>
      cases e : m[l]? with
      | none => simp only [seqD, e] at h; exact h.elim
      | some o =>
        cases o with
        | dic _ => simp only [seqD, e] at h; exact h.elim
        | lst xs =>
          simp only [seqD, e] at h
          obtain ⟨a, ws, rfl, _, h1, h2⟩ := rv_lst r hv e
          exact call_tuple_of pins s σ H _ us Q I rs ⟨a, ws, rfl, .inl ⟨SqL.of h1, fun l hl => gf_tup h r h2 hl⟩⟩
    | _ => exact h.elim
  | all =>
    obtain ⟨d, v, rfl, rfl, hv, h⟩ := gf_one hv h
    exact oL hc .all pins s σ H _ us Q I rs (q_of r hv h)
  | any =>
    obtain ⟨d, v, rfl, rfl, hv, h⟩ := gf_one hv h
    exact oL hc .any pins s σ H _ us Q I rs (q_of r hv h)
  | sum =>
    obtain ⟨d, v, rfl, rfl, hv, h⟩ := gf_one hv h
    exact oL hc .sum pins s σ H _ us Q I rs (q_of r hv h)
  | repr =>
    obtain ⟨d, v, rfl, rfl, hv, h⟩ := gf_one hv h
    cases d with
    | non =>
      obtain rfl := rv_non hv
      obtain ⟨u, rfl, rfl⟩ := vals1 rs
      exact PySem.P.repr_of_none ⟨.str "None", H, I.tok _, ⟨_, rfl⟩, gf_ok h r (rvS ⟨by decide +kernel, by decide +kernel⟩)⟩
    | bl b =>
      obtain rfl := rv_bl hv
      obtain ⟨u, rfl, rfl⟩ := vals1 rs
      exact PySem.P.repr_of_bool ⟨.str (if b then "True" else "False"), H, I.tok _, ⟨_, rfl⟩, gf_ok h r (rvS (by cases b <;> exact ⟨by decide +kernel, by decide +kernel⟩))⟩
    | int i =>
      obtain rfl := rv_int hv
      unfold reprD at h
      dsimp only at h
      by_cases hc : i.natAbs.log2 < 1920
      · rw [if_pos hc] at h
        obtain ⟨ok, h⟩ := strR_ok h
        exact SkE.call_repr_int pins s σ H _ us Q I rs ⟨i, rfl, hc, gf_ok h r (rvS ok)⟩
      · rw [if_neg hc] at h; exact h.elim
    | str x =>
      obtain ⟨rfl, sx⟩ := rv_str hv
      obtain ⟨u, rfl, t, rfl⟩ := vals1 rs
      obtain ⟨ok, h⟩ := strR_ok h
      exact PySem.P.repr_of_str ⟨.str (reprText x), H, I.tok _, ⟨_, rfl⟩, gf_ok h r (rvS ok)⟩ ok.2
    | tup xs =>
      obtain ⟨u, rfl, ru⟩ := vals1 rs
      exact show_rd gd hu I ru hv r (by obtain ⟨a, ws, e, _⟩ := rv_tup hv; exact ⟨a, e⟩) h
    | fl xs =>
      obtain ⟨u, rfl, ru⟩ := vals1 rs
      exact show_rd gd hu I ru hv r (by obtain ⟨a, ws, e, _⟩ := rv_fl hv; exact ⟨a, e⟩) h
    | ref l =>
      obtain ⟨u, rfl, ru⟩ := vals1 rs
      unfold reprD at h
      dsimp only at h
      cases e : m[l]? with
      | none =>
        rw [e] at h
        exact show_rd gd hu I ru hv r (by obtain ⟨a, e, _⟩ := rv_ref hv; exact ⟨a, e⟩) h
      | some o =>
        cases o with
        | lst xs =>
          rw [e] at h
          exact show_rd gd hu I ru hv r (by obtain ⟨a, e, _⟩ := rv_ref hv; exact ⟨a, e⟩) h
        | dic kvs =>
          rw [e] at h
          obtain ⟨a, ws, rfl, ha, h1, h2⟩ := rv_dic r hv e
          exact show_dic gd hu I ru r h1 h2 h
  | dict =>
    obtain ⟨d, v, rfl, rfl, hv, h⟩ := gf_one hv h
    cases e : dicD d m with
    | none =>
      rw [e] at h
      exact oL hc .dict pins s σ H _ us Q I rs (q_of r hv h)
    | some kvs =>
      rw [e] at h
      obtain ⟨l, rfl, hm⟩ := dicD_some e
      obtain ⟨a, ws, rfl, ha, h1, h2⟩ := rv_dic r hv hm
      exact call_dictD pins s σ H _ us Q I rs ⟨a, ws, rfl, .inl h1, fun p hp => gf_dic h r h2 hp⟩
  | str =>
    obtain ⟨d, v, rfl, rfl, hv, h⟩ := gf_one hv h
    cases d with
    | int i =>
      obtain rfl := rv_int hv
      unfold strD at h
      dsimp only at h
      by_cases hc : i.natAbs.log2 < 1920
      · rw [if_pos hc] at h
        obtain ⟨ok, h⟩ := strR_ok h
        exact call_str_int pins s σ H _ us Q I rs ⟨i, rfl, hc, gf_ok h r (rvS ok)⟩
      · rw [if_neg hc] at h; exact h.elim
    | str x =>
      obtain ⟨rfl, sx⟩ := rv_str hv
      exact SkE.call_str_str pins s σ H _ us Q I rs ⟨x, rfl, gf_ok h r hv⟩
    | _ => exact h.elim
  | ord =>
    obtain ⟨d, v, rfl, rfl, hv, h⟩ := gf_one hv h
    cases d with
    | str x =>
      obtain ⟨rfl, sx⟩ := rv_str hv
      unfold ordD at h
      dsimp only at h
      by_cases hc : x.length = 1
      · rw [if_pos hc] at h
        exact call_ord pins s σ H _ us Q I rs ⟨x, rfl, hc, gf_ok h r (rvI _)⟩
      · rw [if_neg hc] at h; exact h.elim
    | _ => exact h.elim
  | chr =>
    obtain ⟨d, v, rfl, rfl, hv, h⟩ := gf_one hv h
    cases d with
    | int i =>
      obtain rfl := rv_int hv
      unfold chrD at h
      dsimp only at h
      by_cases hc : 0 ≤ i ∧ i ≤ 1114111
      · rw [if_pos hc] at h
        obtain ⟨ok, h⟩ := strR_ok h
        exact call_chr pins s σ H _ us Q I rs ⟨i, rfl, hc.1, hc.2, gf_ok h r (rvS ok)⟩
      · rw [if_neg hc] at h; exact h.elim
    | _ => exact h.elim
/-! ### items, slices, stores -/
theorem oIxS : IxR X (R2m X.K ixS) := by
  intro value slice pins s σ H x y v u Q I rx ry h hs
  obtain ⟨ρ, m, dx, dy, r, hx, hy, h⟩ := h
  cases dy with
  | int k =>
    obtain rfl := rv_int hy
    unfold ixS at h
    dsimp only at h
    cases e : seqD dx m with
    | none =>
      rw [e] at h
      dsimp only at h
      cases dx with
      | str z =>
        obtain ⟨rfl, sz⟩ := rv_str hx
        unfold ixT at h
        dsimp only at h
        cases q : atI z.cps.toList k with
        | none => rw [q] at h; exact h.elim
        | some c =>
          rw [q] at h
          refine ix_str value slice pins s σ H _ _ v u Q I rx ry ⟨z, k, c, rfl, rfl, sz.2, q, gf_ok h r (rvS ?_)⟩ hs
          obtain ⟨j, _, g, _⟩ := atI_get q
          exact sok_at sz (by rw [← Array.getElem?_toList]; exact g)
      | _ => exact h.elim
    | some xs =>
      rw [e] at h
      dsimp only at h
      cases q : atI xs k with
      | none => rw [q] at h; exact h.elim
      | some d =>
        rw [q] at h
        obtain ⟨a, ws, rfl, h1, h2⟩ := rv_seq r hx e
        obtain ⟨w, h3, h4⟩ := RVs.atI xs ws k d h2 q
        rcases h1 with h1 | h1
        · exact ix_list value slice pins s σ H _ _ v u Q I rx ry ⟨a, ws, k, w, rfl, rfl, h1, h3, gf_ok h r h4⟩ hs
        · exact ix_tup value slice pins s σ H _ _ v u Q I rx ry ⟨a, ws, k, w, rfl, rfl, h1, h3, gf_ok h r h4⟩ hs
  | _ => exact h.elim
theorem oIx (hu : X.A.units + 65 < cLine) : IxR X (R2m X.K ixD) := by
  intro value slice pins s σ H x y v u Q I rx ry h hs
  obtain ⟨ρ, m, dx, dy, r, hx, hy, h⟩ := h
  unfold ixD at h
  cases e : dicD dx m with
  | none =>
    rw [e] at h
    exact oIxS value slice pins s σ H x y v u Q I rx ry ⟨ρ, m, dx, dy, r, hx, hy, h⟩ hs
  | some kvs =>
    rw [e] at h
    dsimp only at h
    cases ek : keyD dy with
    | none => rw [ek] at h; exact h.elim
    | some k =>
      rw [ek] at h
      dsimp only at h
      obtain ⟨l, rfl, hm⟩ := dicD_some e
      obtain ⟨a, ws, rfl, ha, h1, h2⟩ := rv_dic r hx hm
      obtain rfl : v = Value.ref a := rx
      have ex := key_V hy ek
      subst ex
      rcases RKs.val k kvs ws h2 with ⟨e1, e2⟩ | ⟨d, w, e1, e2, e3⟩
      · rw [e1] at h; exact h.elim
      · rw [e1] at h
        have g : DGet H a (kV k) (some w) := by rw [← e2]; exact DGet.k h1
        exact PyProof.Rows.tail_any (dict_typeIs I g) PySem.F.slot_dict_getitem.lookup (d_getItem (by omega) I g ry fun w' s' I' rw' => ⟨w, H, I', rw', gf_ok h r e3⟩) hs
def RSm (K : PySem.W.Frag) : V → Option Int → Option Int → Hp → VK → Prop := fun x lo hi H Q => ∃ ρ m d, Rel K H ρ m ∧ RV K H ρ d x ∧ GF K (RV K) Q H ρ (slD d lo hi m)
theorem sIx_full {n : Nat} {lo hi : Option Int} (h : HT.sIx n 0 lo = 0 ∧ HT.sIx n n hi = n) {α : Type} (xs : List α) (e : xs.length = n) : (xs.drop (HT.sIx n 0 lo)).take (HT.sIx n n hi - HT.sIx n 0 lo) = xs := by
  rw [h.1, h.2, List.drop_zero, Nat.sub_zero, ← e, List.take_length]
theorem oSl : SlR X (RSm X.K) := by
  intro pins s σ H x v vl vu lo hi sl Q I rx hs pl pu h
  obtain ⟨ρ, m, d, r, hx, h⟩ := h
  cases d with
  | tup xs =>
    obtain ⟨a, ws, rfl, h1, h2⟩ := rv_tup hx
    refine sl_tupA pins s σ H _ v vl vu lo hi sl Q I rx hs pl pu ⟨a, ws, rfl, h1, fun hw => ?_, fun _ p hp => gf_tup h r (RVs.cut _ _ lo hi h2) hp⟩
    refine gf_ok h r ?_
    have e := RVs.length _ _ h2
    have e2 : cutD xs lo hi = xs := by
      unfold cutD
      rw [e]
      exact sIx_full hw xs e
    rw [e2]
    exact hx
  | fl xs =>
    obtain ⟨a, ws, rfl, h1, h2⟩ := rv_fl hx
    exact sl_list pins s σ H _ v vl vu lo hi sl Q I rx hs pl pu ⟨a, ws, rfl, h1.sq, fun p hp => gf_lst h r (RVs.cut _ _ lo hi h2) hp⟩
  | ref l =>
    cases e : m[l]? with
    | none => simp only [slD, e] at h; exact h.elim
    | some o =>
      cases o with
      | dic _ => simp only [slD, e] at h; exact h.elim
      | lst xs =>
        simp only [slD, e] at h
        obtain ⟨a, ws, rfl, _, h1, h2⟩ := rv_lst r hx e
        exact sl_list pins s σ H _ v vl vu lo hi sl Q I rx hs pl pu ⟨a, ws, rfl, SqL.of h1, fun p hp => gf_lst h r (RVs.cut _ _ lo hi h2) hp⟩
  | str z =>
    obtain ⟨rfl, sz⟩ := rv_str hx
    obtain ⟨k, h⟩ := strR_ok h
    exact sl_str pins s σ H _ v vl vu lo hi sl Q I rx hs pl pu ⟨z, rfl, sz.2, gf_ok h r (rvS k)⟩
  | _ => exact h.elim
/-- what a store comes to -/
def GM (K : PySem.W.Frag) (Q : Hp → Prop) (H : Hp) (ρ : List Addr) : Option M → Prop
  | some m => ∀ H' ρ', Ext H ρ H' ρ' → Rel K H' ρ' m → Q H'
  | none => False
def RWm (K : PySem.W.Frag) : TSet := fun o i v H Q => ∃ ρ m d k e, Rel K H ρ m ∧ RV K H ρ d o ∧ RV K H ρ k i ∧ RV K H ρ e v ∧ GM K Q H ρ (setD d k e m)
theorem oSetS : PSet X (fun o i v H Q => ∃ ρ m d k e, Rel X.K H ρ m ∧ RV X.K H ρ d o ∧ RV X.K H ρ k i ∧ RV X.K H ρ e v ∧ GM X.K Q H ρ (setS d k e m)) := by
  intro pins s σ H o i v ov iv u Q I ro ri rv h
  obtain ⟨ρ, m, d, k, e, r, hd, hk, he, h⟩ := h
  cases d with
  | ref l =>
    cases k with
    | int j =>
      obtain rfl := rv_int hk
      cases q : m[l]? with
      | none => simp only [setS, q] at h; exact h.elim
      | some ob =>
        cases ob with
        | dic _ => simp only [setS, q] at h; exact h.elim
        | lst xs =>
          simp only [setS, q] at h
          cases g : ixN xs.length j with
          | none => rw [g] at h; exact h.elim
          | some n =>
            rw [g] at h
            obtain ⟨a, ws, rfl, ha, h1, h2⟩ := rv_lst r hd q
            have hma := List.mem_of_getElem? ha
            refine set_list pins s σ H _ _ _ ov iv u Q I ro ri rv ⟨a, ws, j, n, rfl, rfl, h1, by rw [← RVs.length _ _ h2]; exact g, ?_⟩
            have x := Ext.set (o := .lst (ws.set n v)) r hma
            exact h _ ρ x (Rel.set r ha ⟨_, upd_same, RVs.ext r x _ _ (RVs.set _ _ n _ _ h2 he)⟩)
    | _ => exact h.elim
  | _ => cases k <;> exact h.elim
theorem oSet (hu : X.A.units + 65 < cLine) : PSet X (RWm X.K) := by
  intro pins s σ H o i v ov iv u Q I ro ri rv h
  obtain ⟨ρ, m, d, k, e, r, hd, hk, he, h⟩ := h
  cases d with
  | ref l =>
    cases q : m[l]? with
    | none =>
      simp only [setD, q] at h
      exact oSetS pins s σ H o i v ov iv u Q I ro ri rv ⟨ρ, m, _, k, e, r, hd, hk, he, h⟩
    | some ob =>
      cases ob with
      | lst xs =>
        simp only [setD, q] at h
        exact oSetS pins s σ H o i v ov iv u Q I ro ri rv ⟨ρ, m, _, k, e, r, hd, hk, he, h⟩
      | dic kvs =>
        simp only [setD, q] at h
        cases ek : keyD k with
        | none => rw [ek] at h; exact h.elim
        | some kk =>
          rw [ek] at h
          dsimp only at h
          by_cases hc : kvs.length < line
          · rw [if_pos hc] at h
            obtain ⟨a, ws, rfl, ha, h1, h2⟩ := rv_dic r hd q
            obtain rfl : ov = Value.ref a := ro
            have ex := key_V hk ek
            subst ex
            have x := Ext.set (o := .dK (putK ws kk v)) r (List.mem_of_getElem? ha)
            exact d_setItem (by omega) I (DPut.k h1 (by rw [← line_eq, ← RKs.length _ _ h2]; exact hc)) ri rv fun s' I' => ⟨_, I', h _ ρ x (Rel.set r ha ⟨_, upd_same, RKs.ext r x _ _ (RKs.put kk he _ _ h2)⟩)⟩
          · rw [if_neg hc] at h; exact h.elim
  | _ => exact h.elim
/-! ### truth -/
theorem tru_V {K : PySem.W.Frag} {H : Hp} {ρ : List Addr} {m : M} {d : D} {v : V} {b : Bool} (r : Rel K H ρ m) (h : RV K H ρ d v) (e : truth d m = some b) : TruV K v H b := by
  cases d with
  | non => obtain rfl := rv_non h; cases e; rfl
  | bl c => obtain rfl := rv_bl h; cases e; rfl
  | int c => obtain rfl := rv_int h; cases e; rfl
  | str c => obtain ⟨rfl, s⟩ := rv_str h; cases e; exact ⟨s.2, rfl⟩
  | tup xs =>
    obtain ⟨a, vs, rfl, h1, h2⟩ := rv_tup h
    cases e
    refine .inr (.inl ⟨vs, h1, ?_⟩)
    have := RVs.length _ _ h2
    cases xs <;> cases vs <;> first | rfl | cases this
  | fl xs =>
    obtain ⟨a, vs, rfl, h1, h2⟩ := rv_fl h
    cases e
    refine .inl ⟨vs, h1.sq, ?_⟩
    have := RVs.length _ _ h2
    cases xs <;> cases vs <;> first | rfl | cases this
  | ref l =>
    cases q : m[l]? with
    | none => simp only [truth, q] at e; cases e
    | some o =>
      cases o with
      | lst xs =>
        simp only [truth, q] at e
        cases e
        obtain ⟨a, vs, rfl, _, h1, h2⟩ := rv_lst r h q
        refine .inl ⟨vs, SqL.of h1, ?_⟩
        have := RVs.length _ _ h2
        cases xs <;> cases vs <;> first | rfl | cases this
      | dic kvs =>
        simp only [truth, q] at e
        cases e
        obtain ⟨a, rfl, ha⟩ := rv_ref h
        obtain ⟨b, hb, ws, h1, h2⟩ := r.ob l _ q
        rw [ha] at hb
        cases hb
        refine .inr (.inr ⟨ws, h1, ?_⟩)
        cases kvs with
        | nil => simp only [RKs] at h2; subst h2; rfl
        | cons p t =>
          obtain ⟨k, z⟩ := p
          simp only [RKs] at h2
          obtain ⟨w, s, rfl, _⟩ := h2
          rfl
/-! ### types -/
def tyS : Ty → String
  | .int => "int" | .bool => "bool" | .str => "str" | .list => "list" | .tuple => "tuple" | .dict => "dict"
theorem kit_one (K : PySem.W.Frag) (a b : Ty) : PySem.W.kitOne K (.type (tyS a)) (.type (tyS b)) = some (isTy a b) := kit_ty (by cases a <;> cases b <;> decide +kernel)
theorem kit_non (K : PySem.W.Frag) (b : Ty) : PySem.W.kitOne K (.type "NoneType") (.type (tyS b)) = some false := kit_ty (by cases b <;> decide +kernel)
theorem kit_anyT (K : PySem.W.Frag) (a : Ty) : ∀ ts : List Ty, PySem.W.kitAny K (.type (tyS a)) (ts.map fun t => .type (tyS t)) = some (ts.any (isTy a))
  | [] => rfl
  | t :: ts => by
    rw [List.map_cons, List.any_cons]
    unfold PySem.W.kitAny
    rw [kit_one]
    cases h : isTy a t with
    | true => rfl
    | false => exact kit_anyT K a ts
theorem kit_anyN (K : PySem.W.Frag) : ∀ ts : List Ty, PySem.W.kitAny K (.type "NoneType") (ts.map fun t => .type (tyS t)) = some false
  | [] => rfl
  | t :: ts => by
    rw [List.map_cons]
    unfold PySem.W.kitAny
    rw [kit_non]
    exact kit_anyN K ts
theorem tyx {K : PySem.W.Frag} {H : Hp} {ρ : List Addr} {m : M} {d : D} {v : V} {t : Ty} (r : Rel K H ρ m) (h : RV K H ρ d v) (e : tyD d m = some t) : TyX K H v (.type (tyS t)) := by
  cases d with
  | non => cases e
  | bl c => obtain rfl := rv_bl h; cases e; exact .base (.bl c)
  | int c => obtain rfl := rv_int h; cases e; exact .base (.int c)
  | str c => obtain ⟨rfl, _⟩ := rv_str h; cases e; exact .base (.str c)
  | tup xs =>
    obtain ⟨a, vs, rfl, h1, h2⟩ := rv_tup h
    cases e
    rcases h1 with (h1 | ⟨o, h1⟩) | ⟨o, its, n, h1, hc, _⟩
    · exact .base (.tup h1)
    · exact .fTuple h1
    · exact .kTuple h1 hc
  | fl xs =>
    obtain ⟨a, vs, rfl, h1, h2⟩ := rv_fl h
    cases e
    rcases h1 with ⟨o, h1⟩ | ⟨o, its, n, h1, hc, _⟩
    · exact .base (.frz h1)
    · exact .kList h1 hc
  | ref l =>
    cases q : m[l]? with
    | none => simp only [tyD, q] at e; cases e
    | some o =>
      cases o with
      | lst xs =>
        simp only [tyD, q] at e
        cases e
        obtain ⟨a, vs, rfl, _, h1, h2⟩ := rv_lst r h q
        exact .base (.lst h1)
      | dic kvs =>
        simp only [tyD, q] at e
        cases e
        obtain ⟨a, rfl, ha⟩ := rv_ref h
        obtain ⟨b, hb, ws, h1, h2⟩ := r.ob l _ q
        rw [ha] at hb
        cases hb
        exact .base (.dK h1)
/-- isinstance's answer, one class or a tuple of them -/
theorem isi_V {K : PySem.W.Frag} {H : Hp} {ρ : List Addr} {m : M} {d : D} {v : V} {ts : List Ty} {Q : VK} (r : Rel K H ρ m) (h : RV K H ρ d v) (q : GF K (RV K) Q H ρ (isiD d ts m)) :
    ∃ t b, TyX K H v t ∧ PySem.W.kitAny K t (ts.map fun t => .type (tyS t)) = some b ∧ Q (.bl b) H := by
  unfold isiD at q
  split at q
  · obtain rfl := rv_non h
    exact ⟨_, false, .base .non, kit_anyN K ts, gf_ok q r (rvB _)⟩
  · cases e : tyD d m with
    | none => rw [e] at q; exact q.elim
    | some t =>
      rw [e] at q
      exact ⟨_, _, tyx r h e, kit_anyT K t ts, gf_ok q r (rvB _)⟩
/-! ### methods of lists -/
def meId : Me → String
  | .append => "list.append" | .pop => "list.pop" | .get => "dict.get" | .startswith => "str.startswith" | .split => "str.split" | .join => "str.join"
  | .index => "list.index" | .extend => "list.extend" | .insert => "list.insert" | .lower => "str.lower" | .upper => "str.upper" | .strip => "str.strip" | .sindex => "str.index"
theorem strsD_map : ∀ (xs : List D) (is : List Str), strsD xs = some is → xs = is.map D.str
  | [], is, e => by cases e; rfl
  | .str i :: r, is, e => by
    unfold strsD at e
    cases q : strsD r with
    | none => rw [q] at e; cases e
    | some js =>
      rw [q] at e
      cases e
      rw [strsD_map r js q]
      rfl
  | .non :: _, _, e => by cases e
  | .bl _ :: _, _, e => by cases e
  | .int _ :: _, _, e => by cases e
  | .tup _ :: _, _, e => by cases e
  | .fl _ :: _, _, e => by cases e
  | .ref _ :: _, _, e => by cases e
theorem RVs.strs {K : PySem.W.Frag} {H : Hp} {ρ : List Addr} : ∀ (is : List Str) (vs : List V), RVs K H ρ (is.map D.str) vs → vs = is.map V.str
  | [], vs, h => by simp only [List.map_nil, RVs] at h; exact h
  | i :: is, vs, h => by
    simp only [List.map_cons, RVs] at h
    obtain ⟨v, t, rfl, h1, h2⟩ := h
    obtain ⟨rfl, _⟩ := rv_str h1
    rw [RVs.strs is t h2]
    rfl
theorem RVs.mapstr {K : PySem.W.Frag} {H : Hp} {ρ : List Addr} : ∀ (is : List Str), is.all okS = true → RVs K H ρ (is.map D.str) (is.map V.str)
  | [], _ => RVs.nil
  | i :: is, h => by
    rw [List.all_cons, Bool.and_eq_true] at h
    exact RVs.cons (rvS (okS_ok h.1)) (RVs.mapstr is h.2)
theorem oMe (hu : X.A.units + 65 < cLine) (f : Me) : MtR X (meId f) (RMm X.K (meD f)) := by
  intro pins s σ H x vs v us Q I rx rs h
  obtain ⟨ρ, m, d, ds, r, hx, hv, h⟩ := h
  cases f with
  | index =>
    obtain ⟨y, w, rfl, rfl, hw, h⟩ := gf_one hv h
    obtain ⟨l, xs, a, ws, rfl, q, rfl, ha, h1, h2, h⟩ := gf_lstM r hx h
    unfold idxD at h
    cases e1 : toPy 60 m y with
    | none => rw [e1] at h; exact h.elim
    | some p =>
      rw [e1] at h
      cases e2 : mapO (toPy 60 m) xs with
      | none => rw [e2] at h; exact h.elim
      | some ps =>
        rw [e2] at h
        dsimp only at h
        cases e3 : ps.findIdx? (fun z => PyData.eqv z p) with
        | none => rw [e3] at h; exact h.elim
        | some j =>
          rw [e3] at h
          obtain ⟨k1, k2, k3, k4⟩ := oInData (R := True) (SqL.of h1) h2 r hw e1 e2
          obtain ⟨jl, j1, j2⟩ := List.findIdx?_eq_some_iff_getElem.mp e3
          refine mt_indexD hu pins s σ H _ _ v us Q I rx rs ⟨a, w, p, ps, j, ps[j], rfl, rfl, k2, k1, k4, k3, List.getElem?_eq_getElem jl, j1, fun n z' hn hz => ?_, gf_ok h r (rvI _)⟩
          obtain ⟨nl, e⟩ := List.getElem?_eq_some_iff.mp hz
          rw [← e]
          simpa using j2 n hn
  | extend =>
    obtain ⟨e, w, rfl, rfl, hw, h⟩ := gf_one hv h
    obtain ⟨l, xs, a, ws, rfl, q, rfl, ha, h1, h2, h⟩ := gf_lstM r hx h
    obtain ⟨l2, zs, b, us2, rfl, q2, rfl, hb, k1, k2, h⟩ := gf_lstM r hw h
    by_cases hc : xs.length + zs.length ≤ line
    · rw [if_pos hc] at h
      have y := Ext.set (o := .lst (ws ++ us2)) r (List.mem_of_getElem? ha)
      refine mt_extend pins s σ H _ _ v us Q I rx rs ⟨a, b, ws, us2, rfl, rfl, h1, k1, by rw [← line_eq, ← RVs.length _ _ h2, ← RVs.length _ _ k2]; exact hc, ?_⟩
      exact h _ ρ _ y (Rel.set r ha ⟨_, upd_same, RVs.ext r y _ _ (RVs.append _ _ _ _ h2 k2)⟩) rvN
    · rw [if_neg hc] at h
      exact h.elim
  | insert =>
    rcases ds with _ | ⟨k, _ | ⟨y, _ | ⟨_, _⟩⟩⟩
    · exact h.elim
    · cases k <;> exact h.elim
    · cases k with
      | int i =>
        obtain ⟨w1, w2, rfl, hw1, hw2⟩ := rvs2 hv
        obtain rfl := rv_int hw1
        obtain ⟨l, xs, a, ws, rfl, q, rfl, ha, h1, h2, h⟩ := gf_lstM r hx h
        by_cases hc : xs.length < line ∧ 0 ≤ i ∧ i < 9223372036854775808
        · rw [if_pos hc] at h
          have y := Ext.set (o := .lst (ws.take i.toNat ++ [w2] ++ ws.drop i.toNat)) r (List.mem_of_getElem? ha)
          refine mt_insert pins s σ H _ _ v us Q I rx rs ⟨a, ws, i, w2, rfl, rfl, h1, by rw [← line_eq, ← RVs.length _ _ h2]; exact hc.1, hc.2.1, by have := hc.2.2; omega, ?_⟩
          exact h _ ρ _ y (Rel.set r ha ⟨_, upd_same, RVs.ext r y _ _ (RVs.append _ _ _ _ (RVs.append _ _ _ _ (RVs.take _ _ _ h2) (RVs.cons hw2 RVs.nil)) (RVs.drop _ _ _ h2))⟩) rvN
        · rw [if_neg hc] at h; exact h.elim
      | _ => exact h.elim
    · cases k <;> exact h.elim
  | lower =>
    cases d with
    | str a =>
      rcases ds with _ | ⟨_, _⟩
      · simp only [RVs] at hv
        subst hv
        obtain ⟨rfl, _⟩ := rv_str hx
        unfold meD at h
        dsimp only at h
        by_cases c : a.length ≤ 5592405
        · rw [if_pos c] at h
          obtain ⟨k, h⟩ := strR_ok h
          exact mt_lower pins s σ H _ _ v us Q I rx rs ⟨a, rfl, rfl, c, gf_ok h r (rvS k)⟩
        · rw [if_neg c] at h; exact h.elim
      · exact h.elim
    | _ => exact h.elim
  | upper =>
    cases d with
    | str a =>
      rcases ds with _ | ⟨_, _⟩
      · simp only [RVs] at hv
        subst hv
        obtain ⟨rfl, _⟩ := rv_str hx
        unfold meD at h
        dsimp only at h
        by_cases c : a.length ≤ 5592405
        · rw [if_pos c] at h
          obtain ⟨k, h⟩ := strR_ok h
          exact mt_upper pins s σ H _ _ v us Q I rx rs ⟨a, rfl, rfl, c, gf_ok h r (rvS k)⟩
        · rw [if_neg c] at h; exact h.elim
      · exact h.elim
    | _ => exact h.elim
  | strip =>
    cases d with
    | str a =>
      rcases ds with _ | ⟨k, _ | ⟨_, _⟩⟩
      · exact h.elim
      · cases k with
        | str b =>
          obtain ⟨w, rfl, hw⟩ := rvs1 hv
          obtain ⟨rfl, _⟩ := rv_str hw
          obtain ⟨rfl, _⟩ := rv_str hx
          unfold meD at h
          dsimp only at h
          by_cases c : a.length ≤ line
          · rw [if_pos c] at h
            obtain ⟨k, h⟩ := strR_ok h
            exact mt_stripChars pins s σ H _ _ v us Q I rx rs ⟨a, b, rfl, rfl, by rw [← line_eq]; exact c, gf_ok h r (rvS k)⟩
          · rw [if_neg c] at h; exact h.elim
        | _ => exact h.elim
      · cases k <;> exact h.elim
    | _ => exact h.elim
  | sindex =>
    cases d with
    | str a =>
      rcases ds with _ | ⟨k, _ | ⟨_, _⟩⟩
      · exact h.elim
      · cases k with
        | str b =>
          obtain ⟨w, rfl, hw⟩ := rvs1 hv
          obtain ⟨rfl, _⟩ := rv_str hw
          obtain ⟨rfl, _⟩ := rv_str hx
          unfold meD at h
          dsimp only at h
          cases e : Builtin.Str.occurrences a b 0 a.length 1 with
          | nil => rw [e] at h; exact h.elim
          | cons i rest =>
            rw [e] at h
            exact mt_sindex pins s σ H _ _ v us Q I rx rs ⟨a, b, i, rest, rfl, rfl, e, gf_ok h r (rvI _)⟩
        | _ => exact h.elim
      · cases k <;> exact h.elim
    | _ => exact h.elim
  | startswith =>
    cases d with
    | str a =>
      rcases ds with _ | ⟨k, _ | ⟨_, _⟩⟩
      · exact h.elim
      · cases k with
        | str b =>
          obtain ⟨w, rfl, hw⟩ := rvs1 hv
          obtain ⟨rfl, _⟩ := rv_str hw
          obtain ⟨rfl, _⟩ := rv_str hx
          exact mt_startswith pins s σ H _ _ v us Q I rx rs ⟨a, b, rfl, rfl, gf_ok h r (rvB _)⟩
        | _ => exact h.elim
      · cases k <;> exact h.elim
    | _ => exact h.elim
  | split =>
    cases d with
    | str a =>
      rcases ds with _ | ⟨k, _ | ⟨_, _⟩⟩
      · exact h.elim
      · cases k with
        | str b =>
          obtain ⟨w, rfl, hw⟩ := rvs1 hv
          obtain ⟨rfl, _⟩ := rv_str hw
          obtain ⟨rfl, _⟩ := rv_str hx
          unfold meD at h
          dsimp only at h
          by_cases c : b.length ≠ 0 ∧ a.length + 2 ≤ line ∧ (Txt.split a b).all okS = true
          · rw [if_pos c] at h
            refine mt_split pins s σ H _ _ v us Q I rx rs ⟨a, b, rfl, rfl, beq_false_of_ne c.1, by rw [← line_eq]; exact c.2.1, fun p hp => ?_⟩
            exact gf_lst h r (RVs.mapstr _ c.2.2) hp
          · rw [if_neg c] at h; exact h.elim
        | _ => exact h.elim
      · cases k <;> exact h.elim
    | _ => exact h.elim
  | join =>
    cases d with
    | str a =>
      rcases ds with _ | ⟨k, _ | ⟨_, _⟩⟩
      · exact h.elim
      · cases k with
        | ref l =>
          obtain ⟨w, rfl, hw⟩ := rvs1 hv
          obtain ⟨rfl, _⟩ := rv_str hx
          unfold meD at h
          dsimp only at h
          cases e : m[l]? with
          | none => rw [e] at h; exact h.elim
          | some o =>
            rw [e] at h
            cases o with
            | dic _ => exact h.elim
            | lst xs =>
              dsimp only at h
              cases q : strsD xs with
              | none => rw [q] at h; exact h.elim
              | some ys =>
                rw [q] at h
                dsimp only at h
                by_cases c : (ys.map (·.length)).sum + ys.length * a.length ≤ 16777216
                · rw [if_pos c] at h
                  obtain ⟨k, h⟩ := strR_ok h
                  obtain ⟨p, vs, rfl, _, h1, h2⟩ := rv_lst r hw e
                  obtain rfl := strsD_map xs ys q
                  obtain rfl := RVs.strs ys vs h2
                  exact mt_join pins s σ H _ _ v us Q I rx rs ⟨a, p, ys, rfl, rfl, .inl (SqL.of h1), c, gf_ok h r (rvS k)⟩
                · rw [if_neg c] at h; exact h.elim
        | _ => exact h.elim
      · cases k <;> exact h.elim
    | _ => exact h.elim
  | append =>
    obtain ⟨e, w, rfl, rfl, hw, h⟩ := gf_one hv h
    obtain ⟨l, xs, a, ws, rfl, q, rfl, ha, h1, h2, h⟩ := gf_lstM r hx h
    by_cases hc : xs.length < line
    · rw [if_pos hc] at h
      have y := Ext.set (o := .lst (ws ++ [w])) r (List.mem_of_getElem? ha)
      refine mt_append pins s σ H _ _ v us Q I rx rs ⟨a, ws, w, rfl, rfl, h1, by rw [← line_eq, ← RVs.length _ _ h2]; exact hc, ?_⟩
      exact h _ ρ _ y (Rel.set r ha ⟨_, upd_same, RVs.ext r y _ _ (RVs.append _ _ _ _ h2 (RVs.cons hw RVs.nil))⟩) rvN
    · rw [if_neg hc] at h
      exact h.elim
  | get =>
    unfold meD at h
    dsimp only at h
    cases e : dicD d m with
    | none => rw [e] at h; exact h.elim
    | some kvs =>
      rw [e] at h
      dsimp only at h
      obtain ⟨l, rfl, hm⟩ := dicD_some e
      obtain ⟨a, ws, rfl, ha, h1, h2⟩ := rv_dic r hx hm
      obtain rfl : v = Value.ref a := rx
      rcases ds with _ | ⟨k, _ | ⟨d2, _ | ⟨_, _⟩⟩⟩
      · exact h.elim
      · dsimp only at h
        cases ek : keyD k with
        | none => rw [ek] at h; exact h.elim
        | some kk =>
          rw [ek] at h
          obtain ⟨w, rfl, hw⟩ := rvs1 hv
          obtain ⟨u, rfl, ru⟩ := vals1 rs
          have ex := key_V hw ek
          subst ex
          refine d_get1 (by omega) I (DGet.k h1) ru fun w' s' I' rw' => ⟨_, H, I', rw', gf_ok h r ?_⟩
          rcases RKs.val kk kvs ws h2 with ⟨e1, e2⟩ | ⟨d3, w3, e1, e2, e3⟩
          · rw [e1, e2]; exact rvN
          · rw [e1, e2]; exact e3
      · dsimp only at h
        cases ek : keyD k with
        | none => rw [ek] at h; exact h.elim
        | some kk =>
          rw [ek] at h
          obtain ⟨w, z, rfl, hw, hz⟩ := rvs2 hv
          obtain ⟨u, u2, rfl, ru, ru2⟩ := vals2 rs
          have ex := key_V hw ek
          subst ex
          refine d_get2 (by omega) I (DGet.k h1) ru ru2 fun w' s' I' rw' => ⟨_, H, I', rw', gf_ok h r ?_⟩
          rcases RKs.val kk kvs ws h2 with ⟨e1, e2⟩ | ⟨d3, w3, e1, e2, e3⟩
          · rw [e1, e2]; exact hz
          · rw [e1, e2]; exact e3
      · exact h.elim
  | pop =>
    rcases ds with _ | ⟨k, _ | ⟨_, _⟩⟩
    rotate_left
    · cases k with
      | int i =>
        obtain ⟨w, rfl, hw⟩ := rvs1 hv
        obtain rfl := rv_int hw
        obtain ⟨l, xs, a, ws, rfl, q, rfl, ha, h1, h2, h⟩ := gf_lstM r hx h
        by_cases hc : -9223372036854775808 ≤ i ∧ i < 9223372036854775808
        · rw [if_pos hc] at h
          cases g : ixN xs.length i with
          | none => rw [g] at h; exact h.elim
          | some j =>
            rw [g] at h
            dsimp only at h
            cases g2 : xs[j]? with
            | none => rw [g2] at h; exact h.elim
            | some e =>
              rw [g2] at h
              obtain ⟨w, h3, h4⟩ := RVs.get _ _ _ _ h2 g2
              have y := Ext.set (o := .lst (ws.eraseIdx j)) r (List.mem_of_getElem? ha)
              refine mt_popAt pins s σ H _ _ v us Q I rx rs ⟨a, ws, i, j, w, rfl, rfl, h1, by omega, by omega, by rw [← RVs.length _ _ h2]; exact (ixN_seq g).1, h3, ?_⟩
              exact h _ ρ _ y (Rel.set r ha ⟨_, upd_same, RVs.ext r y _ _ (RVs.erase _ _ j h2)⟩) (RV.ext r y _ _ h4)
        · rw [if_neg hc] at h; exact h.elim
      | _ => exact h.elim
    · cases k <;> exact h.elim
    ·
      simp only [RVs] at hv
      subst hv
      obtain ⟨l, xs, a, ws, rfl, q, rfl, ha, h1, h2, h⟩ := gf_lstM r hx h
      cases g : xs[xs.length - 1]? with
      | none => rw [g] at h; exact h.elim
      | some e =>
        rw [g] at h
        obtain ⟨w, h3, h4⟩ := RVs.get _ _ _ _ h2 g
        have y := Ext.set (o := .lst ws.dropLast) r (List.mem_of_getElem? ha)
        refine mt_pop pins s σ H _ _ v us Q I rx rs ⟨a, ws, w, rfl, rfl, h1, by rw [← RVs.length _ _ h2]; exact h3, ?_⟩
        exact h _ ρ _ y (Rel.set r ha ⟨_, upd_same, RVs.ext r y _ _ (RVs.dropLast _ _ h2)⟩) (RV.ext r y _ _ h4)
end
end Mi

set_option linter.all false
set_option autoImplicit false
set_option Elab.async false
set_option maxRecDepth 100000
set_option maxHeartbeats 4000000
/-! Mi5g: promises of defs that are called where no builtin's guard stands (repr wants to know). -/
namespace Mi
open PySem PySem.Spec PyProof.Rows L2
/-- as FnOk, where the guards are known to be none -/
structure FnG (P : Program) (w : World) (K : PySem.W.Frag) (mg : Str → Option Value) (base : Heap) (k : Nat) (a : Addr) (fd : FuncData) (ps : List Str) (sp : Sp) : Prop where
  many : ∀ vs H Q E, sp vs H Q E → vs.length = ps.length
  go : ∀ (A : Around) (fs : List Env) (s : Shared) (H : Hp) (ar : Args) (us : List Value) (vs : List V) (Q : VK) (E : XK), Room k A → A.guards = some [] → Env0 P w K mg base A fs s H → BindsTo s fd ar (ps.zip us) → Vals vs us →
    sp vs H Q E → codeAny (model P w) A (.call (.ref a) ar) (CR CX0 fs P w H s Q E) s
theorem FnG.weak {P : Program} {w : World} {K : PySem.W.Frag} {mg : Str → Option Value} {base : Heap} {k : Nat} {a : Addr} {fd : FuncData} {ps : List Str} {sp sp2 : Sp} (F : FnG P w K mg base k a fd ps sp) (i : ∀ vs H Q E, sp2 vs H Q E → sp vs H Q E) : FnG P w K mg base k a fd ps sp2 :=
  ⟨fun vs H Q E z => F.many vs H Q E (i _ _ _ _ z), fun A fs s H ar us vs Q E r gd e b v z => F.go A fs s H ar us vs Q E r gd e b v (i _ _ _ _ z)⟩
section
variable {X : L2.Cx} {k : Nat} {a : Addr} {fd : FuncData} {ps : List Str} {sp : Sp}
theorem go_g {pins : List (Addr × Obj)} {τ : L2.St} {H : Hp} {s : Shared} {Q : VK} {us : List Value} {vs : List V} (F : FnG X.prog X.w X.K X.mg X.base k a fd ps sp) (r : Room k X.A) (gd : X.A.guards = some []) (b : Binds X.K fd ps [])
    (J : Inv X pins τ H s) (v : Vals vs us) (z : sp vs H Q E0) : wpAny (model X.prog X.w) X.A (call (.ref a) us) (EP X pins τ Q) X.xe s := by
  have n : us.length = ps.length := by rw [← v.length]; exact F.many _ _ _ _ z
  have b1 := b s us J.kIn (by rw [List.append_nil]; exact n)
  rw [List.append_nil] at b1
  refine wpAny_call (codeAny_mono (F.go X.A X.stack s H ⟨us, []⟩ us vs Q E0 r gd J.env0 b1 v z) fun o s2 q => ?_)
  match o, q with
  | .ok (.ret u), q => exact J.after q
  | .ok .next, q => exact q.elim
  | .ok .brk, q => exact q.elim
  | .ok .cont, q => exact q.elim
  | .error e, q => exact q.elim
variable {y : Str} {p pos : Pos} {e : Expr} {es : List Expr} {t : TA}
theorem pe_g (F : FnG X.prog X.w X.K X.mg X.base k a fd ps sp) (r : Room k X.A) (gd : X.A.guards = some []) (hg : Gl X y) (hm : X.mg y = some (.ref a)) (hk : PySem.W.keepIn X.K (.ref a) = true) (b : Binds X.K fd ps [])
    (pa : PA X (e :: es) t) (nd : (y == ("__debug__" : Str)) = false) (h1 : starEach (e :: es) X.env = (false, eval e X.env) :: starEach es X.env) (h2 : (backTo pos (starEach es X.env)).any (·.1) = false) :
    PE X (.Call (.Name y p) (e :: es) [] pos) (fun σ H Q => t σ H fun vs H1 => sp vs H1 Q E0) :=
  ⟨fun pins s τ H Q J z => wpAny_Call_Name_kw (ld_glob J hg hm (PySem.W.callWith_K (h₀ := X.base) J.ok.mod.kin hk (thn (pa.run pos pins s τ H _ J z) fun us s1 ⟨vs, H1, J1, v, q⟩ => ⟨J1.kIn, go_g F r gd b J1 v q⟩) h1 h2) nd)⟩
theorem pe_gL {i : Nat} {z : Str} (F : FnG X.prog X.w X.K X.mg X.base k a fd ps sp) (r : Room k X.A) (gd : X.A.guards = some []) (hN : X.N[i]? = some z) (hv : Vis X.env.scope z) (hk : PySem.W.keepIn X.K (.ref a) = true) (b : Binds X.K fd ps [])
    (pa : PA X (e :: es) t) (nd : (z == ("__debug__" : Str)) = false) (ncd : (z == ("__classdict__" : Str)) = false) (h1 : starEach (e :: es) X.env = (false, eval e X.env) :: starEach es X.env) (h2 : (backTo pos (starEach es X.env)).any (·.1) = false) :
    PE X (.Call (.Name z p) (e :: es) [] pos) (fun σ H Q => σ[i]? = some (some (.ref a)) ∧ t σ H fun vs H1 => sp vs H1 Q E0) := by
  refine ⟨fun pins s τ H Q J h => ?_⟩
  obtain ⟨hs, hz⟩ := h
  refine wpAny_Call_Name_kw (thn ((pe_var (pos := p) hN hv nd ncd).run pins s τ H (fun v H1 => v = .ref a ∧ H1 = H) J ⟨.ref a, hs, rfl, rfl⟩) fun u s1 ⟨v, H1, I1, r1, q1⟩ => ?_)
  obtain ⟨rfl, rfl⟩ := q1
  cases r1
  exact PySem.W.callWith_K (h₀ := X.base) I1.ok.mod.kin hk (thn (pa.run pos pins s1 τ _ _ I1 hz) fun us s ⟨vs, H1, J1, v, q⟩ => ⟨J1.kIn, go_g F r gd b J1 v q⟩) h1 h2
theorem pe_g0 (F : FnG X.prog X.w X.K X.mg X.base k a fd ps sp) (r : Room k X.A) (gd : X.A.guards = some []) (hg : Gl X y) (hm : X.mg y = some (.ref a)) (hk : PySem.W.keepIn X.K (.ref a) = true) (b : Binds X.K fd ps []) (nd : (y == ("__debug__" : Str)) = false) :
    PE X (.Call (.Name y p) [] [] pos) (fun σ H Q => sp [] H Q E0) :=
  ⟨fun pins s τ H Q J z => wpAny_Call_Name_kw (ld_glob J hg hm (PySem.W.callWith_K0 J.kIn hk (go_g (us := []) F r gd b J .nil z)) nd)⟩
end
/-- a def keeps its promise, by its body -/
theorem def_g {P : Program} {w : World} {K : PySem.W.Frag} {mg : Str → Option Value} {base : Heap} {y q : Str} {params : Arguments} {body : List Stmt} {scope : Scope} {dvs : List V} {kws : List (Str × V)} {a : Addr} {fd : FuncData} {N ps : List Str} {k : Nat} {sp : Sp}
    (F : FunD K y q params body scope dvs kws a fd) (S : FnScope N ps scope) (many : ∀ vs H Q E, sp vs H Q E → vs.length = ps.length)
    (b : ∀ (cd : Value) (A : Around) (fs : List Env) (s : Shared) (H : Hp) (vs : List V) (Q : VK) (E : XK), Room k (A.deeper (envOfC q scope s.heap.objs.size a cd)) → A.guards = some [] → sp vs H Q E →
      ∃ t, PSs (cxOf CX0 P w K mg base N q scope a cd A fs s H E) body t ∧ t { nx := fun _ H2 => Q .non H2, rt := Q } (start N vs) H) : FnG P w K mg base (k + 1) a fd ps sp := by
  obtain ⟨oc, od, dV, kV, doc, pm, an, cd, ct, sl, rfl, lk, code, _, _⟩ := F.ex
  refine ⟨many, fun A fs s H ar us vs Q E room gd e0 bi v z => ?_⟩
  have inK : K.In s.heap := e0.mod.kin.keeps fun l o g => (e0.bs l o g).1
  have nl : s.heap.NoLimit := e0.mod.nolimit.keeps fun l o g => (e0.bs l o g).1
  have kinds : ∀ n ∈ ps.zip us, scope.names.lookup n.1 = some .local ∨ (scope.names.lookup n.1 = some .cell ∧ ((cellsFrom (s.heap.objs.size + 1) scope.names []).lookup n.1).isSome = true) := by
    intro n hn
    have hp : n.1 ∈ ps := (List.of_mem_zip (a := n.1) (b := n.2) hn).1
    cases S.par n.1 hp with
    | inl g => exact .inl g
    | inr g => exact .inr ⟨g, PySem.W.cellsFrom_some _ _ _ (.inl g)⟩
  refine codeAny_call_function room.depth (inK _ _ lk) rfl S.co S.gen rfl (PySem.W.codeRec_of inK code) (bi _ _ _ _ (wpAny_newFunctionEnv_cells S.kind kinds ?_))
  rintro env rfl s1 x
  obtain ⟨t, pt, hq⟩ := b cd A fs s H vs Q E (room.deeper _) gd z
  refine ⟨nl.keeps x.toInCall.keep, codeAny_func (wpAny_mono (pt.run [] s1 (start N vs) H _ (inv_start S room.hd e0 (many _ _ _ _ z) v x) hq) ?_ fun _ _ g => g)⟩
  have close : ∀ {τ : L2.St} {H2 : Hp} {u2 : V} {u : Value} {s2 : Shared}, Inv (cxOf CX0 P w K mg base N q scope a cd A fs s H E) [] τ H2 s2 → RelV u2 u → Q u2 H2 → CE fs P w H s Q u s2 := fun J r g => ⟨_, _, J.os, J.bare, J.base, J.hok, r, g⟩
  intro o s2 g
  match o, g with
  | .ret u, ⟨u2, τ, H2, J, r, g⟩ => exact close J r g
  | .next, ⟨τ, H2, J, g⟩ => exact close (u2 := .non) (u := .none) J rfl g
  | .brk, ⟨_, _, _, g⟩ => exact g.elim
  | .cont, ⟨_, _, _, g⟩ => exact g.elim
end Mi

set_option linter.all false
set_option autoImplicit false
set_option Elab.async false
set_option maxRecDepth 100000
set_option maxHeartbeats 4000000
/-! Mi5h: a law's end, from such a promise. -/
namespace Mi
open PySem PySem.Spec PyProof.Rows L2
section
variable {P : Program} {w : World} {K : PySem.W.Frag} {mg mb : Str → Option Value} {a fa : Addr} {s : Shared} {vs : List Value} {H : Hp}
/-- what stays in sight when the script is hidden -/
theorem seen (hA : ∀ l, H l ≠ none → l = a) {l : Addr} {o : Obj} (e : s.heap.get? l = some o) (n : l = a → H a = none) : (hidT s.heap H).get? l = some o := by
  refine hidT_get e ?_
  cases q : H l with
  | none => rfl
  | some u =>
    have z : l = a := hA l (by rw [q]; exact Option.some_ne_none u)
    have n := n z
    rw [← z, q] at n
    cases n
theorem seen_ns (hA : ∀ l, H l ≠ none → l = a) (ha : s.heap.get? a = some { cls := .type "list", data := .seq vs.toArray }) {l : Addr} {f : Str → Option Value} (h : s.heap.Ns l f) : (hidT s.heap H).Ns l f := by
  obtain ⟨o, es, ep, e, d, r⟩ := h
  refine ⟨o, es, ep, seen hA e fun z => ?_, d, r⟩
  rw [z, ha] at e
  cases e
  exact Data.noConfusion (show Data.seq vs.toArray _ = Data.dict es ep from d)
theorem head_env (hA : ∀ l, H l ≠ none → l = a) (hK : H a ≠ none → K.lookup a = none) (ok : HOk P w H s.heap) (ha : s.heap.get? a = some { cls := .type "list", data := .seq vs.toArray })
    (inK : K.In s.heap) (g1 : s.heap.Ns mainGlobals mg) (g2 : s.heap.Ns builtinsNs mb) (g3 : ∀ x : Str, x ≠ "__name__" → mb x = bootBuiltins x) (g4 : s.heap.NoLimit) (g5 : s.gens = #[]) :
    K.In (hidT s.heap H) ∧ (hidT s.heap H).Ns mainGlobals mg ∧ Env0 P w K mg (hidT s.heap H) callerA [] s H := by
  have k1 : K.In (hidT s.heap H) := by
    intro l o e
    refine seen hA (inK l o e) fun z => ?_
    cases q : H a with
    | none => rfl
    | some u =>
      have n := hK (by rw [q]; exact Option.some_ne_none u)
      rw [← z, e] at n
      cases n
  have k2 := seen_ns hA ha g1
  obtain ⟨mc, c1, c2⟩ := g4
  refine ⟨k1, k2, ⟨rfl, ⟨k1, k2, ⟨mb, seen_ns hA ha g2, g3⟩, ⟨mc, seen_ns hA ha c1, c2⟩⟩, fun l o e => of_hidT e, Nat.le_of_eq (hidT_size _ _), trivial, ?_, ok, .of_eq g5⟩⟩
  intro l hl
  exact absurd (show l ∈ ([] : List Addr) from hl) (List.not_mem_nil)
/-- behind the law's call -/
theorem head_end (hO : Only H) (ok : HOk P w H s.heap) {r : Result} {s2 : Shared} (q : CR CX0 [] P w H s (fun v _ => v = .bl true) E0 r s2) : r = .ok (.ret (.bool true)) ∧ OldK s.heap s2.heap ∧ s2.os = s.os ∧ AllBare s2.gens := by
  match r, q with
  | .error _, q => exact q.elim
  | .ok .next, q => exact q.elim
  | .ok .brk, q => exact q.elim
  | .ok .cont, q => exact q.elim
  | .ok (.ret u), ⟨v, H2, os, bare, un, ok2, rv, q⟩ =>
    obtain rfl : v = .bl true := q
    obtain rfl : u = .bool true := rv
    refine ⟨rfl, OldK.of_keep ?_, os, bare⟩
    intro l o e
    cases c : H l with
    | none => exact un.keep l o e c (fun z => absurd (show l ∈ ([] : List Addr) from z) List.not_mem_nil) List.not_mem_nil
    | some u =>
      obtain z | ⟨ob, xs, z⟩ := hO l
      · rw [z] at c
        cases c
      · have e1 := (ok l _ z).1
        rw [e] at e1
        cases e1
        exact (ok2 l _ (un.frzs l _ _ z)).1
end
/-- the head: a law's promise where no guard stands -/
theorem walk_g {l : PySem.W.OpenLaw} {n k : Nat} {q : Program} {loose : List Str} {XP : (Str → Option Value) → Heap → Prop} {YP : World → Heap → Prop} {d : DefRec} {y : Str} (hn : l.most = some n) (hn2 : n ≤ sizeLine) (hd : d.params.defaults = []) (room : Room k callerA)
    (F : ∀ (w : World) (mg : Str → Option Value) (fa : Addr) (h : Heap), YP w h → h.Ns mainGlobals mg → mg d.name = some (.ref fa) → ∃ (K : PySem.W.Frag) (fd : FuncData) (sp : Sp), K.In h ∧ (∀ (s : Shared) (u : Value), BindsTo s fd ⟨[u], []⟩ [(y, u)]) ∧
      (∀ (H : Hp) (a : Addr) (ns : List Int), ns.length ≤ n → Only H → SqL K H a (ns.map V.int) → sp [.ref a] H (fun v _ => v = .bl true) E0) ∧ ∀ base : Heap, K.In base → base.Ns mainGlobals mg → FnG l.prog w K mg base k fa fd [y] sp) :
    PySem.W.WalkO q loose XP YP l.row.toRowW d [] (fun f vs => PySem.call f vs) := by
  refine Att.attach_call hn hd fun w s0 s mg mb fa o pm cd doc a vs ns G Y ho hdd hcd hmg ha hints hlen hg => ?_
  obtain ⟨K, fd, sp, inK, bi, hsp, hF⟩ := F w mg fa _ Y G.T.g hmg
  have hv := vals_ints hints
  have hlv : vs.length ≤ sizeLine := by
    rw [← hv.length, List.length_map]
    exact Nat.le_trans hlen hn2
  -- for a heap in which the script alone may be tracked
  have core : ∀ H : Hp, Only H → SqL K H a (ns.map V.int) → HOk l.prog w H s.heap → (∀ b, H b ≠ none → b = a) → (H a ≠ none → K.lookup a = none) →
      codeAny (model l.prog w) callerA (.call (.ref fa) ⟨[.ref a], []⟩) (fun r s2 => r = .ok (.ret (.bool true)) ∧ OldK s.heap s2.heap ∧ s2.os = s.os ∧ AllBare s2.gens) s := by
    intro H hO hS ok hA hK
    obtain ⟨k1, k2, e0⟩ := head_env hA hK ok ha inK G.T.g G.T.b G.T.builtins G.T.nolimit hg
    exact codeAny_mono ((hF _ k1 k2).go callerA [] s H ⟨[.ref a], []⟩ [.ref a] [.ref a] _ E0 room rfl e0 (bi s (.ref a)) (.cons rfl .nil) (hsp H a ns hlen hO hS)) fun r s2 z => head_end hO ok z
  cases c : K.lookup a with
  | some ob =>
    have e := inK a ob c
    rw [ha] at e
    cases e
    exact core (fun _ => none) (fun _ => .inl rfl) (.inr ⟨_, vs.toArray, _, c, rfl, rfl, rfl, by rw [List.size_toArray]; exact hlv, hv⟩) (fun _ u z => absurd (show (none : Option HO) = some u from z) (by simp)) (fun _ z => absurd rfl z) (fun z => absurd rfl z)
  | none =>
    let T : Hp := fun b => if b = a then some (.frz { cls := .type "list", data := .seq vs.toArray } (.lst (ns.map V.int))) else none
    have Ta : T a = some (.frz { cls := .type "list", data := .seq vs.toArray } (.lst (ns.map V.int))) := if_pos rfl
    have To : ∀ b, b ≠ a → T b = none := fun b h => if_neg h
    refine core T (fun b => ?_) (.inl (.inr ⟨_, Ta⟩)) (fun b u z => ?_) (fun b z => ?_) fun _ => c
    · by_cases h : b = a
      · rw [h]; exact .inr ⟨_, _, Ta⟩
      · exact .inl (To b h)
    · by_cases h : b = a
      · rw [h] at z ⊢
        rw [Ta] at z
        cases z
        exact ⟨ha, by rw [List.length_map]; exact Nat.le_trans hlen hn2, vs, _, hv, ha⟩
      · rw [To b h] at z
        cases z
    · by_cases h : b = a
      · exact h
      · exact absurd (To b h) z
end Mi

set_option linter.all false
set_option autoImplicit false
set_option Elab.async false
set_option maxRecDepth 100000
set_option maxHeartbeats 4000000
/-! Mi5s: the set of a list of ints; sorted(set(..)). -/
namespace Mi
open PySem L2 PySem.Spec PyProof.Rows
/-- a set that has just been laid -/
abbrev newSet (w : World) : Obj := { cls := .type "set", dict := none, data := .set #[] 0 (.fresh 0 0 (!w.params.followText "set-order")) }
section
variable {P : Program} {w : World} {A : Around} {E : Value → Shared → Prop} {s : Shared}
set_option maxHeartbeats 6400000 in
theorem set_of_ints {a : Addr} {vs : Array Value} (ks : List Int) {Q : Value → Shared → Prop} (calm : A.handled = none) (ha : s.heap.IsList a vs) (hk : IntsAre vs.toList ks) (room : ks.length + 1 < scanBound)
    (next : ∀ (g : Heap) (tk n : Nat), SetR w g s.heap.objs.size (fun j => decide (j ∈ ks)) n → n ≤ ks.length → (∀ b o, s.heap.get? b = some o → g.get? b = some o) → Q (.ref s.heap.objs.size) { s with heap := g, toks := tk }) : wpAny (model P w) A (call (.type "set") [.ref a]) Q E s := by
  have len : vs.size = ks.length := (Array.length_toList (xs := vs)).symm.trans (IntsAre.length hk)
  have ⟨c, tl, hmro⟩ := F.called_set.mro
  have hmade := F.called_set.made; have hsub := F.called_set.sub
  have notT := F.called_set.notType; have canC := F.called_set.canCreate; have tyC := F.typeCall_set_1 (.ref a)
  apply wpAny_call; apply codeAny_of_tree
  show wpAny _ _ (callAny (.type "set") _) _ _ _
  apply wpAny_pure
  refine ⟨Code.quiet_builtin _ (by decide +kernel), codeAny_builtin F.entry_type_call ?_⟩
  rw [Around.under_plain (weight_type_call_type "set" [.ref a] []) rfl]
  repeat any_goals first | assumption | wp_step
  refine codeAny_mono (code_set_led1 (.ref a) (E := E) (Q₁ := fun v t => v = .ref s.heap.objs.size ∧ t = { s with heap := s.heap.push (newSet w) }) ⟨rfl, rfl⟩) ?_
  intro r t hr
  cases r with
  | error e => exact hr
  | ok fl =>
    cases fl with
    | ret v =>
      obtain ⟨e1, e2⟩ := hr
      subst e1 e2
      have at0 : (s.heap.push (newSet w)).get? s.heap.objs.size = some (newSet w) := Heap.get?_push_size _ rfl
      have ty0 : Shared.TypeIs { s with heap := s.heap.push (newSet w) } (.ref s.heap.objs.size) "set" := ⟨_, at0, rfl⟩
      have look := F.called_set.init.lookup; have bind := F.called_set.init.bind (.ref s.heap.objs.size)
      repeat any_goals first | assumption | wp_step
      let Made : Value → Shared → Prop := fun v t => v = .none ∧ ∃ g tk n, t = { s with heap := g, toks := tk } ∧ SetR w g s.heap.objs.size (fun j => decide (j ∈ ks)) n ∧ n ≤ ks.length ∧ ∀ b o, s.heap.get? b = some o → g.get? b = some o
      refine codeAny_mono (codeAny_call_builtin (R := wants Made E) F.called_set.init.plain F.entry_set_init (check_set_init_1 ty0 ?_)) ?_
      · obtain ⟨⟨ocls, odict, odata, osl⟩, h1, h2, n0, h3⟩ := ha
        dsimp only at h2 h3
        subst h2 h3
        have old : (s.heap.push (newSet w)).get? a = some ⟨.type "list", odict, .seq vs n0, osl⟩ := Heap.get?_push_of_some _ h1
        have sub1 := F.sub_list_set; have sub2 := F.sub_list_frozenset
        have noD : (Value.type "list" == Value.type "dict") = false := by decide
        have isl : (s.heap.push (newSet w)).IsList a vs := ⟨_, old, rfl, n0, rfl⟩
        unfold Builtin.«set.__init__» noKeywords Builtin.Frozenset.updateFrom
        generalize hit : pyIter = it
        wp_walk
        subst hit
        apply wpAny_pyIter_list isl
        apply wpAny_bind; apply wpAny_runValue
        have lt0 := Heap.lt_size h1
        have sz : (s.heap.push (newSet w)).objs.size = s.heap.objs.size + 1 := Heap.size_push ..
        have calm3 : A.in1.in1.in1.handled = none := by simp [calm]
        have ne1 : a ≠ (s.heap.push (newSet w)).objs.size := by rw [sz]; exact Nat.ne_of_lt (Nat.lt_succ_of_lt lt0)
        have out : s.heap.objs.size ∉ [(s.heap.push (newSet w)).objs.size, a] := by
          rw [sz]
          intro q
          rcases List.mem_cons.mp q with q | q
          · exact Nat.ne_of_lt (Nat.lt_succ_self _) q
          · exact Nat.ne_of_gt lt0 (List.mem_singleton.mp q)
        refine set_update_ints ((Walks.list calm3 _ a ne1 vs).toS) s.heap.objs.size out ks len room ?vals (vs.size - 0) 0 _ (by omega) (Nat.zero_le _) ⟨⟨_, Heap.get?_push_size _ rfl, rfl, rfl⟩, isl.push _⟩ ?first ?rest
        case vals =>
          intro i v hv
          have hi : i < ks.length := by rw [← len]; exact (Array.getElem?_eq_some_iff.mp hv).1
          have ⟨t, e⟩ := IntsAre.int_at hk i v (by rw [Array.getElem?_toList]; exact hv)
          refine ⟨ks[i], t, List.getElem?_eq_getElem hi, e.trans ?_⟩
          simp [List.getD_eq_getElem?_getD, hi]
        case first => exact ⟨0, Nat.le_refl 0, setR_new_at (Heap.get?_push_of_some _ at0)⟩
        case rest =>
          rintro ⟨g, gs, ds, tk, os⟩ n mv le R
          have z1 : gs = s.gens := mv.gens
          have z2 : ds = s.drawn := mv.drawn
          have z3 : os = s.os := mv.os
          subst z1 z2 z3
          show wpAny _ _ _ _ _ _
          apply wpAny_pure
          show wpAny _ _ (ret Value.none) _ _ _
          apply wpAny_pure
          refine ⟨rfl, g, tk, n, rfl, R, len ▸ le, fun b o e => mv.heap b o ?_ (Heap.get?_push_of_some _ (Heap.get?_push_of_some _ e))⟩
          have lb := Heap.lt_size e
          intro q
          rcases List.mem_cons.mp q with q | q
          · exact Nat.ne_of_lt lb q
          · have q := List.mem_singleton.mp q
            rw [sz] at q
            exact Nat.ne_of_lt (Nat.lt_succ_of_lt lb) q
      · intro r2 t2 hr2
        cases r2 with
        | error e => exact hr2
        | ok f2 =>
          cases f2 with
          | ret v2 =>
            obtain ⟨q1, g, tk, n, q2, R, le, keep⟩ := hr2
            subst q1 q2
            repeat any_goals first | assumption | wp_step
            exact next g tk n R le keep
          | _ => exact hr2.elim
    | _ => exact hr.elim
end
/-- set(xs) of ints -/
theorem call_set_ints {X : L2.Cx} (hc : X.calm = true) : CallR X (.type "set") (fun vs H Q => ∃ (a : Addr) (ks : List Int), vs = [.ref a] ∧ SqL X.K H a (ks.map V.int) ∧ ks.length ≤ 60 ∧ ∀ p n, n ≤ ks.length → H p = none → Q (.ref p) (upd H p (SetO X.w p (fun j => decide (j ∈ ks)) n))) := by
  intro pins s σ H vs us Q I r ⟨a, ks, e, hq, hl, q⟩
  subst e
  obtain ⟨u, rfl, ru⟩ := vals1 r
  obtain rfl : u = Value.ref a := ru
  obtain ⟨its, rv, pl, hz⟩ := I.list hq
  refine set_of_ints (vs := its.toArray) ks (I.ok.hd hc) pl.isList (by simpa using ints_of_vals rv) (by unfold scanBound; omega) fun g tk n R le keep => ?_
  exact ⟨.ref s.heap.objs.size, _, I.laid (a := s.heap.objs.size) (o := SetO X.w s.heap.objs.size (fun j => decide (j ∈ ks)) n) (t' := tk) keep (Nat.le_refl _) (setO_new R), rfl, q _ n le (I.hok.fresh (Nat.le_refl _))⟩
end Mi

set_option linter.all false
set_option autoImplicit false
set_option Elab.async false
set_option maxRecDepth 100000
set_option maxHeartbeats 4000000
/-! Mi5p: sorted(..) of whatever is collected; of sets of any size, of pairs in a list or tuple. -/
namespace Mi
open PySem L2 PySem.Spec PyProof.Rows Srt
section
variable {P : Program} {w : World} {A : Around} {E : Value → Shared → Prop} {s : Shared}
abbrev srtHeap (t : Shared) (vs : List Value) (out : List Value) : Heap := sortedHeap (t.heap.push (seqObj "list" vs.toArray 0)) t.heap.objs.size vs out.toArray
theorem sorted_any {a : Addr} {lt : Value → Value → Bool} {Q : Value → Shared → Prop} (O : SrtO.Swo lt) (G : List Value → Shared → Prop) (coll : wpAny (model P w) A.in1 (collect (.ref a)) G E s)
    (sz : ∀ vs t, G vs t → vs.length ≤ sizeLine)
    (can : ∀ vs t, G vs t → 2 ≤ vs.length → SrtO.SortableO P w A.in1.in1 { t with heap := t.heap.push (seqObj "list" vs.toArray 0) } t.heap.objs.size vs lt)
    (fin : ∀ vs t out, G vs t → SrtO.Srtd lt out → SrtO.Stb lt out vs → Q (.ref t.heap.objs.size) { t with heap := srtHeap t vs out }) : wpAny (model P w) A (call (.builtin "sorted") [.ref a]) Q E s := by
  refine Calls.call_function_entry kind_sorted plain_sorted entry_sorted (args_sorted1 _) (show wpAny _ _ (Builtin.«sorted» _) _ _ _ from ?_)
  unfold Builtin.«sorted»
  refine wpAny_bind (m := checkCount "sorted" 1 1 _) (wpAny_pure (wpAny_bind (wpAny_mono coll (fun vs t g => ?_) fun _ _ e => e)))
  have new : (t.heap.push (seqObj "list" vs.toArray 0)).get? t.heap.objs.size = some (seqObj "list" vs.toArray 0) := Heap.get?_push_size _ rfl
  refine wpAny_bind (wpAny_newList (wpAny_bind (wpAny_holding (wpAny_call_entry slot_list_sort ⟨_, new, rfl⟩ entry_list_sort (SrtO.list_sort_ord O new (sz vs t g) (can vs t g) fun out h1 h2 => ⟨_, rfl, ?_⟩) (args_list_sort _)))) (sz vs t g))
  exact wpAny_pure ⟨_, rfl, fin vs t out g h1 h2⟩
/-- what collect leaves of a list or tuple, with the heap's size -/
theorem collect_sq {Q : List Value → Shared → Prop} (l : Addr) {T : String} {o : Obj} {xs : Array Value} {n : Nat} (hT : T = "list" ∨ T = "tuple") (ho : s.heap.get? l = some o) (hc : o.cls = .type T) (hd : o.data = .seq xs n) (hz : xs.size ≤ sizeLine)
    (q : ∀ g : Heap, s.heap.objs.size ≤ g.objs.size → (∀ b u, s.heap.get? b = some u → g.get? b = some u) → Q xs.toList { s with heap := g }) : wpAny (model P w) A (collect (.ref l)) Q E s := by
  let e0 : Obj := { cls := .type "list", data := .seq ([] : List Value).toArray }
  let g : Heap := (s.heap.push e0).update s.heap.objs.size (Obj.mapSeq (· ++ xs))
  have at0 : (s.heap.push e0).get? s.heap.objs.size = some { cls := .type "list", data := .seq #[] 0 } := Heap.get?_push_size _ rfl
  have q' : Q xs.toList { s with heap := g } := q g (by show s.heap.objs.size ≤ ((s.heap.push e0).update _ _).objs.size; rw [Heap.size_update, size_push']; omega) fun b u e =>
    (Heap.get?_update_other _ _ (Nat.ne_of_gt (Heap.lt_size e))).trans (Heap.get?_push_of_some _ e)
  unfold collect
  refine wpAny_bind (wpAny_runValue (codeAny_builtin F.entry_proto_collect (?_ : wpAny _ _ (Builtin.«proto.collect» _) _ _ _)))
  rw [Around.under_plainId F.plain_proto_collect _]
  refine (show wpAny _ _ (newList [] >>= fun x => again (.builtin "list.__iadd__" ⟨[x, .ref l], []⟩)) _ _ s from wpAny_bind (wpAny_newObj_type (wpAny_pure ⟨plainId_quiet F.plain_list_iadd _, codeAny_builtin F.entry_list_iadd ?_⟩)))
  rw [Around.under_plainId F.plain_list_iadd _]
  refine (show wpAny _ _ (Builtin.List.listExtendWith (.ref s.heap.objs.size) (.ref l) (.ref s.heap.objs.size)) _ _ _ from ?_)
  have fin : wpAny (model P w) A (match Value.ref s.heap.objs.size with
      | Value.ref a => do
        match (← load a).data with
          | Data.seq ys _ => pure ys.toList
          | _ => unsupported "internal:collect"
      | _ => unsupported "internal:collect") Q E { s with heap := g } := by
    refine (show wpAny _ A (load s.heap.objs.size >>= _) _ _ _ from wpAny_bind (wpAny_load (Heap.get?_update_self (Obj.mapSeq (· ++ xs)) at0 rfl) (wpAny_pure ?_)))
    show Q ((#[] : Array Value) ++ xs).toList _
    rw [Array.empty_append]
    exact q'
  refine wpAny_mono (wpAny_extend_seq (hsz := hz) (R := fun r t => r = .ok (.ret (.ref s.heap.objs.size)) ∧ t = { s with heap := g }) (s := { s with heap := s.heap.push e0 }) _ l _ 0 hT at0 (Heap.get?_push_of_some _ ho) hc hd ⟨rfl, rfl⟩) (fun f t h => ?_) fun e t h => absurd h.1 (by simp)
  cases f with
  | again c => exact ⟨h.1, codeAny_mono h.2 fun r t hr => by obtain ⟨rfl, rfl⟩ := hr; exact fin⟩
  | done r =>
    obtain ⟨e, rfl⟩ := h
    cases e
    exact fin
theorem srtHeap_old {t : Shared} {vs out : List Value} {b : Addr} {o : Obj} (e : t.heap.get? b = some o) : (srtHeap t vs out).get? b = some o := by
  have lt := Heap.lt_size e
  unfold srtHeap
  rw [sortedHeap_old (Nat.ne_of_lt lt) (by rw [size_push']; exact Nat.lt_succ_of_lt lt)]
  exact Heap.get?_push_of_some _ e
theorem srtHeap_new (t : Shared) (vs out : List Value) : ∃ n, (srtHeap t vs out).get? t.heap.objs.size = some (seqObj "list" out.toArray n) := sortedHeap_at (n := 0) (Heap.get?_push_size _ rfl)
end
section
variable {X : L2.Cx}
/-- sorted(found), any number of members -/
def rSS (w : World) : List V → Hp → VK → Prop := fun vs H Q => ∃ (a : Addr) (S : Int → Bool) (n : Nat), vs = [V.ref a] ∧ H a = some (SetO w a S n) ∧ n ≤ 1000 ∧
  ∀ (ns : List Int) (p : Addr), ns.Pairwise (· < ·) → (∀ k : Int, k ∈ ns ↔ S k = true) → H p = none → Q (.ref p) (upd H p (.lst (ns.map V.int)))
theorem cr_ss (hc : X.calm = true) : CallR X (.builtin "sorted") (rSS X.w) := by
  intro pins s σ H vs us Q I r ⟨a, S, n, e, ha, small, q⟩
  subst e
  obtain ⟨o, es, ep, t, ho, hex, hd, g, nd, hm, hb, hf, hn, hr, hl⟩ := setO_get I ha
  rw [Vals.ref1 r]
  have hints : ∀ vs : List Value, vs.Perm (es.toList.map (·.2)) → IntsAre vs (vs.map Builtin.Re.reRawOf) ∧ (vs.map Builtin.Re.reRawOf).Perm (es.toList.map keyOf) ∧ vs.length = n := fun vs pm => by
    refine ⟨ints_of vs fun v hv => ?_, ?_, by rw [pm.length_eq, List.length_map, Array.length_toList]; exact hn⟩
    · obtain ⟨e, he, q⟩ := List.mem_map.mp (pm.mem_iff.mp hv)
      obtain ⟨k, tk, h1, _⟩ := g e he
      exact ⟨k, tk, q.symm.trans h1⟩
    · have q := pm.map Builtin.Re.reRawOf
      rwa [List.map_map] at q
  refine sorted_any SrtO.swo_int (fun vs s1 => (∀ b o, s.heap.get? b = some o → s1.heap.get? b = some o) ∧ s.heap.objs.size ≤ s1.heap.objs.size ∧ s1.gens = s.gens ∧ s1.os = s.os ∧ vs.Perm (es.toList.map (·.2)))
    (collect_set (A := X.A.in1) (I.ok.hd hc) ⟨o, ho, hex.1, hd⟩ hf hb hr hl fun s1 vs k1 hz g1 o1 pm => ⟨k1, hz, g1, o1, pm⟩) (fun vs s1 ⟨_, _, _, _, pm⟩ => ?_) (fun vs s1 ⟨_, _, _, _, pm⟩ h2 => SrtO.ints_sortable (hints vs pm).1 h2) ?_
  · rw [(hints vs pm).2.2, sizeLine_eq]; omega
  · intro vs s1 out ⟨k1, hz, g1, o1, pm⟩ h1 h2
    obtain ⟨i1, i2, i3⟩ := hints vs pm
    obtain ⟨j1, j2, j3⟩ := SrtO.ints_out i1 h1 h2
    obtain ⟨c, hcc⟩ := srtHeap_new s1 vs out
    have hn2 : H s1.heap.objs.size = none := I.hok.fresh hz
    have pn := j2.trans i2
    have len : (out.map SrtO.iv).length ≤ sizeLine := by rw [j2.length_eq, List.length_map, i3, sizeLine_eq]; omega
    have old : ∀ b o, s.heap.get? b = some o → (srtHeap s1 vs out).get? b = some o := fun b o e => srtHeap_old (k1 b o e)
    have J : Inv X pins σ (upd H s1.heap.objs.size (.lst ((out.map SrtO.iv).map V.int))) { s with heap := srtHeap s1 vs out, gens := s1.gens, drawn := s1.drawn, toks := s1.toks } :=
      I.call (ch := []) (Un.laid old hz hn2) (I.hok.laid old hz ⟨by rw [List.length_map]; exact len, out, c, vals_of_ints j1, hcc⟩) (by rw [g1]; exact I.bare) (fun _ z => nomatch z)
    have e : ({ s1 with heap := srtHeap s1 vs out } : Shared) = { s with heap := srtHeap s1 vs out, gens := s1.gens, drawn := s1.drawn, toks := s1.toks } := by
      cases s1; cases s; cases o1; rfl
    rw [e]
    exact ⟨.ref _, _, J, rfl, q _ _ (lt_of_le_nodup _ j3 (pn.nodup_iff.mpr nd)) (fun k => by rw [pn.mem_iff, ← hm k]) hn2⟩
/-- set(t), t a tuple of ints -/
theorem call_set_ints2 (hc : X.calm = true) : CallR X (.type "set") (fun vs H Q => ∃ (a : Addr) (ks : List Int), vs = [.ref a] ∧ SqT X.K H a (ks.map V.int) ∧ ks.length ≤ 1000 ∧ ∀ p n, n ≤ ks.length → H p = none → Q (.ref p) (upd H p (SetO X.w p (fun j => decide (j ∈ ks)) n))) := by
  intro pins s σ H vs us Q I r ⟨a, ks, e, hq, hl, q⟩
  subst e
  rw [Vals.ref1 r]
  obtain ⟨its, rv, pl, hz⟩ := I.tuple hq
  refine call_set_tupI ks (I.ok.hd hc) (show s.heap.IsTuple a its.toArray from pl) (by simpa using ints_of_vals rv) (by unfold scanBound; omega) fun g tk n R le keep => ?_
  exact ⟨.ref s.heap.objs.size, _, I.laid (a := s.heap.objs.size) (o := SetO X.w s.heap.objs.size (fun j => decide (j ∈ ks)) n) (t' := tk) keep (Nat.le_refl _) (setO_new R), rfl, q _ n le (I.hok.fresh (Nat.le_refl _))⟩
/-- pairs of ints, by values -/
def PrV (K : PySem.W.Frag) (H : Hp) : List V → List (Int × Int) → Prop
  | [], [] => True
  | x :: xs, p :: ps => (∃ t, x = V.ref t ∧ SqT K H t [.int p.1, .int p.2]) ∧ PrV K H xs ps
  | _, _ => False
/-- sorted(xs), xs a list or tuple of pairs -/
def rSP (K : PySem.W.Frag) : List V → Hp → VK → Prop := fun vs H Q => ∃ (a : Addr) (xs : List V) (ps : List (Int × Int)), vs = [V.ref a] ∧ (SqL K H a xs ∨ SqT K H a xs) ∧ PrV K H xs ps ∧
  ∀ (ys : List V) (qs : List (Int × Int)) (p : Addr), PrV K H ys qs → qs.Perm ps → qs.Pairwise (fun a b => SrtO.lexB b a = false) → H p = none → Q (.ref p) (upd H p (.lst ys))
theorem pair_inj {h : Heap} {v : Value} {x y x' y' : Int} (a : IsPair h v x y) (b : IsPair h v x' y') : x = x' ∧ y = y' := by
  obtain ⟨a1, o1, t1, u1, n1, e1, g1, c1, d1⟩ := a
  obtain ⟨a2, o2, t2, u2, n2, e2, g2, c2, d2⟩ := b
  rw [e1] at e2
  cases e2
  rw [g1] at g2
  cases g2
  rw [d1] at d2
  injection d2 with d3 _
  have d4 := congrArg Array.toList d3
  simp only [List.cons.injEq, Value.int.injEq, and_true] at d4
  exact ⟨d4.1.1, d4.2.1⟩
open Classical in
noncomputable def kPr (h : Heap) (v : Value) : Int × Int := if e : ∃ p : Int × Int, IsPair h v p.1 p.2 then Classical.choose e else (0, 0)
theorem kPr_of {h : Heap} {v : Value} {x y : Int} (a : IsPair h v x y) : kPr h v = (x, y) := by
  have e : ∃ p : Int × Int, IsPair h v p.1 p.2 := ⟨(x, y), a⟩
  unfold kPr
  rw [dif_pos e]
  obtain ⟨h1, h2⟩ := pair_inj (Classical.choose_spec e) a
  exact Prod.ext h1 h2
theorem prV_its {pins : List (Addr × Obj)} {σ : L2.St} {H : Hp} {s : Shared} (I : Inv X pins σ H s) : ∀ (xs : List V) (ps : List (Int × Int)) (its : List Value), PrV X.K H xs ps → Vals xs its →
    ps = its.map (kPr s.heap) ∧ ∀ v ∈ its, ∃ t, v = .ref t ∧ SqT X.K H t [.int (kPr s.heap v).1, .int (kPr s.heap v).2] ∧ IsPair s.heap v (kPr s.heap v).1 (kPr s.heap v).2
  | [], [], _, _, .nil => ⟨rfl, fun v hv => by cases hv⟩
  | x :: xs, p :: ps, _, h, .cons (b := v) (l₂ := vs) r1 r2 => by
    obtain ⟨⟨t, e, q⟩, hr⟩ := h
    subst e
    obtain rfl : v = Value.ref t := r1
    obtain ⟨e1, e2⟩ := prV_its I xs ps vs hr r2
    obtain ⟨its2, r3, ⟨o, ho, hc, n, hd⟩, _⟩ := I.tuple q
    obtain ⟨u1, u2, rfl, ⟨t1, rfl⟩, ⟨t2, rfl⟩⟩ := vals2 r3
    have ip : IsPair s.heap (.ref t) p.1 p.2 := ⟨t, o, t1, t2, n, rfl, ho, hc, hd⟩
    have ek := kPr_of ip
    refine ⟨by rw [List.map_cons, ek, ← e1], fun v hv => ?_⟩
    rcases List.mem_cons.mp hv with rfl | hv
    · rw [ek]; exact ⟨t, rfl, q, ip⟩
    · exact e2 v hv
  | [], _ :: _, _, h, _ => h.elim
  | _ :: _, [], _, h, _ => h.elim
theorem prV_back {K : PySem.W.Frag} {H : Hp} {k : Value → Int × Int} : ∀ out : List Value, (∀ v ∈ out, ∃ t, v = .ref t ∧ SqT K H t [.int (k v).1, .int (k v).2]) → PrV K H (out.map backV) (out.map k)
  | [], _ => trivial
  | v :: out, h => by
    obtain ⟨t, rfl, q⟩ := h v List.mem_cons_self
    exact ⟨⟨t, rfl, q⟩, prV_back out fun u hu => h u (List.mem_cons_of_mem _ hu)⟩
theorem cr_sp : CallR X (.builtin "sorted") (rSP X.K) := by
  intro pins s σ H vs us Q I r ⟨a, xs, ps, e, hs, hx, q⟩
  subst e
  rw [Vals.ref1 r]
  obtain ⟨its, rv, hz, T, hT, o, n, ho, hc, hd⟩ : ∃ its : List Value, Vals xs its ∧ xs.length ≤ sizeLine ∧ ∃ T, (T = "list" ∨ T = "tuple") ∧ ∃ o n, s.heap.get? a = some o ∧ o.cls = .type T ∧ o.data = .seq its.toArray n := by
    rcases hs with hs | hs
    · obtain ⟨its, rv, ⟨o, n, ho, hc, _, hd⟩, hz⟩ := I.list hs
      exact ⟨its, rv, hz, "list", .inl rfl, o, n, ho, hc, hd⟩
    · obtain ⟨its, rv, ⟨o, ho, hc, n, hd⟩, hz⟩ := I.tuple hs
      exact ⟨its, rv, hz, "tuple", .inr rfl, o, n, ho, hc, hd⟩
  obtain ⟨e1, e2⟩ := prV_its I xs ps its hx rv
  have hlen : its.length ≤ sizeLine := by rw [← rv.length]; exact hz
  refine sorted_any (SrtO.swo_lex (kPr s.heap)) (fun vs s1 => vs = its ∧ (∀ b o, s.heap.get? b = some o → s1.heap.get? b = some o) ∧ s.heap.objs.size ≤ s1.heap.objs.size ∧ s1 = { s with heap := s1.heap })
    (collect_sq (A := X.A.in1) a hT ho hc hd (by simpa using hlen) fun g z k => ⟨by simp, k, z, rfl⟩) (fun vs s1 g => by rw [g.1]; exact hlen) (fun vs s1 ⟨g1, g2, _, g3⟩ h2 => ?_) (fun vs s1 out ⟨g1, g2, hz1, g3⟩ h1 h2 => ?_)
  · subst g1
    refine SrtO.pairs_sortableO (by omega) (fun v hv => ?_) fun o e => ?_
    · obtain ⟨t, _, _, ip⟩ := e2 v hv
      exact ip.keeps fun b o e _ => Heap.get?_push_of_some _ (g2 b o e)
    · have e' : (s1.heap.push (seqObj "list" vs.toArray 0)).get? s1.heap.objs.size = some (seqObj "list" vs.toArray 0) := Heap.get?_push_size _ rfl
      rw [e'] at e
      cases e
      intro c
      exact absurd (Value.type.inj c) (by decide)
  · subst g1
    have hm : ∀ v ∈ out, ∃ t, v = .ref t ∧ SqT X.K H t [.int (kPr s.heap v).1, .int (kPr s.heap v).2] := fun v hv => by
      obtain ⟨t, a1, a2, _⟩ := e2 v (h2.perm.mem_iff.mp hv)
      exact ⟨t, a1, a2⟩
    have hn2 : H s1.heap.objs.size = none := I.hok.fresh hz1
    obtain ⟨c, hcc⟩ := srtHeap_new s1 vs out
    have old : ∀ b o, s.heap.get? b = some o → (srtHeap s1 vs out).get? b = some o := fun b o e => srtHeap_old (g2 b o e)
    have e : ({ s1 with heap := srtHeap s1 vs out } : Shared) = { s with heap := srtHeap s1 vs out } := by
      rw [g3]
    rw [e]
    refine ⟨.ref _, upd H s1.heap.objs.size (.lst (out.map backV)), I.laid (t' := s.toks) old hz1 ⟨?_, out, c, vals_back (fun u hu => (hm u hu).imp fun t h => h.1), hcc⟩, rfl, q _ (out.map (kPr s.heap)) _ (prV_back out hm) ?_ ?_ hn2⟩
    · rw [List.length_map, h2.perm.length_eq]; exact hlen
    · rw [e1]; exact h2.perm.map _
    · rw [List.pairwise_map]; exact h1
/-- sorted(xs), xs a list or tuple of ints -/
def rSN (K : PySem.W.Frag) : List V → Hp → VK → Prop := fun vs H Q => ∃ (a : Addr) (is : List Int), vs = [V.ref a] ∧ (SqL K H a (is.map V.int) ∨ SqT K H a (is.map V.int)) ∧
  ∀ (js : List Int) (p : Addr), js.Perm is → js.Pairwise (· ≤ ·) → H p = none → Q (.ref p) (upd H p (.lst (js.map V.int)))
theorem cr_sn : CallR X (.builtin "sorted") (rSN X.K) := by
  intro pins s σ H vs us Q I r ⟨a, is, e, hs, q⟩
  subst e
  rw [Vals.ref1 r]
  obtain ⟨its, rv, hz, T, hT, o, n, ho, hc, hd⟩ : ∃ its : List Value, Vals (is.map V.int) its ∧ (is.map V.int).length ≤ sizeLine ∧ ∃ T, (T = "list" ∨ T = "tuple") ∧ ∃ o n, s.heap.get? a = some o ∧ o.cls = .type T ∧ o.data = .seq its.toArray n := by
    rcases hs with hs | hs
    · obtain ⟨its, rv, ⟨o, n, ho, hc, _, hd⟩, hz⟩ := I.list hs
      exact ⟨its, rv, hz, "list", .inl rfl, o, n, ho, hc, hd⟩
    · obtain ⟨its, rv, ⟨o, ho, hc, n, hd⟩, hz⟩ := I.tuple hs
      exact ⟨its, rv, hz, "tuple", .inr rfl, o, n, ho, hc, hd⟩
  have hi := ints_of_vals rv
  have hlen : its.length ≤ sizeLine := by rw [← rv.length]; exact hz
  refine sorted_any SrtO.swo_int (fun vs s1 => vs = its ∧ (∀ b o, s.heap.get? b = some o → s1.heap.get? b = some o) ∧ s.heap.objs.size ≤ s1.heap.objs.size ∧ s1 = { s with heap := s1.heap })
    (collect_sq (A := X.A.in1) a hT ho hc hd (by simpa using hlen) fun g z k => ⟨by simp, k, z, rfl⟩) (fun vs s1 g => by rw [g.1]; exact hlen) (fun vs s1 ⟨g1, g2, _, g3⟩ h2 => by rw [g1] at h2 ⊢; exact SrtO.ints_sortable hi h2) (fun vs s1 out ⟨g1, g2, hz1, g3⟩ h1 h2 => ?_)
  subst g1
  obtain ⟨j1, j2, j3⟩ := SrtO.ints_out hi h1 h2
  have hn2 : H s1.heap.objs.size = none := I.hok.fresh hz1
  obtain ⟨c, hcc⟩ := srtHeap_new s1 vs out
  have old : ∀ b o, s.heap.get? b = some o → (srtHeap s1 vs out).get? b = some o := fun b o e => srtHeap_old (g2 b o e)
  have e : ({ s1 with heap := srtHeap s1 vs out } : Shared) = { s with heap := srtHeap s1 vs out } := by
    rw [g3]
  rw [e]
  refine ⟨.ref _, upd H s1.heap.objs.size (.lst ((out.map SrtO.iv).map V.int)), I.laid (t' := s.toks) old hz1 ⟨?_, out, c, vals_of_ints j1, hcc⟩, rfl, q (out.map SrtO.iv) _ j2 j3 hn2⟩
  rw [List.length_map, j2.length_eq]
  rw [List.length_map] at hz
  exact hz
def rSO (K : PySem.W.Frag) : List V → Hp → VK → Prop := fun vs H Q => rSP K vs H Q ∨ rSN K vs H Q
theorem cr_so : CallR X (.builtin "sorted") (rSO X.K) := by
  intro pins s σ H vs us Q I r h
  rcases h with h | h
  · exact cr_sp pins s σ H vs us Q I r h
  · exact cr_sn pins s σ H vs us Q I r h
end
end Mi

set_option linter.all false
set_option autoImplicit false
set_option Elab.async false
set_option maxRecDepth 100000
set_option maxHeartbeats 4000000
/-! Mi6: readings of targets, of what is walked, of comprehensions and loops. -/
namespace Mi
open PySem L2
section
variable {K : PySem.W.Frag} {γ δ : Type} {B : Hp → List Addr → γ → δ → Prop} {τ : St} {H : Hp} {Q : δ → Hp → Prop}
/-- two parts in a row -/
theorem rd2 {F G : Sl → M → R D} {k : D → D → M → R γ} (h : Rd K B (fun σ m => (F σ m).bind fun a m1 => (G σ m1).bind fun b m2 => k a b m2) τ H Q) :
    Pd K F τ H fun x H1 => Pd K G τ H1 fun y H2 => ∃ ρ σ m a b, Rel K H2 ρ m ∧ RS K H2 ρ σ τ ∧ RV K H2 ρ a x ∧ RV K H2 ρ b y ∧ GF K B Q H2 ρ (k a b m) := by
  refine Rd.bind (A := RV K) h fun x H1 ρ1 σ m1 a rel rs rv h1 => ⟨ρ1, σ, m1, rel, rs, GF.mono (GF.bind (A := RV K) h1) ?_⟩
  rintro y H2 ⟨ρ2, m2, b, ext, rel2, rv2, h2⟩
  exact ⟨ρ2, σ, m2, a, b, rel2, rs.ext rel ext, RV.ext rel ext _ _ rv, rv2, h2⟩
theorem rd2' {F G : Sl → M → R D} {g : D → D → M → R D} {Q : VK} (h : Pd K (fun σ m => (F σ m).bind fun a m1 => (G σ m1).bind fun b m2 => g a b m2) τ H Q) :
    Pd K F τ H fun x H1 => Pd K G τ H1 fun y H2 => R2m K g x y H2 Q := by
  obtain ⟨ρ, σ, m, rel, rs, h⟩ := rd2 (k := g) h
  refine ⟨ρ, σ, m, rel, rs, GF.mono h fun x H1 h => ?_⟩
  obtain ⟨ρ, σ, m, rel, rs, h⟩ := h
  refine ⟨ρ, σ, m, rel, rs, GF.mono h fun y H2 h => ?_⟩
  obtain ⟨ρ, σ, m, a, b, rel, rs, ra, rb, h⟩ := h
  exact ⟨ρ, m, a, b, rel, ra, rb, h⟩
end
section
variable {X : L2.Cx} {a b c : Expr} {Fa Fb Fc : Sl → M → R D} {pos : Pos}
theorem pBin {op : Operator} {g : D → D → M → R D} (ho : OpR X (binaryOp op) (R2m X.K g)) (ha : PE X a (Pd X.K Fa)) (hb : PE X b (Pd X.K Fb)) :
    PE X (.BinOp a op b pos) (Pd X.K fun σ m => (Fa σ m).bind fun x m1 => (Fb σ m1).bind fun y m2 => g x y m2) := PE.imp (pe_op ho ha hb) fun τ H Q h => rd2' h
theorem pCmp {op : CmpOp} {g : D → D → M → R D} (ho : OpR X (compareOp op) (R2m X.K g)) (ha : PE X a (Pd X.K Fa)) (hb : PE X b (Pd X.K Fb)) (hm : behindInMarks op b = false) :
    PE X (.Compare a [op] [b] pos) (Pd X.K fun σ m => (Fa σ m).bind fun x m1 => (Fb σ m1).bind fun y m2 => g x y m2) := PE.imp (pe_cmpR ho ha hb hm) fun τ H Q h => rd2' h
theorem pIx (hu : X.A.units + 65 < cLine) (ha : PE X a (Pd X.K Fa)) (hb : PE X b (Pd X.K Fb)) (hs : PlainIx b) :
    PE X (.Subscript a b pos) (Pd X.K fun σ m => (Fa σ m).bind fun x m1 => (Fb σ m1).bind fun y m2 => ixD x y m2) := PE.imp (pe_ix (oIx hu) ha hb hs) fun τ H Q h => rd2' h
/-- the value's truth, in its reading -/
theorem tru_rd {K : PySem.W.Frag} {γ δ : Type} {B : Hp → List Addr → γ → δ → Prop} {H : Hp} {ρ : List Addr} {m : M} {d : D} {v : V} {Q : δ → Hp → Prop} {k : Bool → M → R γ} (r : Rel K H ρ m) (hv : RV K H ρ d v) (h : GF K B Q H ρ ((tru d m).bind k)) :
    ∃ b, TruV K v H b ∧ truth d m = some b ∧ GF K B Q H ρ (k b m) := by
  unfold tru at h
  cases e : truth d m with
  | none => rw [e] at h; exact h.elim
  | some b =>
    rw [e] at h
    exact ⟨b, tru_V r hv e, rfl, h⟩
theorem pTru (ha : PE X a (Pd X.K Fa)) (he : ∀ whole, isTrue a X.env whole = (do let v ← whole; standAt a.pos; holding [v] (truthy v))) : PT X a (Pt X.K fun σ m => (Fa σ m).bind tru) := by
  refine PT.imp (pt_truth ha he) fun τ H Q h => ?_
  refine Rd.bind (A := RV X.K) (G := fun _ => tru) h fun x H1 ρ1 σ m1 d rel rs rv h1 => ?_
  obtain ⟨b, h2, h3, h4⟩ := tru_rd (B := EqA) (k := fun b m => .ok b m) rel rv (show GF X.K EqA Q H1 ρ1 ((tru d m1).bind fun b m => .ok b m) by
    unfold tru at h1 ⊢
    split at h1 <;> exact h1)
  exact ⟨b, h2, h4 H1 ρ1 b (Ext.refl _ _) rel rfl⟩
theorem pNeg (ha : PE X a (Pd X.K Fa)) : PE X (.UnaryOp .USub a pos) (Pd X.K fun σ m => (Fa σ m).bind fun x m1 => negD x m1) := by
  refine PE.imp (pe_un un_neg ha) fun τ H Q h => ?_
  refine Rd.bind (A := RV X.K) (G := fun _ x m1 => negD x m1) h fun x H1 ρ1 σ m1 d rel rs rv h1 => ?_
  cases d with
  | int i =>
    obtain rfl := rv_int rv
    exact ⟨i, rfl, gf_ok h1 rel (rvI _)⟩
  | _ => exact h1.elim
theorem pNot (ha : PE X a (Pd X.K Fa)) : PE X (.UnaryOp .Not a pos) (Pd X.K fun σ m => ((Fa σ m).bind tru).bind fun b m1 => .ok (.bl (!b)) m1) := by
  refine PE.imp (pe_notT ha) fun τ H Q h => ?_
  obtain ⟨ρ, σ, m, rel, rs, h⟩ := h
  refine ⟨ρ, σ, m, rel, rs, ?_⟩
  dsimp only at h
  cases e : Fa σ m with
  | ok d m1 =>
    rw [e] at h
    intro H1 ρ1 x ext rel1 rv
    have h := GF.later h ext
    obtain ⟨b, h2, _, h4⟩ := tru_rd (B := RV X.K) (k := fun b m1 => .ok (.bl (!b)) m1) rel1 rv h
    exact ⟨b, h2, gf_ok h4 rel1 (rvB _)⟩
  | exc => rw [e] at h; exact h.elim
  | bad => rw [e] at h; exact h.elim
theorem pAnd {rest : List Expr} (ha : PE X a (Pd X.K Fa)) (hb : PE X (.BoolOp .And (b :: rest) pos) (Pd X.K Fb)) :
    PE X (.BoolOp .And (a :: b :: rest) pos) (Pd X.K fun σ m => (Fa σ m).bind fun x m1 => (tru x m1).bind fun k m2 => if k = true then Fb σ m2 else .ok x m2) := by
  refine PE.imp (pe_andT ha hb) fun τ H Q h => ?_
  refine Rd.bind (A := RV X.K) (G := fun σ x m1 => (tru x m1).bind fun k m2 => if k = true then Fb σ m2 else .ok x m2) h fun x H1 ρ1 σ m1 d rel rs rv h1 => ?_
  obtain ⟨k, h2, _, h4⟩ := tru_rd rel rv h1
  refine ⟨k, h2, ?_⟩
  cases k with
  | true => exact ⟨ρ1, σ, m1, rel, rs, h4⟩
  | false => exact gf_ok h4 rel rv
theorem pOr {rest : List Expr} (ha : PE X a (Pd X.K Fa)) (hb : PE X (.BoolOp .Or (b :: rest) pos) (Pd X.K Fb)) :
    PE X (.BoolOp .Or (a :: b :: rest) pos) (Pd X.K fun σ m => (Fa σ m).bind fun x m1 => (tru x m1).bind fun k m2 => if k = true then .ok x m2 else Fb σ m2) := by
  refine PE.imp (pe_orT ha hb) fun τ H Q h => ?_
  refine Rd.bind (A := RV X.K) (G := fun σ x m1 => (tru x m1).bind fun k m2 => if k = true then .ok x m2 else Fb σ m2) h fun x H1 ρ1 σ m1 d rel rs rv h1 => ?_
  obtain ⟨k, h2, _, h4⟩ := tru_rd rel rv h1
  refine ⟨k, h2, ?_⟩
  cases k with
  | false => exact ⟨ρ1, σ, m1, rel, rs, h4⟩
  | true => exact gf_ok h4 rel rv
theorem pIfe {Ft : Sl → M → R Bool} (hc : PT X c (Pt X.K Ft)) (ha : PE X a (Pd X.K Fa)) (hb : PE X b (Pd X.K Fb)) :
    PE X (.IfExp c a b pos) (Pd X.K fun σ m => (Ft σ m).bind fun k m1 => if k = true then Fa σ m1 else Fb σ m1) := by
  refine PE.imp (pe_ifExp hc ha hb) fun τ H Q h => ?_
  refine Rd.bind (A := EqA) (G := fun σ k m1 => if k = true then Fa σ m1 else Fb σ m1) h fun k H1 ρ1 σ m1 d rel rs e h1 => ?_
  have e : k = d := e
  subst e
  cases k with
  | true => exact ⟨ρ1, σ, m1, rel, rs, h1⟩
  | false => exact ⟨ρ1, σ, m1, rel, rs, h1⟩
/-! ### tests -/
variable {Ta Tb : Sl → M → R Bool}
theorem tAnd1 {rest : List Expr} (ha : PT X a (Pt X.K Ta)) (hb : PW X (.BoolOp .And (b :: rest) pos) (Pt X.K Tb)) :
    PW X (.BoolOp .And (a :: b :: rest) pos) (Pt X.K fun σ m => (Ta σ m).bind fun k m1 => if k = true then Tb σ m1 else .ok false m1) := by
  refine ⟨fun wh pins s σ H Q I h => (pw_and ha hb).run wh pins s σ H Q I ?_⟩
  refine Rd.bind (A := EqA) (G := fun σ k m1 => if k = true then Tb σ m1 else .ok false m1) h fun k H1 ρ1 σ m1 d rel rs e h1 => ?_
  have e : k = d := e
  subst e
  cases k with
  | true => exact ⟨ρ1, σ, m1, rel, rs, h1⟩
  | false => exact h1 H1 ρ1 false (Ext.refl _ _) rel rfl
theorem tOr1 {rest : List Expr} (ha : PT X a (Pt X.K Ta)) (hb : PW X (.BoolOp .Or (b :: rest) pos) (Pt X.K Tb)) :
    PW X (.BoolOp .Or (a :: b :: rest) pos) (Pt X.K fun σ m => (Ta σ m).bind fun k m1 => if k = true then .ok true m1 else Tb σ m1) := by
  refine ⟨fun wh pins s σ H Q I h => (pw_or ha hb).run wh pins s σ H Q I ?_⟩
  refine Rd.bind (A := EqA) (G := fun σ k m1 => if k = true then .ok true m1 else Tb σ m1) h fun k H1 ρ1 σ m1 d rel rs e h1 => ?_
  have e : k = d := e
  subst e
  cases k with
  | false => exact ⟨ρ1, σ, m1, rel, rs, h1⟩
  | true => exact h1 H1 ρ1 true (Ext.refl _ _) rel rfl
theorem tNot1 (ha : PT X a (Pt X.K Ta)) : PT X (.UnaryOp .Not a pos) (Pt X.K fun σ m => (Ta σ m).bind fun k m1 => .ok (!k) m1) := by
  refine PT.imp (pt_not ha) fun τ H Q h => ?_
  refine Rd.bind (A := EqA) (G := fun σ k m1 => .ok (!k) m1) h fun k H1 ρ1 σ m1 d rel rs e h1 => ?_
  have e : k = d := e
  subst e
  exact h1 H1 ρ1 _ (Ext.refl _ _) rel rfl
/-- a comparison's bool as a test's -/
def asB (z : D) (m : M) : R Bool := match z with
  | .bl k => .ok k m
  | _ => .bad
theorem asB_rd {K : PySem.W.Frag} {H : Hp} {ρ : List Addr} {m : M} {d : D} {v : V} {Q : Bool → Hp → Prop} (r : Rel K H ρ m) (hv : RV K H ρ d v) (h : GF K EqA Q H ρ (asB d m)) : ∃ k, v = .bl k ∧ Q k H := by
  cases d with
  | bl k =>
    obtain rfl := rv_bl hv
    exact ⟨k, rfl, h H ρ k (Ext.refl _ _) r rfl⟩
  | _ => exact h.elim
theorem R2m.mono {K : PySem.W.Frag} {g : D → D → M → R D} {x y : V} {H : Hp} {Q Q' : VK} (h : R2m K g x y H Q) (i : ∀ v H, Q v H → Q' v H) : R2m K g x y H Q' := by
  obtain ⟨ρ, m, a, b, rel, ra, rb, h⟩ := h
  exact ⟨ρ, m, a, b, rel, ra, rb, GF.mono h i⟩
theorem tCmp1 {op : CmpOp} {g : D → D → M → R D} (ho : OpR X (compareOp op) (R2m X.K g)) (ha : PE X a (Pd X.K Fa)) (hb : PE X b (Pd X.K Fb)) (hm : behindInMarks op b = false) :
    PT X (.Compare a [op] [b] pos) (Pt X.K fun σ m => (Fa σ m).bind fun x m1 => (Fb σ m1).bind fun y m2 => (g x y m2).bind asB) := by
  refine PT.imp (pt_cmpR ho ha hb hm) fun τ H Q h => ?_
  obtain ⟨ρ, σ, m, rel, rs, h⟩ := rd2 (k := fun x y m2 => (g x y m2).bind asB) h
  refine ⟨ρ, σ, m, rel, rs, GF.mono h fun x H1 h => ?_⟩
  obtain ⟨ρ, σ, m, rel, rs, h⟩ := h
  refine ⟨ρ, σ, m, rel, rs, GF.mono h fun y H2 h => ?_⟩
  obtain ⟨ρ, σ, m, a, b, rel, rs, ra, rb, h⟩ := h
  refine ⟨ρ, m, a, b, rel, ra, rb, GF.mono (GF.bind (A := RV X.K) h) ?_⟩
  rintro z H3 ⟨ρ3, m3, d, ext, rel3, rv3, h3⟩
  exact asB_rd rel3 rv3 h3
/-- two comparisons in a chain -/
theorem pCh {op op' : CmpOp} {g g' : D → D → M → R D} (ho : OpR X (compareOp op) (R2m X.K g)) (ho' : OpR X (compareOp op') (R2m X.K g')) (ha : PE X a (Pd X.K Fa)) (hb : PE X b (Pd X.K Fb)) (hc : PE X c (Pd X.K Fc)) (hm : lastMarks [op, op'] [b, c] = false) :
    PE X (.Compare a [op, op'] [b, c] pos) (Pd X.K fun σ m => (Fa σ m).bind fun x m1 => (Fb σ m1).bind fun y m2 => (g x y m2).bind fun z m3 => chD z m3 fun m3 => (Fc σ m3).bind fun w m4 => g' y w m4) := by
  refine PE.imp (pe_chain ho ho' ha hb hc hm) fun τ H Q h => ?_
  refine Rd.bind (A := RV X.K) (G := fun σ x m1 => (Fb σ m1).bind fun y m2 => (g x y m2).bind fun z m3 => chD z m3 fun m3 => (Fc σ m3).bind fun w m4 => g' y w m4) h fun x H1 ρ1 σ m1 a rel rs rv h1 => ⟨ρ1, σ, m1, rel, rs, GF.mono (GF.bind (A := RV X.K) h1) ?_⟩
  rintro y H2 ⟨ρ2, m2, b, ext, rel2, rv2, h2⟩
  refine ⟨ρ2, m2, a, b, rel2, RV.ext rel ext _ _ rv, rv2, GF.mono (GF.bind (A := RV X.K) h2) ?_⟩
  rintro z H3 ⟨ρ3, m3, d, ext3, rel3, rv3, h3⟩
  cases d with
  | bl k =>
    obtain rfl := rv_bl rv3
    refine ⟨k, rfl, ?_⟩
    cases k with
    | false => exact gf_ok h3 rel3 (rvB _)
    | true =>
      refine ⟨ρ3, σ, m3, rel3, (rs.ext rel ext).ext rel2 ext3, GF.mono (GF.bind (A := RV X.K) h3) ?_⟩
      rintro w H4 ⟨ρ4, m4, e, ext4, rel4, rv4, h4⟩
      exact ⟨ρ4, m4, b, e, rel4, RV.ext rel3 ext4 _ _ (RV.ext rel2 ext3 _ _ rv2), rv4, h4⟩
  | _ => exact h3.elim
/-! ### arguments, displays, calls -/
theorem aNil : PA X [] (Pa X.K fun _ m => .ok [] m) := by
  refine PA.imp pa_nil fun τ H Q h => ?_
  obtain ⟨ρ, σ, m, rel, rs, h⟩ := h
  exact h H ρ [] (Ext.refl _ _) rel RVs.nil
theorem aCons {es : List Expr} {Fs : Sl → M → R (List D)} (ha : PE X a (Pd X.K Fa)) (hr : PA X es (Pa X.K Fs)) (hs : starEach (a :: es) X.env = (false, eval a X.env) :: starEach es X.env) :
    PA X (a :: es) (Pa X.K fun σ m => (Fa σ m).bind fun d m1 => (Fs σ m1).bind fun ds m2 => .ok (d :: ds) m2) := by
  refine PA.imp (pa_cons ha hr hs) fun τ H Q h => ?_
  refine Rd.bind (A := RV X.K) (G := fun σ d m1 => (Fs σ m1).bind fun ds m2 => .ok (d :: ds) m2) h fun x H1 ρ1 σ m1 d rel rs rv h1 => ⟨ρ1, σ, m1, rel, rs, GF.mono (GF.bind (A := RVs X.K) h1) ?_⟩
  rintro y H2 ⟨ρ2, m2, ds, ext, rel2, rv2, h2⟩
  exact h2 H2 ρ2 _ (Ext.refl _ _) rel2 (RVs.cons (RV.ext rel ext _ _ rv) rv2)
theorem PA.hok {es : List Expr} {t : TA} (h : PA X es t) : PA X es (fun σ H Q => t σ H fun vs H' => (∃ hh, HOk X.prog X.w H' hh) → Q vs H') := ⟨fun pos pins s σ H Q I q =>
  thn (h.run pos pins s σ H _ I q) fun u s1 ⟨v, H1, I1, r1, q1⟩ => ⟨v, H1, I1, r1, q1 ⟨s1.heap, I1.hok⟩⟩⟩
theorem PE.hok {e : Expr} {t : TE} (h : PE X e t) : PE X e (fun σ H Q => t σ H fun v H' => (∃ hh, HOk X.prog X.w H' hh) → Q v H') := ⟨fun pins s σ H Q I q =>
  thn (h.run pins s σ H _ I q) fun u s1 ⟨v, H1, I1, r1, q1⟩ => ⟨v, H1, I1, r1, q1 ⟨s1.heap, I1.hok⟩⟩⟩
theorem pTup {es : List Expr} {Fs : Sl → M → R (List D)} {x1 : Nat} (h : PA X es (Pa X.K Fs)) (hl : ∀ σ m ds m1, Fs σ m = .ok ds m1 → ds.length ≤ sizeLine) : PE X (.Tuple es x1 pos) (Pd X.K fun σ m => (Fs σ m).bind fun ds m1 => .ok (.tup ds) m1) := by
  refine PE.imp (pe_tup h) fun τ H Q q => ?_
  obtain ⟨ρ, σ, m, rel, rs, q⟩ := q
  refine ⟨ρ, σ, m, rel, rs, ?_⟩
  dsimp only at q
  cases e : Fs σ m with
  | ok ds m1 =>
    rw [e] at q
    intro H1 ρ1 vs ext rel1 rv
    have q := GF.later q ext
    exact ⟨by rw [← RVs.length _ _ rv]; exact hl _ _ _ _ e, fun p hp => gf_tup q rel1 rv hp⟩
  | exc => rw [e] at q; exact q.elim
  | bad => rw [e] at q; exact q.elim
/-- a display of a list: not ours yet -/
theorem lLst {es : List Expr} {Fs : Sl → M → R (List D)} (h : PA X es (Pa X.K Fs)) (hl : ∀ σ m ds m1, Fs σ m = .ok ds m1 → ds.length ≤ sizeLine) : PE X (.List es pos) (Pl X.K Fs) := by
  refine PE.imp (pe_lst h) fun τ H Q q => ?_
  obtain ⟨ρ, σ, m, rel, rs, q⟩ := q
  refine ⟨ρ, σ, m, rel, rs, ?_⟩
  cases e : Fs σ m with
  | ok ds m1 =>
    rw [e] at q
    intro H1 ρ1 vs ext rel1 rv
    refine ⟨by rw [← RVs.length _ _ rv]; exact hl _ _ _ _ e, fun p hp => ?_⟩
    exact q _ ρ1 p vs (ext.trans (Ext.laid rel1 hp)) (Rel.laid rel1 hp) (Ext.nofree rel1 ext hp) upd_same (RVs.ext rel1 (Ext.laid rel1 hp) _ _ rv) (rel1.free hp)
  | exc => rw [e] at q; exact q.elim
  | bad => rw [e] at q; exact q.elim
/-- a list that is not ours becomes ours -/
theorem Ext.take {H : Hp} {ρ : List Addr} {p : Addr} {H0 : Hp} {ρ0 : List Addr} (x : Ext H0 ρ0 H ρ) (hp : H0 p = none) : Ext H0 ρ0 H (ρ ++ [p]) :=
  ⟨x.pre.trans (List.prefix_append _ _), x.keep, fun a o h hm => by
    rcases List.mem_append.mp hm with q | q
    · exact x.new a o h q
    · have e : a = p := by simpa using q
      rw [e, hp] at h
      cases h⟩
theorem Rel.take {K : PySem.W.Frag} {H : Hp} {ρ : List Addr} {m : M} {p : Addr} {xs : List D} {vs : List V} (r : Rel K H ρ m) (hp : H p = some (.lst vs)) (n : p ∉ ρ) (rv : RVs K H ρ xs vs) : Rel K H (ρ ++ [p]) (m ++ [.lst xs]) := by
  have x : Ext (fun a => if a = p then none else H a) ρ H ρ := ⟨List.prefix_refl _, fun a o h _ => by
    by_cases e : a = p
    · rw [if_pos e] at h; cases h
    · rw [if_neg e] at h; exact h, fun _ _ _ h => h⟩
  have up : ∀ (d : D) (v : V), RV K H ρ d v → RV K H (ρ ++ [p]) d v := fun d v h => RV.up (List.prefix_append _ _) d v h
  refine ⟨by simp [r.len], ?_, fun l w e => ?_⟩
  · rw [List.nodup_append]
    refine ⟨r.nd, by simp, fun a ha b hb => ?_⟩
    have e : b = p := by simpa using hb
    rintro rfl
    exact n (e ▸ ha)
  · by_cases hl : l < m.length
    · rw [List.getElem?_append_left hl] at e
      obtain ⟨a, ha, r2⟩ := r.ob l w e
      refine ⟨a, prefix_get (List.prefix_append _ _) ha, ?_⟩
      cases w with
      | lst ys =>
        obtain ⟨ws, h1, h2⟩ := r2
        exact ⟨ws, h1, RVs.up (List.prefix_append _ _) _ _ h2⟩
      | dic ys =>
        obtain ⟨ws, h1, h2⟩ := r2
        exact ⟨ws, h1, RKs.up (List.prefix_append _ _) _ _ h2⟩
    · rw [List.getElem?_append_right (by omega)] at e
      have h0 : l - m.length = 0 := by
        by_cases q : l - m.length = 0
        · exact q
        · rw [List.getElem?_eq_none (by simp; omega)] at e
          cases e
      rw [h0] at e
      cases e
      refine ⟨p, ?_, vs, hp, RVs.up (List.prefix_append _ _) _ _ rv⟩
      have : l = ρ.length := by rw [r.len]; omega
      rw [this]
      simp
theorem pAlloc {F : Sl → M → R (List D)} (h : PE X a (Pl X.K F)) : PE X a (Pd X.K fun σ m => (F σ m).bind fun xs m1 => alloc xs m1) := by
  refine PE.imp h fun τ H Q q => ?_
  obtain ⟨ρ, σ, m, rel, rs, q⟩ := q
  refine ⟨ρ, σ, m, rel, rs, ?_⟩
  dsimp only at q
  cases e : F σ m with
  | ok xs m1 =>
    rw [e] at q
    intro H1 ρ1 p vs ext rel1 h0 hp rv n
    refine q H1 (ρ1 ++ [p]) _ (ext.take h0) (rel1.take hp n rv) ?_
    simp only [RV]
    refine ⟨p, rfl, ?_⟩
    rw [← rel1.len]
    simp
  | exc => rw [e] at q; exact q.elim
  | bad => rw [e] at q; exact q.elim
theorem pFn {k : Nat} {f : Addr} {fd : FuncData} {ps : List Str} {x : Str} {p : Pos} {es : List Expr} {Fs : Sl → M → R (List D)} {g : List D → M → R D} {sp : Sp}
    (F : FnG X.prog X.w X.K X.mg X.base k f fd ps sp) (gd : X.A.guards = some []) (hsp : ∀ vs H Q E, RNm X.K g vs H Q → vs.length = ps.length → sp vs H Q E) (hr : Room k X.A) (hg : Gl X x) (hm : X.mg x = some (.ref f)) (hk : PySem.W.keepIn X.K (.ref f) = true) (hb : Binds X.K fd ps [])
    (ha : PA X (a :: es) (Pa X.K Fs)) (hlen : ∀ σ m ds m1, Fs σ m = .ok ds m1 → ds.length = ps.length) (hdb : (x == ("__debug__" : Str)) = false) (he : starEach (a :: es) X.env = (false, eval a X.env) :: starEach es X.env) (hpl : (backTo pos (starEach es X.env)).any (·.1) = false) :
    PE X (.Call (.Name x p) (a :: es) [] pos) (Pd X.K fun σ m => (Fs σ m).bind fun ds m1 => g ds m1) := by
  refine PE.imp (pe_g F hr gd hg hm hk hb ha hdb he hpl) fun τ H Q h => ?_
  obtain ⟨ρ, σ, m, rel, rs, q⟩ := h
  refine ⟨ρ, σ, m, rel, rs, ?_⟩
  dsimp only at q
  cases e : Fs σ m with
  | ok ds m1 =>
    rw [e] at q
    intro H1 ρ1 vs ext rel1 rv
    exact hsp vs H1 Q _ ⟨ρ1, m1, ds, rel1, rv, GF.later q ext⟩ (by rw [← RVs.length _ _ rv]; exact hlen _ _ _ _ e)
  | exc => rw [e] at q; exact q.elim
  | bad => rw [e] at q; exact q.elim
theorem rdN {K : PySem.W.Frag} {τ : St} {H : Hp} {Q : VK} {Fs : Sl → M → R (List D)} {g : List D → M → R D} (h : Pd K (fun σ m => (Fs σ m).bind fun ds m1 => g ds m1) τ H Q) : Pa K Fs τ H fun vs H1 => RNm K g vs H1 Q :=
  Rd.bind (A := RVs K) (G := fun _ => g) h fun vs H1 ρ1 σ m1 ds rel rs rv h1 => ⟨ρ1, m1, ds, rel, rv, h1⟩
end
end Mi

set_option linter.all false
set_option autoImplicit false
set_option Elab.async false
set_option maxRecDepth 100000
set_option maxHeartbeats 4000000
/-! Mi7: targets, what is walked, comprehensions, loops. -/
namespace Mi
open PySem L2
def Tg.slots : Tg → List Nat
  | .nm i => [i]
  | .tp is => is
def Pg (K : PySem.W.Frag) (x : Tg) : TG := fun v τ H Q => ∃ ρ σ m d σ', Rel K H ρ m ∧ RS K H ρ σ τ ∧ RV K H ρ d v ∧ setT x d σ = some σ' ∧ ∀ τ', RS K H ρ σ' τ' → (∀ j : Nat, j ∉ x.slots → τ'[j]? = τ[j]?) → Q τ' H
def gNms : List Nat → TGs
  | [] => gNil
  | i :: is => gCons (gName i) (gNms is)
theorem nms_read {K : PySem.W.Frag} {H : Hp} {ρ : List Addr} {Q : St → Hp → Prop} : ∀ (is : List Nat) (ds : List D) (vs : List V) (σ σ' : Sl) (τ : St), RS K H ρ σ τ → RVs K H ρ ds vs → setNs is ds σ = some σ' → (∀ τ', RS K H ρ σ' τ' → (∀ j : Nat, j ∉ is → τ'[j]? = τ[j]?) → Q τ' H) → gNms is vs τ H Q
  | [], [], _, σ, _, τ, rs, rv, e, k => by
    simp only [RVs] at rv
    cases e
    exact ⟨rv, k τ rs fun _ _ => rfl⟩
  | [], _ :: _, _, _, _, _, _, _, e, _ => by cases e
  | _ :: _, [], _, _, _, _, _, _, e, _ => by cases e
  | i :: is, d :: ds, _, σ, σ', τ, rs, rv, e, k => by
    simp only [RVs] at rv
    obtain ⟨v, r, rfl, h1, h2⟩ := rv
    refine ⟨v, r, rfl, ?_⟩
    refine nms_read is ds r (σ.set i (some d)) σ' (τ.set i (some v)) (rs.set i h1) h2 e fun τ' rs' hj => k τ' rs' fun j hn => ?_
    rw [List.mem_cons, not_or] at hn
    rw [hj j hn.2, List.getElem?_set_ne (Ne.symm hn.1)]
theorem setNs_len : ∀ (is : List Nat) (ds : List D) (σ σ' : Sl), setNs is ds σ = some σ' → is.length = ds.length ∧ σ'.length = σ.length
  | [], [], _, _, e => by cases e; exact ⟨rfl, rfl⟩
  | [], _ :: _, _, _, e => by cases e
  | _ :: _, [], _, _, e => by cases e
  | i :: is, d :: ds, σ, σ', e => by
    obtain ⟨h1, h2⟩ := setNs_len is ds _ _ (show setNs is ds (σ.set i (some d)) = some σ' from e)
    exact ⟨by simp [h1], by rw [h2, List.length_set]⟩
theorem setT_len {x : Tg} {d : D} {σ σ' : Sl} (e : setT x d σ = some σ') : σ'.length = σ.length := by
  cases x with
  | nm i => cases e; exact List.length_set
  | tp is =>
    cases d with
    | tup ds => exact (setNs_len is ds σ σ' e).2
    | _ => cases e
section
variable {X : L2.Cx} {pos : Pos}
theorem PG.imp {e : Expr} {t t' : TG} (h : PG X e t) (i : ∀ v σ H Q, t' v σ H Q → t v σ H Q) : PG X e t' := ⟨fun pins s σ H v u Q I r q => h.run pins s σ H v u Q I r (i v σ H Q q)⟩
theorem gNm {i : Nat} {y : Str} (hN : X.N.Nodup) (hi : X.N[i]? = some y) (hx : Loc X.env.scope y) (hf : X.fn y = true ∨ X.env.scope.names.lookup y = some .local) : PG X (.Name y pos) (Pg X.K (.nm i)) :=
  PG.imp (pg_name hN hi hx hf) fun v τ H Q ⟨ρ, σ, m, d, σ', rel, rs, rv, e, k⟩ => by
    cases e
    exact k _ (rs.set i rv) fun j hj => List.getElem?_set_ne (fun q => hj (by simp [Tg.slots, q]))
/-- each of these names is a place of its own -/
def NmsOk (X : L2.Cx) : List Nat → List Expr → Prop
  | [], [] => True
  | i :: is, .Name y _ :: es => X.N[i]? = some y ∧ Loc X.env.scope y ∧ (X.fn y = true ∨ X.env.scope.names.lookup y = some .local) ∧ NmsOk X is es
  | _, _ => False
theorem gNms_ok (hN : X.N.Nodup) : ∀ (is : List Nat) (es : List Expr), NmsOk X is es → PGs X es (gNms is) ∧ (assignEach es X.env).length = is.length ∧ (assignEach es X.env).findIdx? (·.1) = none
  | [], [], _ => ⟨pgs_nil, rfl, rfl⟩
  | [], _ :: _, h => h.elim
  | _ :: _, [], h => h.elim
  | i :: is, e :: es, h => by
    cases e with
    | Name y p =>
      obtain ⟨h1, h2, h3, h4⟩ := h
      obtain ⟨k1, k2, k3⟩ := gNms_ok hN is es h4
      refine ⟨pgs_cons (pg_name hN h1 h2 h3) k1, by simp [assignEach, k2], ?_⟩
      unfold assignEach
      rw [List.findIdx?_cons, k3]
      rfl
    | _ => exact h.elim
theorem gTp {is : List Nat} {es : List Expr} {n : Nat} (hc : X.calm = true) (hN : X.N.Nodup) (h : NmsOk X is es) : PG X (.Tuple es n pos) (Pg X.K (.tp is)) := by
  obtain ⟨k1, k2, k3⟩ := gNms_ok hN is es h
  refine PG.imp (pg_tup hc k1 k2 k3) fun v τ H Q ⟨ρ, σ, m, d, σ', rel, rs, rv, e, k⟩ => ?_
  cases d with
  | tup ds =>
    obtain ⟨a, vs, rfl, h1, h2⟩ := rv_tup rv
    have e : setNs is ds σ = some σ' := e
    exact ⟨a, vs, rfl, h1, by rw [← RVs.length _ _ h2, (setNs_len _ _ _ _ e).1], nms_read is ds vs σ σ' τ rs h2 e k⟩
  | _ => cases e
/-- the same, or a list's items -/
def PgL (K : PySem.W.Frag) (x : Tg) : TG := fun v τ H Q => Pg K x v τ H Q ∨ ∃ is ρ σ m l ds σ', x = .tp is ∧ Rel K H ρ m ∧ RS K H ρ σ τ ∧ RV K H ρ (.ref l) v ∧ m[l]? = some (.lst ds) ∧ setNs is ds σ = some σ' ∧ ∀ τ', RS K H ρ σ' τ' → (∀ j : Nat, j ∉ is → τ'[j]? = τ[j]?) → Q τ' H
theorem PG.or {e : Expr} {t1 t2 : TG} (h1 : PG X e t1) (h2 : PG X e t2) : PG X e (fun v σ H Q => t1 v σ H Q ∨ t2 v σ H Q) := ⟨fun pins s σ H v u Q I r q => q.elim (h1.run pins s σ H v u Q I r) (h2.run pins s σ H v u Q I r)⟩
theorem gTpL {is : List Nat} {es : List Expr} {n : Nat} (hc : X.calm = true) (hN : X.N.Nodup) (h : NmsOk X is es) : PG X (.Tuple es n pos) (PgL X.K (.tp is)) := by
  obtain ⟨k1, k2, k3⟩ := gNms_ok hN is es h
  refine PG.imp (PG.or (gTp (pos := pos) (n := n) hc hN h) (pg_lst hc k1 k2 k3)) fun v τ H Q q => ?_
  rcases q with q | ⟨is', ρ, σ, m, l, ds, σ', hx, rel, rs, rv, e, e2, k⟩
  · exact .inl q
  · cases hx
    obtain ⟨a, vs, rfl, _, h1, h2⟩ := rv_lst rel rv e
    exact .inr ⟨a, vs, rfl, SqL.of h1, by rw [← RVs.length _ _ h2, (setNs_len _ _ _ _ e2).1], nms_read is ds vs σ σ' τ rs h2 e2 k⟩
theorem PG.nmL {e : Expr} {i : Nat} (h : PG X e (Pg X.K (.nm i))) : PG X e (PgL X.K (.nm i)) := PG.imp h fun v τ H Q q => q.elim id fun ⟨_, _, _, _, _, _, _, hx, _⟩ => by cases hx
end
/-! ### what is walked -/
structure RIt (K : PySem.W.Frag) (H : Hp) (ρ : List Addr) (iv : IV) (J : L2.It) : Prop where
  ex : ∃ (G : Hp → Prop) (Y : Nat → Hp → V → Hp → Prop), Walk J iv.xs.length G Y ∧
    (∀ H2 ρ2 m2, Ext H ρ H2 ρ2 → Rel K H2 ρ2 m2 → iv.stands m2 → G H2) ∧
    (∀ (i : Nat) H1 x H2 ρ1 m1, Ext H ρ H1 ρ1 → Rel K H1 ρ1 m1 → iv.stands m1 → Y i H1 x H2 → ∃ d, iv.xs[i]? = some d ∧ Ext H1 ρ1 H2 ρ1 ∧ Rel K H2 ρ1 m1 ∧ RV K H2 ρ1 d x) ∧
    ∀ (P : Program) (w : World) H2 h, G H2 → HOk P w H2 h → iv.xs.length ≤ sizeLine
abbrev Pi (K : PySem.W.Frag) (F : Sl → M → R IV) : TI := Rd K (RIt K) F
section
variable {X : L2.Cx} {tg e : Expr} {F : Sl → M → R D} {pos : Pos}
theorem sz_lst {K : PySem.W.Frag} {P : Program} {w : World} {H : Hp} {h : Heap} {a : Addr} {vs : List V} (q : SqL K H a vs) (ok : HOk P w H h) : vs.length ≤ sizeLine := by
  rcases q with q | ⟨o, its, n, _, _, _, _, h1, h2⟩
  · obtain ⟨z, _⟩ := q.ok ok
    exact z
  · rw [Paired.length h2, Array.length_toList]
    exact h1
theorem sz_tup {K : PySem.W.Frag} {P : Program} {w : World} {H : Hp} {h : Heap} {a : Addr} {vs : List V} (q : SqT K H a vs) (ok : HOk P w H h) : vs.length ≤ sizeLine := by
  rcases q with q | ⟨o, its, n, _, _, _, h1, h2⟩
  · obtain ⟨z, _⟩ := q.ok ok
    exact z
  · rw [Paired.length h2, Array.length_toList]
    exact h1
theorem yAt {K : PySem.W.Frag} {H H1 : Hp} {ρ ρ1 : List Addr} {m1 m0 : M} {xs : List D} {vs : List V} {i : Nat} {x : V} {H2 : Hp} (rel0 : Rel K H ρ m0) (rv : RVs K H ρ xs vs) (ext : Ext H ρ H1 ρ1) (rel : Rel K H1 ρ1 m1) (y : YAt vs i H1 x H2) : ∃ d, xs[i]? = some d ∧ Ext H1 ρ1 H2 ρ1 ∧ Rel K H2 ρ1 m1 ∧ RV K H2 ρ1 d x := by
  obtain ⟨rfl, e⟩ := y
  have hl := RVs.length _ _ rv
  have hi : i < xs.length := by rw [hl]; exact (List.getElem?_eq_some_iff.mp e).1
  obtain ⟨v, h1, h2⟩ := RVs.get _ _ i xs[i] rv (by simp [hi])
  rw [e] at h1
  cases h1
  exact ⟨xs[i], by simp [hi], Ext.refl _ _, rel, RV.ext rel0 ext _ _ h2⟩
theorem it_tup {K : PySem.W.Frag} {H : Hp} {ρ : List Addr} {m : M} {xs : List D} {vs : List V} {a : Addr} (rel : Rel K H ρ m) (h1 : SqT K H a vs) (h2 : RVs K H ρ xs vs) : RIt K H ρ (.free xs) (Itt K a) :=
  ⟨_, _, by rw [show (IV.free xs).xs.length = vs.length from RVs.length _ _ h2]; exact walk_tup, fun H2 ρ2 m2 ext rel2 _ => sqT_ext rel ext h1, fun i H1 x H2 ρ1 m1 ext rel1 _ y => yAt rel h2 ext rel1 y, fun P w H2 h g ok => by
    show xs.length ≤ sizeLine
    rw [RVs.length _ _ h2]
    exact sz_tup g ok⟩
theorem it_fl {K : PySem.W.Frag} {H : Hp} {ρ : List Addr} {m : M} {xs : List D} {vs : List V} {a : Addr} (rel : Rel K H ρ m) (h1 : FzL K H a vs) (h2 : RVs K H ρ xs vs) : RIt K H ρ (.free xs) (Itl K a) :=
  ⟨_, _, by rw [show (IV.free xs).xs.length = vs.length from RVs.length _ _ h2]; exact walk_list, fun H2 ρ2 m2 ext rel2 _ => (fzL_ext rel ext h1).sq, fun i H1 x H2 ρ1 m1 ext rel1 _ y => yAt rel h2 ext rel1 y, fun P w H2 h g ok => by
    show xs.length ≤ sizeLine
    rw [RVs.length _ _ h2]
    exact sz_lst g ok⟩
/-- a list that is not ours: nobody changes it -/
theorem it_tmp {K : PySem.W.Frag} {H : Hp} {ρ : List Addr} {m : M} {xs : List D} {vs : List V} {a : Addr} (rel : Rel K H ρ m) (h1 : H a = some (.lst vs)) (n : a ∉ ρ) (h2 : RVs K H ρ xs vs) : RIt K H ρ (.free xs) (Itl K a) :=
  ⟨_, _, by rw [show (IV.free xs).xs.length = vs.length from RVs.length _ _ h2]; exact walk_list, fun H2 ρ2 m2 ext rel2 _ => SqL.of (ext.keep a _ h1 n), fun i H1 x H2 ρ1 m1 ext rel1 _ y => yAt rel h2 ext rel1 y, fun P w H2 h g ok => by
    show xs.length ≤ sizeLine
    rw [RVs.length _ _ h2]
    exact sz_lst g ok⟩
theorem it_held {K : PySem.W.Frag} {H : Hp} {ρ : List Addr} {m : M} {xs : List D} {vs : List V} {a : Addr} {l : Nat} (rel : Rel K H ρ m) (ha : ρ[l]? = some a) (h1 : H a = some (.lst vs)) (h2 : RVs K H ρ xs vs) : RIt K H ρ (.held l xs) (Itl K a) := by
  have now : ∀ {H2 : Hp} {ρ2 : List Addr} {m2 : M}, Ext H ρ H2 ρ2 → Rel K H2 ρ2 m2 → m2[l]? = some (.lst xs) → ∃ ws, H2 a = some (.lst ws) ∧ RVs K H2 ρ2 xs ws := fun {H2 ρ2 m2} ext rel2 st => by
    obtain ⟨b, ws, hb, k1, k2⟩ := rel2.lst st
    have hb2 := prefix_get ext.pre ha
    rw [hb] at hb2
    cases hb2
    exact ⟨ws, k1, k2⟩
  refine ⟨fun H2 => ∃ ws, H2 a = some (.lst ws) ∧ ws.length = xs.length, fun i H x H' => H' = H ∧ ∀ ws, SqL K H a ws → ws[i]? = some x, ⟨fun i H hi ⟨ws, e, hl⟩ => ⟨ws, ws[i]'(by rw [hl]; exact hi), SqL.of e, by rw [List.getElem?_eq_getElem]⟩, fun H ⟨ws, e, hl⟩ => ⟨ws, SqL.of e, by rw [hl]; exact Nat.le_refl _⟩, fun i H x H' _ _ y => y⟩, fun H2 ρ2 m2 ext rel2 st => ?_, fun i H1 x H2 ρ1 m1 ext rel1 st y => ?_, fun P w H2 h g ok => ?_⟩
  · obtain ⟨ws, k1, k2⟩ := now ext rel2 st
    exact ⟨ws, k1, (RVs.length _ _ k2).symm⟩
  · obtain ⟨ws, k1, k2⟩ := now ext rel1 st
    obtain ⟨rfl, y⟩ := y
    have e := y ws (SqL.of k1)
    have hi : i < xs.length := by rw [RVs.length _ _ k2]; exact (List.getElem?_eq_some_iff.mp e).1
    obtain ⟨v, q1, q2⟩ := RVs.get _ _ i xs[i] k2 (by simp [hi])
    rw [e] at q1
    cases q1
    exact ⟨xs[i], by simp [IV.xs, hi], Ext.refl _ _, rel1, q2⟩
  · obtain ⟨ws, k1, k2⟩ := g
    show xs.length ≤ sizeLine
    rw [← k2]
    exact sz_lst (K := K) (SqL.of k1) ok
theorem walk_str (x : Str) : Walk (Its x) x.cps.size (fun _ => True) (fun i H v H' => H' = H ∧ ∃ c, x.cps[i]? = some c ∧ v = .str ⟨#[c]⟩) :=
  ⟨fun _ _ hi _ => hi, fun _ _ => Nat.le_refl _, fun _ _ _ _ _ _ y => y⟩
theorem sok_sign {x : Str} (sx : SOk x) {i : Nat} {c : Nat} (h : x.cps[i]? = some c) : SOk ⟨#[c]⟩ := by
  refine ⟨?_, by show 1 ≤ _; decide⟩
  have h1 := sx.1
  unfold PyData.strOk at h1 ⊢
  rw [Array.all_eq_true] at h1
  obtain ⟨hi, e⟩ := Array.getElem?_eq_some_iff.mp h
  have := h1 i hi
  rw [e] at this
  simpa using this
theorem it_str {K : PySem.W.Frag} {H : Hp} {ρ : List Addr} {x : Str} (sx : SOk x) : RIt K H ρ (.free (x.cps.toList.map fun c => .str ⟨#[c]⟩)) (Its x) := by
  refine ⟨fun _ => True, fun i H v H' => H' = H ∧ ∃ c, x.cps[i]? = some c ∧ v = .str ⟨#[c]⟩, ?_, fun _ _ _ _ _ _ => True.intro, fun i H1 y H2 ρ1 m1 ext rel1 _ q => ?_, fun P w H2 h g ok => ?_⟩
  · have e : (IV.free (x.cps.toList.map fun c => D.str ⟨#[c]⟩)).xs.length = x.cps.size := by simp [IV.xs]
    rw [e]
    exact walk_str x
  · obtain ⟨rfl, c, hc, rfl⟩ := q
    refine ⟨.str ⟨#[c]⟩, by simp [IV.xs, hc], Ext.refl _ _, rel1, ?_⟩
    exact rvS (sok_sign sx hc)
  · show (x.cps.toList.map fun c => D.str ⟨#[c]⟩).length ≤ _
    rw [List.length_map, Array.length_toList]
    exact sx.2
theorem iSeq (he : PE X e (Pd X.K F)) : PI X tg e (Pi X.K fun σ m => (F σ m).bind iterD) := by
  refine ⟨fun pins s τ H R I h => ?_⟩
  obtain ⟨ρ, σ, m, rel, rs, h⟩ := h
  dsimp only at h
  cases q : F σ m with
  | exc => rw [q] at h; exact h.elim
  | bad => rw [q] at h; exact h.elim
  | ok d m1 =>
    rw [q] at h
    cases d with
    | tup xs =>
      refine (pi_tup he).run pins s τ H R I ⟨ρ, σ, m, rel, rs, ?_⟩
      rw [q]
      intro H1 ρ1 v ext rel1 rv
      obtain ⟨a, vs, rfl, h1, h2⟩ := rv_tup rv
      exact ⟨a, rfl, ⟨vs, h1⟩, h H1 ρ1 _ ext rel1 (it_tup rel1 h1 h2)⟩
    | fl xs =>
      refine (pi_list he).run pins s τ H R I ⟨ρ, σ, m, rel, rs, ?_⟩
      rw [q]
      intro H1 ρ1 v ext rel1 rv
      obtain ⟨a, vs, rfl, h1, h2⟩ := rv_fl rv
      exact ⟨a, rfl, ⟨vs, h1.sq⟩, h H1 ρ1 _ ext rel1 (it_fl rel1 h1 h2)⟩
    | str x =>
      refine (pi_str he).run pins s τ H R I ⟨ρ, σ, m, rel, rs, ?_⟩
      rw [q]
      intro H1 ρ1 v ext rel1 rv
      obtain ⟨rfl, sx⟩ := rv_str rv
      exact ⟨x, rfl, h H1 ρ1 _ ext rel1 (it_str sx)⟩
    | ref l =>
      cases g : m1[l]? with
      | none => simp only [bind_ok, iterD, g] at h; exact h.elim
      | some o =>
        cases o with
        | dic _ => simp only [bind_ok, iterD, g] at h; exact h.elim
        | lst xs =>
          simp only [bind_ok, iterD, g] at h
          refine (pi_list he).run pins s τ H R I ⟨ρ, σ, m, rel, rs, ?_⟩
          rw [q]
          intro H1 ρ1 v ext rel1 rv
          obtain ⟨a, vs, rfl, ha, h1, h2⟩ := rv_lst rel1 rv g
          exact ⟨a, rfl, ⟨vs, SqL.of h1⟩, h H1 ρ1 _ ext rel1 (it_held rel1 ha h1 h2)⟩
    | _ => exact h.elim
theorem iTmp {F : Sl → M → R (List D)} (he : PE X e (Pl X.K F)) : PI X tg e (Pi X.K fun σ m => (F σ m).bind fun xs m1 => .ok (.free xs) m1) := by
  refine ⟨fun pins s τ H R I h => ?_⟩
  obtain ⟨ρ, σ, m, rel, rs, h⟩ := h
  dsimp only at h
  cases q : F σ m with
  | exc => rw [q] at h; exact h.elim
  | bad => rw [q] at h; exact h.elim
  | ok xs m1 =>
    rw [q] at h
    refine (pi_list he).run pins s τ H R I ⟨ρ, σ, m, rel, rs, ?_⟩
    rw [q]
    intro H1 ρ1 p vs ext rel1 h0 hp rv n
    exact ⟨p, rfl, ⟨vs, SqL.of hp⟩, h H1 ρ1 _ ext rel1 (it_tmp rel1 hp n rv)⟩
theorem rng_xs (a b : Int) : ((List.range (b - a).toNat).map fun k => D.int (a + (k : Nat))).length = (b - a).toNat := by simp
theorem it_rng {K : PySem.W.Frag} {H : Hp} {ρ : List Addr} {a b : Int} (hs : b - a ≤ 16777216) : RIt K H ρ (.free ((List.range (b - a).toNat).map fun k => .int (a + (k : Nat)))) (Itr a (b - a).toNat) := by
  refine ⟨fun _ => True, fun i H x H' => i < (b - a).toNat ∧ (H' = H ∧ x = .int (a + i)), ?_, fun _ _ _ _ _ _ => True.intro, fun i H1 x H2 ρ1 m1 ext rel1 _ y => ?_, fun P w H2 h g ok => ?_⟩
  · show Walk _ ((List.range (b - a).toNat).map fun k => D.int (a + (k : Nat))).length _ _
    rw [rng_xs]
    exact walk_range.mono (fun _ h => h) fun i H x H' hi _ y => ⟨hi, y⟩
  · obtain ⟨hi, rfl, rfl⟩ := y
    exact ⟨.int (a + i), by simp [IV.xs, hi], Ext.refl _ _, rel1, rvI _⟩
  · show ((List.range (b - a).toNat).map fun k => D.int (a + (k : Nat))).length ≤ _
    rw [rng_xs, sizeLine_eq]
    omega
theorem iRng1 {a : Expr} {p : Pos} (hg : Gl X "range") (hm : X.mg "range" = none) (ha : PE X a (Pd X.K F)) (hs : starEach [a] X.env = [(false, eval a X.env)]) : PI X tg (.Call (.Name "range" p) [a] [] pos) (Pi X.K fun σ m => (F σ m).bind fun y m1 => rngD (.int 0) y m1) := by
  refine ⟨fun pins s τ H R I h => (pi_range1 hg hm (pa_cons ha pa_nil hs) hs).run pins s τ H R I ?_⟩
  refine Rd.bind (A := RV X.K) (G := fun _ y m1 => rngD (.int 0) y m1) h fun x H1 ρ1 σ m1 d rel rs rv h1 => ?_
  cases d with
  | int j =>
    obtain rfl := rv_int rv
    unfold rngD at h1
    dsimp only at h1
    by_cases hc : -4611686018427387904 ≤ (0 : Int) ∧ (0 : Int) < 4611686018427387904 ∧ -4611686018427387904 ≤ j ∧ j < 4611686018427387904 ∧ j - 0 ≤ 16777216
    · rw [if_pos hc] at h1
      refine ⟨j, rfl, by omega, by omega, ?_⟩
      have q := h1 H1 ρ1 (Itr 0 (j - 0).toNat) (Ext.refl _ _) rel (it_rng hc.2.2.2.2)
      rw [Int.sub_zero] at q
      exact q
    · rw [if_neg hc] at h1
      exact h1.elim
  | _ => exact h1.elim
theorem iRng2 {a b : Expr} {p : Pos} {Fb : Sl → M → R D} (hg : Gl X "range") (hm : X.mg "range" = none) (ha : PE X a (Pd X.K F)) (hb : PE X b (Pd X.K Fb)) (hs : starEach [a, b] X.env = (false, eval a X.env) :: starEach [b] X.env) (hs2 : starEach [b] X.env = [(false, eval b X.env)]) :
    PI X tg (.Call (.Name "range" p) [a, b] [] pos) (Pi X.K fun σ m => (F σ m).bind fun x m1 => (Fb σ m1).bind fun y m2 => rngD x y m2) := by
  refine ⟨fun pins s τ H R I h => (pi_range2 hg hm (pa_cons ha (pa_cons hb pa_nil hs2) hs) (by rw [hs, hs2]) hs2).run pins s τ H R I ?_⟩
  obtain ⟨ρ, σ, m, rel, rs, h⟩ := rd2 (k := rngD) h
  refine ⟨ρ, σ, m, rel, rs, GF.mono h fun x H1 h => ?_⟩
  obtain ⟨ρ, σ, m, rel, rs, h⟩ := h
  refine ⟨ρ, σ, m, rel, rs, GF.mono h fun y H2 h => ?_⟩
  obtain ⟨ρ, σ, m, d, e, rel, rs, rd, re, h1⟩ := h
  cases d with
  | int i =>
    obtain rfl := rv_int rd
    cases e with
    | int j =>
      obtain rfl := rv_int re
      unfold rngD at h1
      dsimp only at h1
      by_cases hc : -4611686018427387904 ≤ i ∧ i < 4611686018427387904 ∧ -4611686018427387904 ≤ j ∧ j < 4611686018427387904 ∧ j - i ≤ 16777216
      · rw [if_pos hc] at h1
        exact ⟨i, j, rfl, by omega, h1 H2 ρ (Itr i (j - i).toNat) (Ext.refl _ _) rel (it_rng hc.2.2.2.2)⟩
      · rw [if_neg hc] at h1
        exact h1.elim
    | _ => exact h1.elim
  | _ => cases e <;> exact h1.elim
theorem rd3 {γ δ : Type} {B : Hp → List Addr → γ → δ → Prop} {Q : δ → Hp → Prop} {K : PySem.W.Frag} {τ : St} {H : Hp} {F G L : Sl → M → R D} {k : D → D → D → M → R γ} (h : Rd K B (fun σ m => (F σ m).bind fun a m1 => (G σ m1).bind fun b m2 => (L σ m2).bind fun c m3 => k a b c m3) τ H Q) :
    Pd K F τ H fun x H1 => Pd K G τ H1 fun y H2 => Pd K L τ H2 fun z H3 => ∃ ρ σ m a b c, Rel K H3 ρ m ∧ RS K H3 ρ σ τ ∧ RV K H3 ρ a x ∧ RV K H3 ρ b y ∧ RV K H3 ρ c z ∧ GF K B Q H3 ρ (k a b c m) := by
  refine Rd.bind (A := RV K) h fun x H1 ρ1 σ m1 a rel rs rv h1 => ⟨ρ1, σ, m1, rel, rs, GF.mono (GF.bind (A := RV K) h1) ?_⟩
  rintro y H2 ⟨ρ2, m2, b, ext, rel2, rv2, h2⟩
  refine ⟨ρ2, σ, m2, rel2, rs.ext rel ext, GF.mono (GF.bind (A := RV K) h2) ?_⟩
  rintro z H3 ⟨ρ3, m3, c, ext3, rel3, rv3, h3⟩
  exact ⟨ρ3, σ, m3, a, b, c, rel3, (rs.ext rel ext).ext rel2 ext3, RV.ext rel2 ext3 _ _ (RV.ext rel ext _ _ rv), RV.ext rel2 ext3 _ _ rv2, rv3, h3⟩
theorem stepN_eq {a b c : Int} (hc : 0 < c) : Builtin.Range.rangeSize a b c = (stepN a b c : Nat) := by
  unfold Builtin.Range.rangeSize stepN
  rw [if_pos hc]
  split
  · have := Int.ediv_nonneg (a := b - a - 1) (b := c) (by omega) (by omega)
    omega
  · rfl
theorem stepN_le {a b c : Int} (hc : 0 < c) (h : b - a ≤ 16777216) : stepN a b c ≤ 16777216 := by
  unfold stepN
  split
  · have := Int.ediv_le_self c (show (0 : Int) ≤ b - a - 1 by omega)
    omega
  · omega
theorem stepN_lt {a b c : Int} (hc : 0 < c) : (stepN a b c : Int) * c ≤ (b - a).toNat + c := by
  unfold stepN
  split
  · have h1 := Int.ediv_nonneg (a := b - a - 1) (b := c) (by omega) (by omega)
    have h2 := Int.ediv_mul_le (b - a - 1) (show c ≠ 0 by omega)
    rw [Int.toNat_of_nonneg (by omega), Int.add_mul]
    omega
  · simp
    omega
theorem small_step {a b c : Int} (h1 : -4611686018427387904 ≤ a ∧ a < 4611686018427387904) (h2 : -4611686018427387904 ≤ b ∧ b < 4611686018427387904) (h3 : b - a ≤ 16777216) (hc : 0 < c ∧ c < 1073741824) : Builtin.Range.small a b c = true := by
  have e := stepN_eq (a := a) (b := b) hc.1
  have l := stepN_lt (a := a) (b := b) hc.1
  have n := stepN_le hc.1 h3
  unfold Builtin.Range.small
  rw [e]
  generalize stepN a b c = n at *
  simp only [Builtin.Range.rangeFitsLong, Bool.and_eq_true, Bool.or_eq_true, decide_eq_true_eq, beq_iff_eq, if_pos hc.1, gt_iff_lt]
  omega
theorem it_rng3 {K : PySem.W.Frag} {H : Hp} {ρ : List Addr} {a b c : Int} (hc : 0 < c) (hs : b - a ≤ 16777216) : RIt K H ρ (.free ((List.range (stepN a b c)).map fun k => .int (a + (k : Nat) * c))) (Itc a c (stepN a b c)) := by
  refine ⟨fun _ => True, fun i H x H' => i < stepN a b c ∧ (H' = H ∧ x = .int (a + (i : Nat) * c)), ?_, fun _ _ _ _ _ _ => True.intro, fun i H1 x H2 ρ1 m1 ext rel1 _ y => ?_, fun P w H2 h g ok => ?_⟩
  · show Walk _ ((List.range (stepN a b c)).map fun k => D.int (a + (k : Nat) * c)).length _ _
    rw [List.length_map, List.length_range]
    exact walk_rangeC.mono (fun _ h => h) fun i H x H' hi _ y => ⟨hi, y⟩
  · obtain ⟨hi, rfl, rfl⟩ := y
    exact ⟨.int (a + (i : Nat) * c), by simp [IV.xs, hi], Ext.refl _ _, rel1, rvI _⟩
  · show ((List.range (stepN a b c)).map fun k => D.int (a + (k : Nat) * c)).length ≤ _
    rw [List.length_map, List.length_range, sizeLine_eq]
    have := stepN_le hc hs
    omega
theorem iRng3' {a b c : Expr} {p : Pos} {Fb Fc : Sl → M → R D} (hg : Gl X "range") (hm : X.mg "range" = none) (ha : PE X a (Pd X.K F)) (hb : PE X b (Pd X.K Fb)) (hc : PE X c (Pd X.K Fc)) (hs : starEach [a, b, c] X.env = (false, eval a X.env) :: starEach [b, c] X.env) (hs2 : starEach [b, c] X.env = (false, eval b X.env) :: starEach [c] X.env) (hs3 : starEach [c] X.env = [(false, eval c X.env)]) :
    PI X tg (.Call (.Name "range" p) [a, b, c] [] pos) (Pi X.K fun σ m => (F σ m).bind fun x m1 => (Fb σ m1).bind fun y m2 => (Fc σ m2).bind fun z m3 => rng3D x y z m3) := by
  refine ⟨fun pins s τ H R I h => (pi_range3 hg hm (pa_cons ha (pa_cons hb (pa_cons hc pa_nil hs3) hs2) hs) hs (by rw [hs2, hs3]; rfl)).run pins s τ H R I ?_⟩
  obtain ⟨ρ, σ, m, rel, rs, h⟩ := rd3 (k := rng3D) h
  refine ⟨ρ, σ, m, rel, rs, GF.mono h fun x H1 h => ?_⟩
  obtain ⟨ρ, σ, m, rel, rs, h⟩ := h
  refine ⟨ρ, σ, m, rel, rs, GF.mono h fun y H2 h => ?_⟩
  obtain ⟨ρ, σ, m, rel, rs, h⟩ := h
  refine ⟨ρ, σ, m, rel, rs, GF.mono h fun z H3 h => ?_⟩
  obtain ⟨ρ, σ, m, d, e, f, rel, rs, rd, re, rf, h1⟩ := h
  cases d with
  | int i =>
    obtain rfl := rv_int rd
    cases e with
    | int j =>
      obtain rfl := rv_int re
      cases f with
      | int l =>
        obtain rfl := rv_int rf
        unfold rng3D at h1
        dsimp only at h1
        by_cases hc : -4611686018427387904 ≤ i ∧ i < 4611686018427387904 ∧ -4611686018427387904 ≤ j ∧ j < 4611686018427387904 ∧ j - i ≤ 16777216 ∧ 0 < l ∧ l < 1073741824
        · rw [if_pos hc] at h1
          obtain ⟨c1, c2, c3, c4, c5, c6, c7⟩ := hc
          exact ⟨i, j, l, stepN i j l, rfl, ⟨by omega, by omega, small_step ⟨c1, c2⟩ ⟨c3, c4⟩ c5 ⟨c6, c7⟩, stepN_eq c6⟩, h1 H3 ρ (Itc i l (stepN i j l)) (Ext.refl _ _) rel (it_rng3 c6 c5)⟩
        · rw [if_neg hc] at h1
          exact h1.elim
      | _ => exact h1.elim
    | _ => cases f <;> exact h1.elim
  | _ => cases e <;> cases f <;> exact h1.elim
/-- pairs of two tuples' items -/
theorem walk_zipT {K : PySem.W.Frag} {a b : Addr} {xs ys : List V} {n : Nat} (hn : n = min xs.length ys.length) : Walk (RZ.ItzT K a b) n (fun H => SqT K H a xs ∧ SqT K H b ys) (YPair (fun i => xs[i]?) (fun i => ys[i]?)) := by
  subst hn
  refine ⟨fun i H hi ⟨qx, qy⟩ => ⟨xs, ys, xs[i]'(by omega), ys[i]'(by omega), qx, qy, List.getElem?_eq_getElem (by omega), List.getElem?_eq_getElem (by omega)⟩, fun H ⟨qx, qy⟩ => ⟨xs, ys, qx, qy, by omega⟩, fun i H v H' _ ⟨qx, qy⟩ y => ?_⟩
  obtain ⟨T, x, y, e, f, g, h1, h2⟩ := y
  exact ⟨T, x, y, e, f, g, h1 xs qx, h2 ys qy⟩
theorem it_zip {K : PySem.W.Frag} {H : Hp} {ρ : List Addr} {m : M} {xs ys : List D} {vs ws : List V} {a b : Addr} (rel : Rel K H ρ m) (h1 : SqT K H a vs) (h2 : RVs K H ρ xs vs) (k1 : SqT K H b ws) (k2 : RVs K H ρ ys ws) : RIt K H ρ (.free (List.zipWith (fun a b => .tup [a, b]) xs ys)) (RZ.ItzT K a b) := by
  have hl := RVs.length _ _ h2
  have kl := RVs.length _ _ k2
  refine ⟨_, _, walk_zipT (xs := vs) (ys := ws) (by show (List.zipWith (fun a b => D.tup [a, b]) xs ys).length = _; rw [List.length_zipWith, hl, kl]), fun H2 ρ2 m2 ext rel2 _ => ⟨sqT_ext rel ext h1, sqT_ext rel ext k1⟩, fun i H1 x H2 ρ1 m1 ext rel1 _ y => ?_, fun P w H2 h g ok => ?_⟩
  · obtain ⟨T, u, v, rfl, hT, rfl, e1, e2⟩ := y
    have hi : i < xs.length := by rw [hl]; exact (List.getElem?_eq_some_iff.mp e1).1
    have ki : i < ys.length := by rw [kl]; exact (List.getElem?_eq_some_iff.mp e2).1
    obtain ⟨u', q1, q2⟩ := RVs.get _ _ i xs[i] h2 (by simp [hi])
    obtain ⟨v', p1, p2⟩ := RVs.get _ _ i ys[i] k2 (by simp [ki])
    rw [show vs[i]? = some u from e1] at q1
    cases q1
    rw [show ws[i]? = some v from e2] at p1
    cases p1
    have x2 : Ext H1 ρ1 (upd H1 T (.tup [u, v])) ρ1 := Ext.laid rel1 hT
    refine ⟨.tup [xs[i], ys[i]], ?_, x2, Rel.laid rel1 hT, ?_⟩
    · show (List.zipWith (fun a b => D.tup [a, b]) xs ys)[i]? = _
      rw [List.getElem?_zipWith]
      simp [hi, ki]
    simp only [RV]
    exact ⟨T, [u, v], rfl, .inl (.inl upd_same), RVs.cons (RV.ext rel1 x2 _ _ (RV.ext rel ext _ _ q2)) (RVs.cons (RV.ext rel1 x2 _ _ (RV.ext rel ext _ _ p2)) RVs.nil)⟩
  · show (List.zipWith (fun a b => D.tup [a, b]) xs ys).length ≤ sizeLine
    rw [List.length_zipWith, hl]
    exact Nat.le_trans (Nat.min_le_left _ _) (sz_tup g.1 ok)
theorem iZip2 {a b : Expr} {p : Pos} {elts : List Expr} {kk : Nat} {tpos : Pos} {Fb : Sl → M → R D} (hg : Gl X "zip") (hm : X.mg "zip" = none) (ha : PE X a (Pd X.K F)) (hb : PE X b (Pd X.K Fb)) (hs : starEach [a, b] X.env = (false, eval a X.env) :: starEach [b] X.env) (hs2 : starEach [b] X.env = [(false, eval b X.env)]) (hpl : (backTo pos (starEach [b] X.env)).any (·.1) = false) :
    PI X (.Tuple elts kk tpos) (.Call (.Name "zip" p) [a, b] [] pos) (Pi X.K fun σ m => (F σ m).bind fun x m1 => (Fb σ m1).bind fun y m2 => zipD x y m2) := by
  refine ⟨fun pins s τ H R I h => (RZ.pi_zipA hg hm (pa_cons ha (pa_cons hb pa_nil hs2) hs) hs hpl).run pins s τ H R I ?_⟩
  obtain ⟨ρ, σ, m, rel, rs, h⟩ := rd2 (k := fun x y m2 => zipD x y m2) h
  refine ⟨ρ, σ, m, rel, rs, GF.mono h fun x H1 h => ?_⟩
  obtain ⟨ρ, σ, m, rel, rs, h⟩ := h
  refine ⟨ρ, σ, m, rel, rs, GF.mono h fun y H2 h => ?_⟩
  obtain ⟨ρ, σ, m, d, e, rel, rs, rd, re, hz⟩ := h
  cases d with
  | tup xs =>
    cases e with
    | tup ys =>
      obtain ⟨p1, vs, rfl, h1, h2⟩ := rv_tup rd
      obtain ⟨p2, ws, rfl, k1, k2⟩ := rv_tup re
      exact ⟨p1, p2, vs, ws, rfl, .inr ⟨h1, k1, hz H2 ρ _ (Ext.refl _ _) rel (it_zip rel h1 h2 k1 k2)⟩⟩
    | _ => exact hz.elim
  | _ => cases e <;> exact hz.elim
end
end Mi

set_option linter.all false
set_option autoImplicit false
set_option Elab.async false
set_option maxRecDepth 100000
set_option maxHeartbeats 4000000
/-! Mi8: comprehensions, loops, statements. -/
namespace Mi
open PySem L2
theorem wipe_len (τ : St) (vs : List Nat) : (L2.wipe τ vs).length = τ.length := wipe_length τ vs
theorem wipe_in {τ : St} {i : Nat} : ∀ {vs : List Nat}, i ∈ vs → i < τ.length → (L2.wipe τ vs)[i]? = some none
  | [], h, _ => by cases h
  | v :: vs, h, hl => by
    unfold L2.wipe
    by_cases e : v = i
    · subst e
      rw [List.getElem?_set_self (by rw [wipe_length]; exact hl)]
    · rw [List.getElem?_set_ne e]
      rcases List.mem_cons.mp h with q | q
      · exact absurd q.symm e
      · exact wipe_in q hl
theorem wipe_same {τ τ' : St} {vs : List Nat} (hl : τ'.length = τ.length) (h : ∀ j : Nat, j ∉ vs → τ'[j]? = (L2.wipe τ vs)[j]?) : L2.wipe τ' vs = L2.wipe τ vs := by
  refine List.ext_getElem? fun i => ?_
  by_cases hi : i ∈ vs
  · by_cases hb : i < τ.length
    · rw [wipe_in hi hb, wipe_in hi (by omega)]
    · rw [List.getElem?_eq_none (by rw [wipe_length]; omega), List.getElem?_eq_none (by rw [wipe_length]; omega)]
  · rw [wipe_out hi, h i hi]
theorem wipeM_len (σ : Sl) : ∀ vs : List Nat, (wipeM σ vs).length = σ.length
  | [] => rfl
  | v :: vs => by unfold wipeM; rw [List.length_set, wipeM_len σ vs]
/-- a list apart is changed: ours stand -/
theorem Rel.apart {K : PySem.W.Frag} {H : Hp} {ρ : List Addr} {m : M} {p : Addr} {vs ws : List V} (r : Rel K H ρ m) (hp : H p = some (.lst vs)) (n : p ∉ ρ) : Rel K (upd H p (.lst ws)) ρ m ∧ (∀ d v, RV K H ρ d v → RV K (upd H p (.lst ws)) ρ d v) ∧ ∀ ds us, RVs K H ρ ds us → RVs K (upd H p (.lst ws)) ρ ds us := by
  -- seen from a heap without p
  have e0 : Ext (fun a => if a = p then none else H a) ρ (upd H p (.lst ws)) ρ := ⟨List.prefix_refl _, fun a o h _ => by
    by_cases e : a = p
    · rw [if_pos e] at h; cases h
    · rw [if_neg e] at h
      rw [upd_ne e]
      exact h, fun _ _ _ h => h⟩
  have sqT : ∀ {a us}, SqT K H a us → SqT K (fun a => if a = p then none else H a) a us := fun {a us} h => by
    rcases h with (h | ⟨o, h⟩) | h
    · have ne : a ≠ p := fun q => by rw [q, hp] at h; cases h
      exact .inl (.inl (by show (if a = p then none else H a) = _; rw [if_neg ne]; exact h))
    · have ne : a ≠ p := fun q => by rw [q, hp] at h; cases h
      exact .inl (.inr ⟨o, by show (if a = p then none else H a) = _; rw [if_neg ne]; exact h⟩)
    · exact .inr h
  have fzl : ∀ {a us}, FzL K H a us → FzL K (fun a => if a = p then none else H a) a us := fun {a us} h => by
    rcases h with ⟨o, h⟩ | h
    · have ne : a ≠ p := fun q => by rw [q, hp] at h; cases h
      exact .inl ⟨o, by show (if a = p then none else H a) = _; rw [if_neg ne]; exact h⟩
    · exact .inr h
  have rvd := RV.down (K := K) (H := H) (H' := fun a => if a = p then none else H a) (ρ := ρ) sqT fzl
  have rvsd := RVs.down (K := K) (H := H) (H' := fun a => if a = p then none else H a) (ρ := ρ) sqT fzl
  have r0 : Rel K (fun a => if a = p then none else H a) ρ m := ⟨r.len, r.nd, fun l o e => by
    obtain ⟨a, ha, ro⟩ := r.ob l o e
    have ne : a ≠ p := fun q => n (q ▸ List.mem_of_getElem? ha)
    refine ⟨a, ha, ?_⟩
    cases o with
    | lst xs =>
      obtain ⟨us, h1, h2⟩ := ro
      exact ⟨us, by show (if a = p then none else H a) = _; rw [if_neg ne]; exact h1, rvsd _ _ h2⟩
    | dic xs =>
      obtain ⟨us, h1, h2⟩ := ro
      exact ⟨us, by show (if a = p then none else H a) = _; rw [if_neg ne]; exact h1, RKs.down sqT fzl _ _ h2⟩⟩
  refine ⟨⟨r.len, r.nd, fun l o e => ?_⟩, fun d v h => RV.ext r0 e0 d v (rvd d v h), fun d v h => RVs.ext r0 e0 d v (rvsd d v h)⟩
  obtain ⟨a, ha, ro⟩ := r0.ob l o e
  have ne : a ≠ p := fun q => n (q ▸ List.mem_of_getElem? ha)
  refine ⟨a, ha, RO.ext r0 e0 ?_ ro⟩
  show upd H p (.lst ws) a = if a = p then none else H a
  rw [upd_ne ne, if_neg ne]
def PdH (P : Program) (w : World) (K : PySem.W.Frag) (F : Sl → M → R D) : TE := fun σ H Q => Pd K F σ H fun v H' => (∃ h, HOk P w H' h) → Q v H'
/-- a comprehension's reading -/
theorem lc_read {P : Program} {w : World} {K : PySem.W.Frag} {FI : Sl → M → R IV} {x : Tg} {vs : List Nat} {ts : Sl → M → R Bool} {e : Sl → M → R D} (hx : ∀ i ∈ x.slots, i ∈ vs) {τ : St} {H : Hp} {Q : VK}
    (h : Pl K (fun σ m => (FI σ m).bind fun v m1 => lcD (fun d => setT x d (wipeM σ vs)) v.stands ts e v.xs [] m1) τ H Q) : tLc (Pi K FI) (Pg K x) (Pt K ts) (PdH P w K e) vs τ H Q := by
  obtain ⟨ρ, σ, m, rel, rs, h⟩ := h
  refine ⟨ρ, σ, m, rel, rs, ?_⟩
  dsimp only at h
  cases q : FI σ m with
  | exc => rw [q] at h; exact h.elim
  | bad => rw [q] at h; exact h.elim
  | ok v m1 =>
    rw [q] at h
    intro H1 ρ1 J ext rel1 rit D hD
    obtain ⟨G, Y, W, gd, yl, sz⟩ := rit.ex
    have rs1 := rs.ext rel ext
    -- between the turns
    have guard : ∀ {ds acc m2}, GL K Q H ρ (lcD (fun d => setT x d (wipeM σ vs)) v.stands ts e ds acc m2) → v.stands m2 := fun {ds acc m2} g => by
      refine Classical.byContradiction fun n => ?_
      cases ds with
      | nil => unfold lcD at g; rw [if_neg n] at g; exact g
      | cons d ds => unfold lcD at g; rw [if_neg n] at g; exact g
    have hx0 : Ext H1 ρ1 (upd H1 D (.lst [])) ρ1 := Ext.laid rel1 hD
    refine lc_it W (Pv := fun i H2 => i ≤ v.xs.length ∧ ∃ ρ2 m2 acc av, Ext H1 ρ1 H2 ρ2 ∧ Rel K H2 ρ2 m2 ∧ H2 D = some (.lst av) ∧ D ∉ ρ2 ∧ RVs K H2 ρ2 acc av ∧ av.length ≤ i ∧ RS K H2 ρ2 σ τ ∧
        GL K Q H ρ (lcD (fun d => setT x d (wipeM σ vs)) v.stands ts e (v.xs.drop i) acc m2)) ?_ ?_ ?_ ?_
    · exact ⟨Nat.zero_le _, ρ1, m1, [], [], hx0, Rel.laid rel1 hD, upd_same, rel1.free hD, RVs.nil, Nat.le_refl _, rs1.ext rel1 hx0, h⟩
    · rintro i H2 hi ⟨_, ρ2, m2, acc, av, ext2, rel2, _, _, _, _, _, g⟩
      exact gd H2 ρ2 m2 ext2 rel2 (guard g)
    · rintro i y H2 H3 hi ⟨_, ρ2, m2, acc, av, ext2, rel2, hD2, nD, rva, hav, rs2, g⟩ hy
      have st := guard g
      obtain ⟨d, hd, ext3, rel3, rvd⟩ := yl i H2 y H3 ρ2 m2 ext2 rel2 st hy
      have hdrop : v.xs.drop i = d :: v.xs.drop (i + 1) := by
        rw [List.drop_eq_getElem_cons hi]
        rw [List.getElem?_eq_getElem hi] at hd
        cases hd
        rfl
      rw [hdrop] at g
      unfold lcD at g
      rw [if_pos st] at g
      have rs3 := rs2.ext rel2 ext3
      cases q1 : setT x d (wipeM σ vs) with
      | none => rw [q1] at g; exact g.elim
      | some σ' =>
        rw [q1] at g
        dsimp only at g
        refine ⟨ρ2, wipeM σ vs, m2, d, σ', rel3, rs3.wipe vs, rvd, q1, fun τ' rsx hj => ⟨wipe_same ?_ fun j hn => hj j fun z => hn (hx j z), ?_⟩⟩
        · rw [← rsx.len, setT_len q1, wipeM_len, rs.len]
        cases q2 : ts σ' m2 with
        | exc => rw [q2] at g; exact g.elim
        | bad => rw [q2] at g; exact g.elim
        | ok b m3 =>
          rw [q2] at g
          refine ⟨ρ2, σ', m2, rel3, rsx, ?_⟩
          rw [q2]
          intro H4 ρ4 c ext4 rel4 ec
          have ec : c = b := ec
          subst ec
          have hD3 := ext3.keep D _ hD2 nD
          have hD4 := ext4.keep D _ hD3 nD
          have nD4 : D ∉ ρ4 := fun z => nD (ext4.new D _ hD3 z)
          have rva4 := RVs.ext rel3 ext4 _ _ (RVs.ext rel2 ext3 _ _ rva)
          have rs4 := rs3.ext rel3 ext4
          have ext24 := (ext2.trans ext3).trans ext4
          cases c with
          | false =>
            rw [if_neg Bool.false_ne_true]
            exact ⟨hi, ρ4, m3, acc, av, ext24, rel4, hD4, nD4, rva4, by omega, rs4, g⟩
          | true =>
            rw [if_pos rfl]
            dsimp only at g
            have rsx4 := rsx.ext rel3 ext4
            cases q3 : e σ' m3 with
            | exc => rw [q3] at g; exact g.elim
            | bad => rw [q3] at g; exact g.elim
            | ok yd m5 =>
              rw [q3] at g
              refine ⟨ρ4, σ', m3, rel4, rsx4, ?_⟩
              rw [q3]
              rintro H5 ρ5 yv ext5 rel5 rvy ⟨hh, hok⟩
              have hD5 := ext5.keep D _ hD4 nD4
              have nD5 : D ∉ ρ5 := fun z => nD4 (ext5.new D _ hD4 z)
              have g' : GL K Q H ρ (lcD (fun d => setT x d (wipeM σ vs)) v.stands ts e (v.xs.drop (i + 1)) (acc ++ [yd]) m5) := g
              have ext25 := ext24.trans ext5
              have gn : G H5 := gd H5 ρ5 m5 ext25 rel5 (guard g')
              have hsz := sz P w H5 hh gn hok
              obtain ⟨r6, rv6, rvs6⟩ := rel5.apart (ws := av ++ [yv]) hD5 nD5
              refine ⟨av, hD5, by omega, hi, ρ5, m5, acc ++ [yd], av ++ [yv], ?_, r6, upd_same, nD5, ?_, by simp; omega, ?_, g'⟩
              · refine ⟨ext25.pre, fun a o h n => ?_, ext25.new⟩
                have ne : a ≠ D := fun z => by rw [z, hD] at h; cases h
                rw [upd_ne ne]
                exact ext25.keep a o h n
              · exact RVs.append _ _ _ _ (rvs6 _ _ (RVs.ext rel4 ext5 _ _ rva4)) (RVs.cons (rv6 _ _ rvy) RVs.nil)
              · have rs5 := rs4.ext rel4 ext5
                exact ⟨rs5.len, fun i d h => let ⟨v, h1, h2⟩ := rs5.at_ i d h; ⟨v, h1, rv6 _ _ h2⟩⟩
    · rintro H2 ⟨_, ρ2, m2, acc, av, ext2, rel2, hD2, nD, rva, hav, rs2, g⟩
      rw [List.drop_length] at g
      have st := guard g
      unfold lcD at g
      rw [if_pos st] at g
      exact g H2 ρ2 D av (ext.trans ext2) rel2 (Ext.nofree rel1 ext hD) hD2 rva nD
end Mi

set_option linter.all false
set_option autoImplicit false
set_option Elab.async false
set_option maxRecDepth 100000
set_option maxHeartbeats 4000000
/-! Mi9: statements. -/
namespace Mi
open PySem L2
def GS (K : PySem.W.Frag) (D : Ends) (H : Hp) (ρ : List Addr) : Out → Prop
  | .nx σ m => ∀ H' ρ' τ, Ext H ρ H' ρ' → Rel K H' ρ' m → RS K H' ρ' σ τ → D.nx τ H'
  | .rt d m => ∀ H' ρ' v, Ext H ρ H' ρ' → Rel K H' ρ' m → RV K H' ρ' d v → D.rt v H'
  | .bk σ m => ∀ H' ρ' τ, Ext H ρ H' ρ' → Rel K H' ρ' m → RS K H' ρ' σ τ → D.bk τ H'
  | .ct σ m => ∀ H' ρ' τ, Ext H ρ H' ρ' → Rel K H' ρ' m → RS K H' ρ' σ τ → D.ct τ H'
  | .exc _ _ _ => False
  | .bad => False
def Ps (K : PySem.W.Frag) (F : Sl → M → Out) : TS := fun D τ H => ∃ ρ σ m, Rel K H ρ m ∧ RS K H ρ σ τ ∧ GS K D H ρ (F σ m)
section
variable {K : PySem.W.Frag} {D : Ends} {H H' : Hp} {ρ ρ' : List Addr} {τ : St}
theorem GS.later {o : Out} (h : GS K D H ρ o) (x : Ext H ρ H' ρ') : GS K D H' ρ' o := by
  cases o with
  | nx σ m => exact fun H2 ρ2 b y z w => h H2 ρ2 b (x.trans y) z w
  | rt d m => exact fun H2 ρ2 b y z w => h H2 ρ2 b (x.trans y) z w
  | bk σ m => exact fun H2 ρ2 b y z w => h H2 ρ2 b (x.trans y) z w
  | ct σ m => exact fun H2 ρ2 b y z w => h H2 ρ2 b (x.trans y) z w
  | exc => exact h
  | bad => exact h
theorem GS.out {α β : Type} {A : Hp → List Addr → α → β → Prop} {r : R α} {f : α → M → Out} (h : GS K D H ρ (r.out f)) : GF K A (fun b H1 => ∃ ρ1 m1 a, Ext H ρ H1 ρ1 ∧ Rel K H1 ρ1 m1 ∧ A H1 ρ1 a b ∧ GS K D H1 ρ1 (f a m1)) H ρ r := by
  cases r with
  | ok a m => exact fun H1 ρ1 b x y z => ⟨ρ1, m, a, x, y, z, GS.later h x⟩
  | exc => exact h
  | bad => exact h
theorem Ps.out {α β : Type} {A : Hp → List Addr → α → β → Prop} {F : Sl → M → R α} {G : Sl → α → M → Out} (h : Ps K (fun σ m => (F σ m).out (G σ)) D τ H) {Q' : β → Hp → Prop}
    (k : ∀ b H1 ρ1 σ m1 a, Rel K H1 ρ1 m1 → RS K H1 ρ1 σ τ → A H1 ρ1 a b → GS K D H1 ρ1 (G σ a m1) → Q' b H1) : Rd K A F τ H Q' := by
  obtain ⟨ρ, σ, m, rel, rs, h⟩ := h
  refine ⟨ρ, σ, m, rel, rs, GF.mono (GS.out (A := A) h) ?_⟩
  rintro b H1 ⟨ρ1, m1, a, x, y, z, w⟩
  exact k b H1 ρ1 σ m1 a y (rs.ext rel x) z w
theorem gs_nx {σ : Sl} {m : M} (h : GS K D H ρ (.nx σ m)) (r : Rel K H ρ m) (rs : RS K H ρ σ τ) : D.nx τ H := h H ρ τ (Ext.refl _ _) r rs
theorem gs_rt {d : Mi.D} {m : M} {v : V} (h : GS K D H ρ (.rt d m)) (r : Rel K H ρ m) (rs : RV K H ρ d v) : D.rt v H := h H ρ v (Ext.refl _ _) r rs
/-- another end where it is wanted the same -/
theorem GS.imp {D' : Ends} {o : Out} (h : GS K D H ρ o) (h1 : ∀ τ H, D.nx τ H → D'.nx τ H) (h2 : ∀ v H, D.rt v H → D'.rt v H) (h3 : ∀ τ H, D.bk τ H → D'.bk τ H) (h4 : ∀ τ H, D.ct τ H → D'.ct τ H) : GS K D' H ρ o := by
  cases o with
  | nx σ m => exact fun H2 ρ2 b y z w => h1 _ _ (h H2 ρ2 b y z w)
  | rt d m => exact fun H2 ρ2 b y z w => h2 _ _ (h H2 ρ2 b y z w)
  | bk σ m => exact fun H2 ρ2 b y z w => h3 _ _ (h H2 ρ2 b y z w)
  | ct σ m => exact fun H2 ρ2 b y z w => h4 _ _ (h H2 ρ2 b y z w)
  | exc => exact h
  | bad => exact h
end
section
variable {X : L2.Cx} {a b e : Expr} {F G : Sl → M → R D} {pos : Pos} {st : Stmt} {rest : List Stmt} {S1 S2 : Sl → M → Out}
theorem sNil : PSs X [] (Ps X.K fun σ m => .nx σ m) := PSs.imp pss_nil fun D τ H ⟨ρ, σ, m, rel, rs, h⟩ => gs_nx h rel rs
theorem sCons (h1 : PS X st (Ps X.K S1)) (h2 : PSs X rest (Ps X.K S2)) : PSs X (st :: rest) (Ps X.K fun σ m => (S1 σ m).bind S2) := by
  refine PSs.imp (pss_cons h1 h2) fun D τ H ⟨ρ, σ, m, rel, rs, h⟩ => ⟨ρ, σ, m, rel, rs, ?_⟩
  dsimp only at h
  cases q : S1 σ m with
  | nx σ1 m1 =>
    rw [q] at h
    exact fun H1 ρ1 τ1 ext rel1 rs1 => ⟨ρ1, σ1, m1, rel1, rs1, GS.later h ext⟩
  | rt d m => rw [q] at h; exact h
  | bk d m => rw [q] at h; exact h
  | ct d m => rw [q] at h; exact h
  | exc => rw [q] at h; exact h
  | bad => rw [q] at h; exact h
theorem pgL_of {K : PySem.W.Frag} {D : Ends} {x : Tg} {v : V} {τ : St} {H1 : Hp} {ρ1 : List Addr} {σ : Sl} {m1 : M} {d : Mi.D} (rel : Rel K H1 ρ1 m1) (rs : RS K H1 ρ1 σ τ) (rv : RV K H1 ρ1 d v) (h1 : GS K D H1 ρ1 (match setT x (lstT x d m1) σ with
    | some σ1 => .nx σ1 m1
    | none => .bad)) : PgL K x v τ H1 D.nx := by
  cases q : setT x (lstT x d m1) σ with
  | none => rw [q] at h1; exact h1.elim
  | some σ1 =>
    rw [q] at h1
    have plain : lstT x d m1 = d → PgL K x v τ H1 D.nx := fun e => by
      rw [e] at q
      exact .inl ⟨ρ1, σ, m1, d, σ1, rel, rs, rv, q, fun τ' rs' _ => gs_nx h1 rel rs'⟩
    cases x with
    | nm i => exact plain rfl
    | tp is =>
      cases d with
      | ref l =>
        cases e : m1[l]? with
        | none => exact plain (by unfold lstT; simp only [e])
        | some o =>
          cases o with
          | dic kvs => exact plain (by unfold lstT; simp only [e])
          | lst ds =>
            have e3 : lstT (.tp is) (.ref l) m1 = .tup ds := by unfold lstT; simp only [e]
            rw [e3] at q
            exact .inr ⟨is, ρ1, σ, m1, l, ds, σ1, rfl, rel, rs, rv, e, q, fun τ' rs' _ => gs_nx h1 rel rs'⟩
      | _ => exact plain rfl
theorem sAsg {tg : Expr} {x : Tg} (he : PE X e (Pd X.K F)) (hg : PG X tg (PgL X.K x)) (hs : swapsWithSole [tg] e pos.line X.env = pure false) (hw : swappedStores [tg] e X.env = pure none) (h1 : (assignEach [tg] X.env).map (·.2) = [assign tg X.env]) :
    PS X (.Assign [tg] e pos) (Ps X.K fun σ m => (F σ m).out fun d m1 => (match setT x (lstT x d m1) σ with
    | some σ1 => .nx σ1 m1
    | none => .bad)) := by
  refine PS.imp (ps_asg he hg hs hw h1) fun D τ H h => ?_
  refine Ps.out (A := RV X.K) (G := fun σ d m1 => (match setT x (lstT x d m1) σ with
    | some σ1 => .nx σ1 m1
    | none => .bad)) h fun v H1 ρ1 σ m1 d rel rs rv h1 => pgL_of rel rs rv h1
/-- a store of a list's item -/
theorem sSix (hu : X.A.units + 65 < cLine) {o i : Expr} {tpos : Pos} {Fo Fi : Sl → M → R D} (he : PE X e (Pd X.K F)) (ho : PE X o (Pd X.K Fo)) (hi : PE X i (Pd X.K Fi)) (ha : ∀ v, assign (.Subscript o i tpos) X.env v = (do
      let ov ← holding [v] (eval o X.env)
      let iv ← holding [v, ov] (eval i X.env)
      standAt tpos
      holding [v, ov, iv] (setItem ov iv v)
      release [v, ov, iv] [])) (hs : swapsWithSole [.Subscript o i tpos] e pos.line X.env = pure false) (hw : swappedStores [.Subscript o i tpos] e X.env = pure none) (h1 : (assignEach [.Subscript o i tpos] X.env).map (·.2) = [assign (.Subscript o i tpos) X.env]) :
    PS X (.Assign [.Subscript o i tpos] e pos) (Ps X.K fun σ m => (F σ m).out fun v m1 => (Fo σ m1).out fun x m2 => (Fi σ m2).out fun y m3 => (match setD x y v m3 with
    | some m4 => .nx σ m4
    | none => .bad)) := by
  refine PS.imp (ps_asg he (pg_sub ho hi (oSet hu) ha) hs hw h1) fun D τ H h => ?_
  refine Ps.out (A := RV X.K) (G := fun σ v m1 => (Fo σ m1).out fun x m2 => (Fi σ m2).out fun y m3 => (match setD x y v m3 with
    | some m4 => .nx σ m4
    | none => .bad)) h fun v H1 ρ1 σ m1 dv rel rs rv h1 => ⟨ρ1, σ, m1, rel, rs, GF.mono (GS.out (A := RV X.K) h1) ?_⟩
  rintro x H2 ⟨ρ2, m2, dx, ext2, rel2, rx, h2⟩
  refine ⟨ρ2, σ, m2, rel2, rs.ext rel ext2, GF.mono (GS.out (A := RV X.K) h2) ?_⟩
  rintro y H3 ⟨ρ3, m3, dy, ext3, rel3, ry, h3⟩
  refine ⟨ρ3, m3, dx, dy, dv, rel3, RV.ext rel2 ext3 _ _ rx, ry, RV.ext rel2 ext3 _ _ (RV.ext rel ext2 _ _ rv), ?_⟩
  cases q : setD dx dy dv m3 with
  | none => rw [q] at h3; exact h3.elim
  | some m4 =>
    rw [q] at h3
    exact fun H4 ρ4 ext4 rel4 => h3 H4 ρ4 τ ext4 rel4 (((rs.ext rel ext2).ext rel2 ext3).ext rel3 ext4)
theorem oAug (o : Bop) : PIp X (bopO o) (R2m X.K (augD o)) := by
  intro pins s σ H x y v u Q I rx ry h
  obtain ⟨ρ, m, dx, dy, r, hx, hy, h⟩ := h
  cases dx with
  | int i =>
    obtain rfl := rv_int hx
    cases dy with
    | int j =>
      obtain rfl := rv_int hy
      cases o with
      | add => exact iop_add pins s σ H _ _ v u Q I rx ry ⟨i, j, rfl, rfl, gf_ok h r (rvI _)⟩
      | sub => exact iop_sub pins s σ H _ _ v u Q I rx ry ⟨i, j, rfl, rfl, gf_ok h r (rvI _)⟩
      | mul =>
        unfold augD at h
        dsimp only at h
        by_cases hc : smallF i ∨ smallF j
        · rw [if_pos hc] at h
          exact iop_mul pins s σ H _ _ v u Q I rx ry ⟨i, j, rfl, rfl, small_mul hc, gf_ok h r (rvI _)⟩
        · rw [if_neg hc] at h
          exact h.elim
      | _ => exact h.elim
    | _ => cases o <;> exact h.elim
  | str a =>
    obtain ⟨rfl, sa⟩ := rv_str hx
    cases dy with
    | str b =>
      obtain ⟨rfl, sb⟩ := rv_str hy
      cases o with
      | add =>
        unfold augD at h
        dsimp only at h
        by_cases hc : a.length + b.length ≤ line
        · rw [if_pos hc] at h
          exact iop_add_str pins s σ H _ _ v u Q I rx ry ⟨a, b, rfl, rfl, by rw [← line_eq]; exact hc, gf_ok h r (rvS (sa.append sb hc))⟩
        · rw [if_neg hc] at h
          exact h.elim
      | _ => exact h.elim
    | _ => cases o <;> exact h.elim
  | _ => cases dy <;> cases o <;> exact h.elim
theorem sAug {i : Nat} {y : Str} {pos' : Pos} {o : Bop} (hN : X.N.Nodup) (hi : X.N[i]? = some y) (hx : Loc X.env.scope y) (hf : X.fn y = true ∨ X.env.scope.names.lookup y = some .local) (he : PE X e (Pd X.K F)) :
    PS X (.AugAssign (.Name y pos') (bopO o) e pos) (Ps X.K fun σ m => (match σ[i]? with
    | some (some x) => (F σ m).out fun y m1 => (augD o x y m1).out fun z m2 => .nx (σ.set i (some z)) m2
    | _ => .bad)) := by
  refine PS.imp (ps_aug hN hi hx he (oAug o) hf) fun D τ H ⟨ρ, σ, m, rel, rs, h⟩ => ?_
  dsimp only at h
  split at h
  · rename_i dx q
    obtain ⟨x, hx1, rvx⟩ := rs.at_ i dx q
    refine ⟨x, hx1, ρ, σ, m, rel, rs, GF.mono (GS.out (A := RV X.K) h) ?_⟩
    rintro y H1 ⟨ρ1, m1, dy, ext1, rel1, ry, h1⟩
    refine ⟨ρ1, m1, dx, dy, rel1, RV.ext rel ext1 _ _ rvx, ry, GF.mono (GS.out (A := RV X.K) h1) ?_⟩
    rintro z H2 ⟨ρ2, m2, dz, ext2, rel2, rz, h2⟩
    exact gs_nx h2 rel2 (((rs.ext rel ext1).ext rel1 ext2).set i rz)
  · exact h.elim
theorem sExp (he : PE X e (Pd X.K F)) (hs : swapsWith e none pos.line X.env = pure false) : PS X (.Expr e pos) (Ps X.K fun σ m => (F σ m).out fun _ m1 => .nx σ m1) := by
  refine PS.imp (ps_expr he hs) fun D τ H h => ?_
  exact Ps.out (A := RV X.K) (G := fun σ _ m1 => .nx σ m1) h fun v H1 ρ1 σ m1 d rel rs rv h1 => gs_nx h1 rel rs
theorem sRet (he : PE X e (Pd X.K F)) : PS X (.Return (some e) pos) (Ps X.K fun σ m => (F σ m).out fun d m1 => .rt d m1) := by
  refine PS.imp (ps_ret he) fun D τ H h => ?_
  exact Ps.out (A := RV X.K) (G := fun σ d m1 => .rt d m1) h fun v H1 ρ1 σ m1 d rel rs rv h1 => gs_rt h1 rel rv
theorem sRetN : PS X (.Return none pos) (Ps X.K fun _ m => .rt .non m) := PS.imp ps_retN fun D τ H ⟨ρ, σ, m, rel, rs, h⟩ => gs_rt h rel rvN
theorem sIf {c : Expr} {p q : List Stmt} {T : Sl → M → R Bool} (hc : PT X c (Pt X.K T)) (ha : PSs X p (Ps X.K S1)) (hb : PSs X q (Ps X.K S2)) :
    PS X (.If c p q pos) (Ps X.K fun σ m => (T σ m).out fun k m1 => if k = true then S1 σ m1 else S2 σ m1) := by
  refine PS.imp (ps_if hc ha hb) fun D τ H h => ?_
  refine Ps.out (A := EqA) (G := fun σ k m1 => if k = true then S1 σ m1 else S2 σ m1) h fun k H1 ρ1 σ m1 d rel rs e h1 => ?_
  have e : k = d := e
  subst e
  cases k with
  | true => exact ⟨ρ1, σ, m1, rel, rs, h1⟩
  | false => exact ⟨ρ1, σ, m1, rel, rs, h1⟩
theorem sBrk : PS X (.Break pos) (Ps X.K fun σ m => .bk σ m) := PS.imp ps_break fun D τ H ⟨ρ, σ, m, rel, rs, h⟩ => h H ρ τ (Ext.refl _ _) rel rs
theorem sCnt : PS X (.Continue pos) (Ps X.K fun σ m => .ct σ m) := PS.imp ps_continue fun D τ H ⟨ρ, σ, m, rel, rs, h⟩ => h H ρ τ (Ext.refl _ _) rel rs
theorem sPas : PS X (.Pass pos) (Ps X.K fun σ m => .nx σ m) := PS.imp ps_pass fun D τ H ⟨ρ, σ, m, rel, rs, h⟩ => gs_nx h rel rs
/-! ### loops -/
theorem forD_stands {set : D → Sl → Option Sl} {st : M → Prop} {b : Sl → M → Out} {K : PySem.W.Frag} {D : Ends} {H : Hp} {ρ : List Addr} {ds : List Mi.D} {σ : Sl} {m : M} (g : GS K D H ρ (forD set st b ds σ m)) : st m := by
  refine Classical.byContradiction fun n => ?_
  cases ds with
  | nil => unfold forD at g; rw [if_neg n] at g; exact g
  | cons d ds => unfold forD at g; rw [if_neg n] at g; exact g
theorem sFor {tg iter : Expr} {body : List Stmt} {x : Tg} {FI : Sl → M → R IV} (hp : PassesOwn (model X.prog X.w) X.A X.env X.xe) (hc : X.calm = true) (hi : PI X tg iter (Pi X.K FI)) (hg : PG X tg (Pg X.K x)) (hb : PSs X body (Ps X.K S1))
    (hs : ∀ x, foldedSetIterable iter X.env x = pure x) : PS X (.For tg iter body [] pos) (Ps X.K fun σ m => (FI σ m).out fun v m1 => forD (setT x) v.stands S1 v.xs σ m1) := by
  refine PS.imp (ps_for hp hc hi hg hb hs) fun D τ H h => ?_
  refine Ps.out (A := RIt X.K) (G := fun σ v m1 => forD (setT x) v.stands S1 v.xs σ m1) h fun J H1 ρ1 σ m1 v rel rs rit h1 => ?_
  obtain ⟨G, Y, W, gd, yl, sz⟩ := rit.ex
  refine for_it W (Pv := fun i τ2 H2 => ∃ ρ2 σ2 m2, Ext H1 ρ1 H2 ρ2 ∧ Rel X.K H2 ρ2 m2 ∧ RS X.K H2 ρ2 σ2 τ2 ∧ GS X.K D H2 ρ2 (forD (setT x) v.stands S1 (v.xs.drop i) σ2 m2)) ?_ ?_ ?_ ?_
  · exact ⟨ρ1, σ, m1, Ext.refl _ _, rel, rs, h1⟩
  · rintro i τ2 H2 hi ⟨ρ2, σ2, m2, ext2, rel2, rs2, g⟩
    exact gd H2 ρ2 m2 ext2 rel2 (forD_stands g)
  · rintro i y τ2 H2 H3 hi ⟨ρ2, σ2, m2, ext2, rel2, rs2, g⟩ hy
    have st := forD_stands g
    obtain ⟨d, hd, ext3, rel3, rvd⟩ := yl i H2 y H3 ρ2 m2 ext2 rel2 st hy
    have hdrop : v.xs.drop i = d :: v.xs.drop (i + 1) := by
      rw [List.drop_eq_getElem_cons hi]
      rw [List.getElem?_eq_getElem hi] at hd
      cases hd
      rfl
    rw [hdrop] at g
    unfold forD at g
    rw [if_pos st] at g
    cases q1 : setT x d σ2 with
    | none => rw [q1] at g; exact g.elim
    | some σ3 =>
      rw [q1] at g
      dsimp only at g
      refine ⟨ρ2, σ2, m2, d, σ3, rel3, rs2.ext rel2 ext3, rvd, q1, fun τ3 rs3 _ => ⟨ρ2, σ3, m2, rel3, rs3, ?_⟩⟩
      have g3 := GS.later g ext3
      cases q2 : S1 σ3 m2 with
      | nx σ4 m4 =>
        rw [q2] at g3
        exact fun H4 ρ4 τ4 ext4 rel4 rs4 => ⟨ρ4, σ4, m4, (ext2.trans ext3).trans ext4, rel4, rs4, GS.later g3 ext4⟩
      | ct σ4 m4 =>
        rw [q2] at g3
        exact fun H4 ρ4 τ4 ext4 rel4 rs4 => ⟨ρ4, σ4, m4, (ext2.trans ext3).trans ext4, rel4, rs4, GS.later g3 ext4⟩
      | bk σ4 m4 => rw [q2] at g3; exact g3
      | rt d4 m4 => rw [q2] at g3; exact g3
      | exc => rw [q2] at g3; exact g3
      | bad => rw [q2] at g3; exact g3
  · rintro τ2 H2 ⟨ρ2, σ2, m2, ext2, rel2, rs2, g⟩
    rw [List.drop_length] at g
    have st := forD_stands g
    unfold forD at g
    rw [if_pos st] at g
    exact gs_nx g rel2 rs2
theorem sWhl {c : Expr} {body : List Stmt} {T : Sl → M → R Bool} {n : Nat} (hp : PassesOwn (model X.prog X.w) X.A X.env X.xe) (hc : PT X c (Pt X.K T)) (hb : PSs X body (Ps X.K S1)) :
    PS X (.While c body [] pos) (Ps X.K fun σ m => whlD T S1 n σ m) := by
  refine PS.imp (ps_while hp hc hb) fun D τ H ⟨ρ, σ, m, rel, rs, h⟩ => ?_
  refine ⟨fun k τ2 H2 => ∃ ρ2 σ2 m2, Rel X.K H2 ρ2 m2 ∧ RS X.K H2 ρ2 σ2 τ2 ∧ GS X.K D H2 ρ2 (whlD T S1 k σ2 m2), ⟨n, ρ, σ, m, rel, rs, h⟩, ?_⟩
  rintro k τ2 H2 ⟨ρ2, σ2, m2, rel2, rs2, g⟩
  cases k with
  | zero => exact g.elim
  | succ k =>
    unfold whlD at g
    refine ⟨ρ2, σ2, m2, rel2, rs2, ?_⟩
    cases q : T σ2 m2 with
    | exc => rw [q] at g; exact g.elim
    | bad => rw [q] at g; exact g.elim
    | ok b m3 =>
      rw [q] at g
      intro H3 ρ3 b' ext3 rel3 eb
      have eb : b' = b := eb
      subst eb
      have rs3 := rs2.ext rel2 ext3
      have g3 := GS.later g ext3
      cases b' with
      | false =>
        rw [if_neg Bool.false_ne_true]
        exact gs_nx g3 rel3 rs3
      | true =>
        rw [if_pos rfl]
        refine ⟨fun τ' H' => ∃ ρ2 σ2 m2, Rel X.K H' ρ2 m2 ∧ RS X.K H' ρ2 σ2 τ' ∧ GS X.K D H' ρ2 (whlD T S1 k σ2 m2), fun τ' H' q => ⟨k, Nat.lt_succ_self _, q⟩, ρ3, σ2, m3, rel3, rs3, ?_⟩
        dsimp only at g3
        cases q2 : S1 σ2 m3 with
        | nx σ4 m4 =>
          rw [q2] at g3
          exact fun H4 ρ4 τ4 ext4 rel4 rs4 => ⟨ρ4, σ4, m4, rel4, rs4, GS.later g3 ext4⟩
        | ct σ4 m4 =>
          rw [q2] at g3
          exact fun H4 ρ4 τ4 ext4 rel4 rs4 => ⟨ρ4, σ4, m4, rel4, rs4, GS.later g3 ext4⟩
        | bk σ4 m4 => rw [q2] at g3; exact g3
        | rt d4 m4 => rw [q2] at g3; exact g3
        | exc => rw [q2] at g3; exact g3
        | bad => rw [q2] at g3; exact g3
end
end Mi

set_option linter.all false
set_option autoImplicit false
set_option Elab.async false
set_option maxRecDepth 100000
set_option maxHeartbeats 8000000
/-! Mi10: which term fits which syntax; the run is sound. -/
namespace Mi
open PySem L2
structure Inf where
  /-- names of defs, their places, how many arguments -/
  fns : List (Str × Nat × Nat)
  cons : List (Str × Nat)
  dics : List (Str × List (Str × Int)) := []
def visB (sc : Scope) (x : Str) : Bool := match sc.names.lookup x with
  | some .local => true
  | some .cell => true
  | some .free => true
  | _ => false
def locB (sc : Scope) (x : Str) : Bool := match sc.names.lookup x with
  | some .local => true
  | some .cell => true
  | _ => false
def glB (sc : Scope) (x : Str) : Bool := match sc.names.lookup x with
  | some .globalImplicit => true
  | _ => false
def nmB (x : Str) : Bool := !(x == ("__debug__" : Str)) && !(x == ("__classdict__" : Str))
def plainB : Expr → Bool
  | .Starred _ _ => false
  | _ => true
def noCompB : Expr → Bool
  | .ListComp .. => false
  | .SetComp .. => false
  | .DictComp .. => false
  | _ => true
def noTupB : Expr → Bool
  | .Tuple .. => false
  | _ => true
def plainTB : Expr → Bool
  | .UnaryOp .. => false
  | .BoolOp .. => false
  | .IfExp .. => false
  | .Compare .. => false
  | _ => true
def haltB : Expr → Bool
  | .ListComp .. => false
  | x => plainTB x
theorem halt_plain {x : Expr} (h : haltB x = true) : plainTB x = true := by
  unfold haltB at h
  split at h
  · cases h
  · exact h
def noSliceB : Expr → Bool
  | .Slice .. => false
  | _ => true
def noSetB : Expr → Bool
  | .Set .. => false
  | _ => true
def noCallB : Expr → Bool
  | .Call (.Name ..) [] [] _ => false
  | _ => true
theorem vis_ok {sc : Scope} {x : Str} (h : visB sc x = true) : Vis sc x := by
  unfold visB at h
  split at h
  · exact .inl (by assumption)
  · exact .inr (.inl (by assumption))
  · exact .inr (.inr (by assumption))
  · cases h
theorem loc_ok {sc : Scope} {x : Str} (h : locB sc x = true) : Loc sc x := by
  unfold locB at h
  split at h
  · exact .inl (by assumption)
  · exact .inr (by assumption)
  · cases h
theorem gl_ok {X : L2.Cx} {x : Str} (h : glB X.env.scope x = true) : Gl X x := by
  unfold glB at h
  split at h
  · assumption
  · cases h
theorem nm_ok {x : Str} (h : nmB x = true) : (x == ("__debug__" : Str)) = false ∧ (x == ("__classdict__" : Str)) = false := by
  unfold nmB at h
  rw [Bool.and_eq_true] at h
  exact ⟨by simpa using h.1, by simpa using h.2⟩
theorem star_ok {e : Expr} (h : plainB e = true) (es : List Expr) (env : Env) : starEach (e :: es) env = (false, eval e env) :: starEach es env := by
  cases e <;> first | rfl | cases h
theorem noComp_ok {e : Expr} (h : noCompB e = true) (t : Option Expr) (l : Nat) (env : Env) : swapsWith e t l env = pure false := by
  cases e <;> first | rfl | cases h
theorem plainT_ok {e : Expr} (h : plainTB e = true) (env : Env) (whole : Sem Value) : isTrue e env whole = (do let v ← whole; standAt e.pos; holding [v] (truthy v)) := by
  cases e <;> first | rfl | cases h
theorem plainIx_ok {e : Expr} (h : noSliceB e = true) : PlainIx e := fun o i => by
  cases e <;> first | rfl | cases h
theorem noSet_ok {e : Expr} (h : noSetB e = true) (env : Env) (x : Value) : foldedSetIterable e env x = pure x := by
  cases e <;> first | rfl | cases h
theorem base_ok {e : Expr} (h : noCallB e = true) (a : Str) (env : Env) (w : Sem Value) : attributeBase e a env w = w := by
  unfold noCallB at h
  split at h
  · cases h
  · rename_i n
    unfold attributeBase
    split
    · exact absurd rfl (n _ _ _)
    · rfl
theorem assign_sub {o i : Expr} (h : noSliceB i = true) (pos : Pos) (env : Env) (v : Value) : assign (.Subscript o i pos) env v = (do
      let ov ← holding [v] (eval o env)
      let iv ← holding [v, ov] (eval i env)
      standAt pos
      holding [v, ov, iv] (setItem ov iv v)
      release [v, ov, iv] []) := by
  cases i <;> first | rfl | cases h
theorem back_ok (pos : Pos) (env : Env) : ∀ es : List Expr, es.all plainB = true → (backTo pos (starEach es env)).any (·.1) = false ∧ (backTo pos (starEach es env)).all (fun x => !x.1) = true
  | [], _ => ⟨rfl, rfl⟩
  | e :: es, h => by
    rw [List.all_cons, Bool.and_eq_true] at h
    obtain ⟨h1, h2⟩ := back_ok pos env es h.2
    rw [star_ok h.1]
    exact ⟨by show (false || (backTo pos (starEach es env)).any (·.1)) = false; rw [h1]; rfl, by show (true && (backTo pos (starEach es env)).all (fun x => !x.1)) = true; rw [h2]; rfl⟩

/-! ### the look -/
def biNm : Bi → Str
  | .len => "len" | .abs => "abs" | .int => "int" | .min => "min" | .max => "max" | .list => "list" | .tuple => "tuple" | .all => "all" | .any => "any" | .sum => "sum"
  | .repr => "repr" | .str => "str" | .ord => "ord" | .chr => "chr" | .dict => "dict"
def meNm : Me → Str
  | .append => "append" | .pop => "pop" | .get => "get" | .startswith => "startswith" | .split => "split" | .join => "join"
  | .index => "index" | .extend => "extend" | .insert => "insert" | .lower => "lower" | .upper => "upper" | .strip => "strip" | .sindex => "index"
def tyNm : Ty → Str
  | .int => "int" | .bool => "bool" | .str => "str" | .list => "list" | .tuple => "tuple" | .dict => "dict"
def biNames : List Str := ["len", "abs", "int", "min", "max", "list", "tuple", "all", "any", "sum", "isinstance", "bool", "str", "dict", "range", "repr", "ord", "chr", "zip", "sorted", "set"]
def cstB (d : D) (c : Const) : Bool := match d, c with
  | .non, .none => true
  | .bl b, .bool k => b == k
  | .int i, .int j => decide (i = j)
  | .str x, .str y => decide (x = y) && PyData.strOk x && decide (x.length ≤ 1000000)
  | _, _ => false
def isL : E → Bool
  | .lst _ => true
  | .lc .. => true
  | _ => false
/-- may stand as a test -/
def isT : E → Bool
  | .ife .. => false
  | .and a b => isT a && isT b
  | .or a b => isT a && isT b
  | .nt a => isT a
  | _ => true
def tyB (sc : Scope) (t : Ty) (e : Expr) : Bool := match e with
  | .Name x _ => decide (x = tyNm t) && glB sc x
  | _ => false
def tysB (sc : Scope) : List Ty → List Expr → Bool
  | [], [] => true
  | t :: ts, e :: es => tyB sc t e && tysB sc ts es
  | _, _ => false
def isiB (sc : Scope) (one : Bool) (ts : List Ty) (r : Expr) : Bool := match one with
  | true => (match ts with
    | [t] => tyB sc t r
    | _ => false)
  | false => (match r with
    | .Tuple es _ _ => tysB sc ts es && decide (es.length ≤ 100)
    | _ => false)
def ownOf (N : List Str) (vs : List Nat) : List (Str × Nat) := vs.map fun i => (N.getD i Str.empty, i)
/-- a target: its names, at their places, may be stored -/
def nmsB (N : List Str) (sc : Scope) (fb : Str → Bool) : List Nat → List Expr → Bool
  | [], [] => true
  | i :: is, .Name y _ :: es => decide (N[i]? = some y) && locB sc y && fb y && nmsB N sc fb is es
  | _, _ => false
def tgB (N : List Str) (sc : Scope) (fb : Str → Bool) (x : Tg) (e : Expr) : Bool := match x, e with
  | .nm i, .Name y _ => decide (N[i]? = some y) && locB sc y && fb y
  | .tp is, .Tuple es _ _ => nmsB N sc fb is es
  | _, _ => false
/-- over zip the target is a tuple of names -/
def zipOk (it : It) (tg : Expr) : Bool := match it with
  | .zip _ _ => (match tg with
    | .Tuple _ _ _ => true
    | _ => false)
  | _ => true
/-- a display's keys: constants -/
def keysB : List D → List (Option Expr) → Bool
  | [], [] => true
  | d :: ds, some (.Constant c _ _) :: r => cstB d c && (keyD d).isSome && keysB ds r
  | _, _ => false
mutual
def chkE (I : Inf) (N : List Str) : E → Scope → Expr → Bool
  | .var i, sc, x => (match x with
    | .Name y _ => decide (N[i]? = some y) && visB sc y && nmB y
    | _ => false)
  | .cst d, _, x => (match x with
    | .Constant c _ _ => cstB d c
    | _ => false)
  | .glo y g, sc, x => (match x with
    | .Name z _ => decide (z = y) && decide ((y, g) ∈ I.cons) && glB sc y && nmB y
    | _ => false)
  | .bin o a b, sc, x => (match x with
    | .BinOp l p r _ => decide (p = bopO o) && chkE I N a sc l && chkE I N b sc r
    | _ => false)
  | .neg a, sc, x => (match x with
    | .UnaryOp .USub l _ => chkE I N a sc l
    | _ => false)
  | .nt a, sc, x => (match x with
    | .UnaryOp .Not l _ => chkE I N a sc l
    | _ => false)
  | .cmp o a b, sc, x => (match x with
    | .Compare l [p] [r] _ => decide (p = copO o) && !behindInMarks p r && chkE I N a sc l && chkE I N b sc r
    | _ => false)
  | .ch2 o o2 a b c, sc, x => (match x with
    | .Compare l [p, q] [r, t] _ => decide (p = copO o) && decide (q = copO o2) && !lastMarks [p, q] [r, t] && chkE I N a sc l && chkE I N b sc r && chkE I N c sc t
    | _ => false)
  | .ch3 o o2 o3 a b c d, sc, x => (match x with
    | .Compare l [p, q, p3] [r, t, t3] _ => decide (p = copO o) && decide (q = copO o2) && decide (p3 = copO o3) && !lastMarks [p, q, p3] [r, t, t3] && chkE I N a sc l && chkE I N b sc r && chkE I N c sc t && chkE I N d sc t3
    | _ => false)
  | .and a b, sc, x => (match x with
    | .BoolOp .And (l :: r :: rest) pos => chkE I N a sc l && (match rest with
      | [] => chkE I N b sc r
      | s :: rest => chkE I N b sc (.BoolOp .And (r :: s :: rest) pos))
    | _ => false)
  | .or a b, sc, x => (match x with
    | .BoolOp .Or (l :: r :: rest) pos => chkE I N a sc l && (match rest with
      | [] => chkE I N b sc r
      | s :: rest => chkE I N b sc (.BoolOp .Or (r :: s :: rest) pos))
    | _ => false)
  | .ife c a b, sc, x => (match x with
    | .IfExp t l r _ => isT c && chkE I N c sc t && chkE I N a sc l && chkE I N b sc r
    | _ => false)
  | .tup es, sc, x => (match x with
    | .Tuple xs _ _ => chkEs I N es sc xs && decide (xs.length ≤ 1000)
    | _ => false)
  | .lst es, sc, x => (match x with
    | .List xs _ => chkEs I N es sc xs && decide (xs.length ≤ 1000)
    | _ => false)
  | .dct0, _, x => (match x with
    | .Dict [] [] _ => true
    | _ => false)
  | .dct ks es, sc, x => (match x with
    | .Dict keys vals _ => keysB ks keys && chkEs I N es sc vals && decide (keys.length = vals.length) && decide (keys.length ≤ 15) && !keys.isEmpty
    | _ => false)
  | .ix a b, sc, x => (match x with
    | .Subscript l r _ => chkE I N a sc l && chkE I N b sc r && noSliceB r
    | _ => false)
  | .kix y kvs a, sc, x => (match x with
    | .Subscript (.Name z _) r _ => decide (z = y) && decide ((y, kvs) ∈ I.dics) && glB sc y && nmB y && chkE I N a sc r && noSliceB r
    | _ => false)
  | .kgt y kvs es, sc, x => (match x with
    | .Call (.Attribute (.Name z zp) a apos) args [] pos => decide (z = y) && decide (a = "get") && (apos.endLine == pos.line) && decide (args.length < 20) && decide ((y, kvs) ∈ I.dics) && glB sc y && nmB y && chkEs I N es sc args
    | _ => false)
  | .sl a lo hi, sc, x => (match x with
    | .Subscript l (.Slice y z none _) _ => chkE I N a sc l && chkO I N lo sc y && chkO I N hi sc z
    | _ => false)
  | .fn y f es, sc, x => (match x with
    | .Call (.Name z _) args [] _ => decide (z = y) && decide ((y, f, args.length) ∈ I.fns) && glB sc y && nmB y && chkEs I N es sc args
    | _ => false)
  | .bi f es, sc, x => (match x with
    | .Call (.Name z _) args [] _ => decide (z = biNm f) && glB sc z && !args.isEmpty && chkEs I N es sc args
    | _ => false)
  | .ss e, sc, x => (match x with
    | .Call (.Name z _) [.Call (.Name z2 _) [a] [] _] [] _ => decide (z = "sorted") && decide (z2 = "set") && glB sc z && glB sc z2 && plainB a && chkE I N e sc a
    | _ => false)
  | .so e, sc, x => (match x with
    | .Call (.Name z _) [a] [] _ => decide (z = "sorted") && glB sc z && plainB a && chkE I N e sc a
    | _ => false)
  | .rv e, sc, x => (match x with
    | .Subscript l (.Slice none none (some (.UnaryOp .USub (.Constant (.int 1) _ _) _)) _) _ => chkE I N e sc l
    | _ => false)
  | .halt, _, x => haltB x
  | .lrp e y z, sc, x => (match x with
    | .Call (.Attribute (.Call (.Attribute l a ap) [] [] pos) a2 ap2) [.Constant (.str y2) _ _, .Constant (.str z2) _ _] [] pos2 => decide (a = "lower") && decide (a2 = "replace") && decide (y2 = y) && decide (z2 = z) && !(y == z) && noCallB l && (ap.endLine == pos.line) && (ap2.endLine == pos2.line) && chkE I N e sc l
    | _ => false)
  | .bt f e, sc, x => (match x with
    | .Call (.Name z _) [a] [] _ => decide (z = biNm f) && glB sc z && isL e && chkE I N e sc a && plainB a
    | _ => false)
  | .me f o es, sc, x => (match x with
    | .Call (.Attribute l a apos) args [] pos => decide (a = meNm f) && noCallB l && (apos.endLine == pos.line) && decide (args.length < 20) && chkE I N o sc l && chkEs I N es sc args
    | _ => false)
  | .isi a one ts, sc, x => (match x with
    | .Call (.Name z _) [l, r] [] _ => decide (z = "isinstance") && glB sc z && chkE I N a sc l && plainB l && isiB sc one ts r
    | _ => false)
  | .lc vs x it ts e, sc, ex => (match ex with
    | .ListComp elt [⟨tg, iter, ifs, asy⟩] scope _ => zipOk it tg && decide (asy = 0) && chkI I N it sc iter && noSetB iter && blkC N sc scope (ownOf N vs) && x.slots.all (fun i => vs.contains i) &&
        tgB N (relS scope sc) (fun y => (scope.names.lookup y == some .cell) || ((relS scope sc).names.lookup y == some .local)) x tg && chkTs I N ts (relS scope sc) ifs && chkE I N e (relS scope sc) elt
    | _ => false)
def chkEs (I : Inf) (N : List Str) : Es → Scope → List Expr → Bool
  | .nil, _, xs => xs.isEmpty
  | .cons e es, sc, xs => (match xs with
    | x :: r => chkE I N e sc x && plainB x && chkEs I N es sc r
    | [] => false)
def chkTs (I : Inf) (N : List Str) : Es → Scope → List Expr → Bool
  | .nil, _, xs => xs.isEmpty
  | .cons e .nil, sc, xs => (match xs with
    | [x] => isT e && chkE I N e sc x
    | _ => false)
  | .cons _ (.cons _ _), _, _ => false
def chkO (I : Inf) (N : List Str) : Eo → Scope → Option Expr → Bool
  | .no, _, x => x.isNone
  | .so e, sc, x => (match x with
    | some x => chkE I N e sc x
    | none => false)
def chkI (I : Inf) (N : List Str) : It → Scope → Expr → Bool
  | .seq e, sc, x => chkE I N e sc x
  | .tmp e, sc, x => isL e && chkE I N e sc x
  | .rng1 b, sc, x => (match x with
    | .Call (.Name z _) [a] [] _ => decide (z = "range") && glB sc z && chkE I N b sc a && plainB a
    | _ => false)
  | .rng2 a b, sc, x => (match x with
    | .Call (.Name z _) [l, r] [] _ => decide (z = "range") && glB sc z && chkE I N a sc l && chkE I N b sc r && plainB l && plainB r
    | _ => false)
  | .rng3 a b c, sc, x => (match x with
    | .Call (.Name z _) [l, r, t] [] _ => decide (z = "range") && glB sc z && chkE I N a sc l && chkE I N b sc r && chkE I N c sc t && plainB l && plainB r && plainB t
    | _ => false)
  | .zip a b, sc, x => (match x with
    | .Call (.Name z _) [l, r] [] _ => decide (z = "zip") && glB sc z && chkE I N a sc l && chkE I N b sc r && plainB l && plainB r
    | _ => false)
end
/-! ### what stands around -/
def spF (K : PySem.W.Frag) (g : List D → M → R D) (n : Nat) : Sp := fun vs H Q _ => vs.length = n ∧ RNm K g vs H Q
/-- a written table, with all of its keys -/
def KDic (K : PySem.W.Frag) (w : World) (a : Addr) (kvs : List (Str × Int)) : Prop :=
  ∃ es n, L2.KDict K w a es n ∧ (∀ k i, (k, i) ∈ kvs → ∃ u, PySem.W.nsIn K a k = some (some u) ∧ RelV (.int i) u) ∧ ∀ k, k ∉ kvs.map (·.1) → PySem.W.nsIn K a k = some none
theorem KDic.dct {K : PySem.W.Frag} {w : World} {a : Addr} {kvs : List (Str × Int)} (h : KDic K w a kvs) {k : Str} {i : Int} (m : (k, i) ∈ kvs) : KDct K w a k (.int i) := by
  obtain ⟨es, n, D, h1, _⟩ := h
  obtain ⟨u, e, r⟩ := h1 k i m
  exact ⟨es, n, u, D.at_, D.lit, e, r⟩
structure Gd (I : Inf) (C : Mi.Cx) (k : Nat) (X : L2.Cx) : Prop where
  calm : X.calm = true
  nd : X.N.Nodup
  room : Room k X.A
  bis : ∀ x ∈ biNames, X.mg x = none
  fns : ∀ y f n, (y, f, n) ∈ I.fns → ∃ a fd ps, ps.length = n ∧ X.mg y = some (.ref a) ∧ PySem.W.keepIn X.K (.ref a) = true ∧ Binds X.K fd ps [] ∧ FnG X.prog X.w X.K X.mg X.base k a fd ps (spF X.K (C.call f) n)
  cons : ∀ y g d, (y, g) ∈ I.cons → C.con g = some d → ∃ u v, X.mg y = some u ∧ RelV v u ∧ ∀ H ρ, RV X.K H ρ d v
  gds : X.A.guards = some []
  dics : ∀ y kvs, (y, kvs) ∈ I.dics → ∃ a, X.mg y = some (.ref a) ∧ KDic X.K X.w a kvs
/-- the same within a comprehension's block -/
theorem Gd.blk {I : Inf} {C : Mi.Cx} {k : Nat} {X : L2.Cx} (g : Gd I C k X) (s : Shared) (H : Hp) (scope : Scope) (cenv : Env) (fp : List Addr) : Gd I C k (X.blk s H scope cenv fp) := ⟨g.calm, g.nd, g.room, g.bis, g.fns, g.cons, g.gds, g.dics⟩
section
variable {I : Inf} {C : Mi.Cx} {k : Nat}
structure SndE (I : Inf) (C : Mi.Cx) (k : Nat) (e : E) : Prop where
  pe : ∀ (X : L2.Cx), Gd I C k X → ∀ x, chkE I X.N e X.env.scope x = true → PE X x (Pd X.K (ev C e))
  pt : isT e = true → ∀ (X : L2.Cx), Gd I C k X → ∀ x, chkE I X.N e X.env.scope x = true → PT X x (Pt X.K (evT C e))
  pl : isL e = true → ∀ (X : L2.Cx), Gd I C k X → ∀ x, chkE I X.N e X.env.scope x = true → PE X x (Pl X.K (evL C e))
def SndEs (I : Inf) (C : Mi.Cx) (k : Nat) (es : Es) : Prop := ∀ (X : L2.Cx), Gd I C k X → ∀ xs, chkEs I X.N es X.env.scope xs = true → PA X xs (Pa X.K (evs C es)) ∧ xs.all plainB = true ∧ ∀ σ m ds m1, evs C es σ m = .ok ds m1 → ds.length = xs.length
def SndTs (I : Inf) (C : Mi.Cx) (k : Nat) (es : Es) : Prop := ∀ (X : L2.Cx), Gd I C k X → ∀ xs, chkTs I X.N es X.env.scope xs = true → PTs X xs (Pt X.K (evTs C es))
def SndO (I : Inf) (C : Mi.Cx) (k : Nat) (e : Eo) : Prop := ∀ (X : L2.Cx), Gd I C k X → ∀ x, chkO I X.N e X.env.scope x = true → PO X x (Po X.K (evo C e))
def SndI (I : Inf) (C : Mi.Cx) (k : Nat) (e : It) : Prop := ∀ (X : L2.Cx), Gd I C k X → ∀ x tg, zipOk e tg = true → chkI I X.N e X.env.scope x = true → PI X tg x (Pi X.K (evI C e))
end
end Mi

set_option linter.all false
set_option autoImplicit false
set_option Elab.async false
set_option maxRecDepth 100000
set_option maxHeartbeats 8000000
/-! Mi11: expressions are sound. -/
namespace Mi
open PySem L2
theorem b2 {a b : Bool} (h : (a && b) = true) : a = true ∧ b = true := Bool.and_eq_true_iff.mp h
theorem bn {a : Bool} (h : (!a) = true) : a = false := by simpa using h
section
variable {I : Inf} {C : Mi.Cx} {k : Nat}
theorem SndE.of {e : E} (pe : ∀ (X : L2.Cx), Gd I C k X → ∀ x, chkE I X.N e X.env.scope x = true → PE X x (Pd X.K (ev C e)) ∧ plainTB x = true) (hl : isL e = false) : SndE I C k e :=
  ⟨fun X g x h => (pe X g x h).1, fun _ X g x h => pTru (pe X g x h).1 (plainT_ok (pe X g x h).2 X.env), fun z => by rw [hl] at z; cases z⟩
theorem Gd.hu {X : L2.Cx} (g : Gd I C k X) : X.A.units + 65 < cLine := by have := g.room.un; omega
theorem e_var (i : Nat) : SndE I C k (.var i) := .of (fun X g x h => by
  unfold chkE at h
  split at h
  · obtain ⟨h1, h2⟩ := b2 h
    obtain ⟨h1, h3⟩ := b2 h1
    obtain ⟨n1, n2⟩ := nm_ok h2
    refine ⟨PE.imp (pe_var (of_decide_eq_true h1) (vis_ok h3) n1 n2) fun τ H Q ⟨ρ, σ, m, rel, rs, q⟩ => ?_, rfl⟩
    unfold ev at q
    split at q
    · rename_i d e
      obtain ⟨v, e2, rv⟩ := rs.at_ i d e
      exact ⟨v, e2, gf_ok q rel rv⟩
    · exact q.elim
  · cases h) rfl
theorem cst_ok {K : PySem.W.Frag} {d : D} {c : Const} (h : cstB d c = true) {X : L2.Cx} {j : Nat} {pos : Pos} : PE X (.Constant c j pos) (Pd X.K fun _ m => .ok d m) := by
  unfold cstB at h
  split at h
  · exact PE.imp pe_non fun τ H Q ⟨ρ, σ, m, rel, rs, q⟩ => gf_ok q rel rvN
  · have e := eq_of_beq h
    subst e
    exact PE.imp pe_bl fun τ H Q ⟨ρ, σ, m, rel, rs, q⟩ => gf_ok q rel (rvB _)
  · have e := of_decide_eq_true h
    subst e
    exact PE.imp pe_int fun τ H Q ⟨ρ, σ, m, rel, rs, q⟩ => gf_ok q rel (rvI _)
  · obtain ⟨h1, h2⟩ := b2 h
    obtain ⟨h1, h3⟩ := b2 h1
    have e := of_decide_eq_true h1
    subst e
    have h2 := of_decide_eq_true h2
    exact PE.imp pe_str fun τ H Q ⟨ρ, σ, m, rel, rs, q⟩ => gf_ok q rel (rvS ⟨h3, by rw [sizeLine_eq]; omega⟩)
  · cases h
theorem e_cst (d : D) : SndE I C k (.cst d) := .of (fun X g x h => by
  unfold chkE at h
  split at h
  · exact ⟨cst_ok (K := X.K) h, rfl⟩
  · cases h) rfl
theorem e_glo (y : Str) (n : Nat) : SndE I C k (.glo y n) := .of (fun X g x h => by
  unfold chkE at h
  split at h
  · obtain ⟨h1, h2⟩ := b2 h
    obtain ⟨h1, h3⟩ := b2 h1
    obtain ⟨h1, h4⟩ := b2 h1
    have e := of_decide_eq_true h1
    subst e
    have h4 := of_decide_eq_true h4
    obtain ⟨n1, n2⟩ := nm_ok h2
    refine ⟨⟨fun pins s σ H Q I ⟨ρ, σm, m, rel, rs, q⟩ => ?_⟩, rfl⟩
    unfold ev at q
    cases e : C.con n with
    | none => rw [e] at q; exact q.elim
    | some d =>
      rw [e] at q
      obtain ⟨u, v, hm, r, hv⟩ := g.cons _ _ _ h4 e
      exact ld_glob I (gl_ok h3) hm ⟨v, H, I, r, gf_ok q rel (hv H ρ)⟩ n1
  · cases h) rfl
theorem e_bin (o : Bop) {a b : E} (ha : SndE I C k a) (hb : SndE I C k b) : SndE I C k (.bin o a b) := .of (fun X g x h => by
  unfold chkE at h
  split at h
  · obtain ⟨h1, h2⟩ := b2 h
    obtain ⟨h1, h3⟩ := b2 h1
    have e := of_decide_eq_true h1
    subst e
    exact ⟨pBin (oBin o) (ha.pe X g _ h3) (hb.pe X g _ h2), rfl⟩
  · cases h) rfl
theorem e_neg {a : E} (ha : SndE I C k a) : SndE I C k (.neg a) := 
  ⟨fun X g x h => by
    unfold chkE at h
    split at h
    · exact pNeg (ha.pe X g _ h)
    · exact Bool.noConfusion h, fun _ X g x h => by
    unfold chkE at h
    split at h
    · refine pTru (a := .UnaryOp .USub _ _) (pNeg (ha.pe X g _ h)) fun w => rfl
    · exact Bool.noConfusion h, fun z => by cases z⟩
theorem evT_nt (C : Mi.Cx) (a : E) (σ : Sl) (m : M) : evT C (.nt a) σ m = (evT C a σ m).bind fun k m1 => .ok (!k) m1 := by
  unfold evT
  conv => lhs; rw [ev]
  cases ev C a σ m with
  | ok x m1 =>
    rw [bind_ok]
    unfold tru
    cases truth x m1 with
    | none => rfl
    | some b => cases b <;> rfl
  | exc => rfl
  | bad => rfl
theorem e_nt {a : E} (ha : SndE I C k a) : SndE I C k (.nt a) := 
  ⟨fun X g x h => by
    unfold chkE at h
    split at h
    · exact pNot (ha.pe X g _ h)
    · exact Bool.noConfusion h, fun t X g x h => by
    unfold chkE at h
    split at h
    · have e : (evT C (.nt a)) = fun σ m => (evT C a σ m).bind fun k m1 => .ok (!k) m1 := funext fun σ => funext fun m => evT_nt C a σ m
      rw [e]
      exact tNot1 (ha.pt t X g _ h)
    · exact Bool.noConfusion h, fun z => by cases z⟩
theorem cmpD_bl (o : Cop) (x y : D) (m : M) : cmpD o x y m = .bad ∨ ∃ b, cmpD o x y m = .ok (.bl b) m := by
  have ob : ∀ (q : Option Bool), bO q m = .bad ∨ ∃ b, bO q m = .ok (.bl b) m := fun q => by
    cases q with
    | none => exact .inl rfl
    | some b => exact .inr ⟨b, rfl⟩
  cases o with
  | lt => unfold cmpD; dsimp only; split; exact .inr ⟨_, rfl⟩; exact .inl rfl
  | le => unfold cmpD; dsimp only; split; exact .inr ⟨_, rfl⟩; exact .inl rfl
  | gt => unfold cmpD; dsimp only; split; exact .inr ⟨_, rfl⟩; exact .inl rfl
  | ge => unfold cmpD; dsimp only; split; exact .inr ⟨_, rfl⟩; exact .inl rfl
  | eq => exact ob _
  | ne => exact ob _
  | is => exact ob _
  | nis => exact ob _
  | mem => exact ob _
  | nmem => exact ob _
theorem cmpD_tru (o : Cop) (x y : D) (m : M) : (cmpD o x y m).bind tru = (cmpD o x y m).bind asB := by
  rcases cmpD_bl o x y m with h | ⟨b, h⟩
  · rw [h]; rfl
  · rw [h]; rfl
theorem rbind_assoc {α β γ : Type} (r : R α) (f : α → M → R β) (g : β → M → R γ) : (r.bind f).bind g = r.bind fun a m => (f a m).bind g := by
  cases r <;> rfl
theorem evT_cmp (C : Mi.Cx) (o : Cop) (a b : E) (σ : Sl) (m : M) : evT C (.cmp o a b) σ m = (ev C a σ m).bind fun x m1 => (ev C b σ m1).bind fun y m2 => (cmpD o x y m2).bind asB := by
  unfold evT
  rw [ev, rbind_assoc]
  congr 1
  funext x m1
  rw [rbind_assoc]
  congr 1
  funext y m2
  exact cmpD_tru o x y m2
theorem e_cmp (o : Cop) {a b : E} (ha : SndE I C k a) (hb : SndE I C k b) : SndE I C k (.cmp o a b) := 
  ⟨fun X g x h => by
    unfold chkE at h
    split at h
    · obtain ⟨h1, h2⟩ := b2 h
      obtain ⟨h1, h3⟩ := b2 h1
      obtain ⟨h1, h4⟩ := b2 h1
      have e := of_decide_eq_true h1
      subst e
      exact pCmp (oCmp g.hu o) (ha.pe X g _ h3) (hb.pe X g _ h2) (bn h4)
    · exact Bool.noConfusion h, fun t X g x h => by
    unfold chkE at h
    split at h
    · obtain ⟨h1, h2⟩ := b2 h
      obtain ⟨h1, h3⟩ := b2 h1
      obtain ⟨h1, h4⟩ := b2 h1
      have e := of_decide_eq_true h1
      subst e
      rw [show evT C (.cmp o a b) = _ from funext fun σ => funext fun m => evT_cmp C o a b σ m]
      exact tCmp1 (oCmp g.hu o) (ha.pe X g _ h3) (hb.pe X g _ h2) (bn h4)
    · exact Bool.noConfusion h, fun z => by cases z⟩
theorem e_ch2 (o p : Cop) {a b c : E} (ha : SndE I C k a) (hb : SndE I C k b) (hc : SndE I C k c) : SndE I C k (.ch2 o p a b c) := by
  have pe : ∀ (X : L2.Cx), Gd I C k X → ∀ x, chkE I X.N (.ch2 o p a b c) X.env.scope x = true → PE X x (Pd X.K (ev C (.ch2 o p a b c))) ∧ ∃ op op' l r t pos, x = .Compare l [op, op'] [r, t] pos ∧ OpR X (compareOp op) (R2m X.K (cmpD o)) ∧ OpR X (compareOp op') (R2m X.K (cmpD p)) ∧ PE X l (Pd X.K (ev C a)) ∧ PE X r (Pd X.K (ev C b)) ∧ PE X t (Pd X.K (ev C c)) ∧ lastMarks [op, op'] [r, t] = false := fun X g x h => by
    unfold chkE at h
    split at h
    · obtain ⟨h1, h2⟩ := b2 h
      obtain ⟨h1, h3⟩ := b2 h1
      obtain ⟨h1, h4⟩ := b2 h1
      obtain ⟨h1, h5⟩ := b2 h1
      obtain ⟨h1, h6⟩ := b2 h1
      have e := of_decide_eq_true h1
      have e6 := of_decide_eq_true h6
      subst e e6
      exact ⟨pCh (oCmp g.hu o) (oCmp g.hu p) (ha.pe X g _ h4) (hb.pe X g _ h3) (hc.pe X g _ h2) (bn h5), _, _, _, _, _, _, rfl, oCmp g.hu o, oCmp g.hu p, ha.pe X g _ h4, hb.pe X g _ h3, hc.pe X g _ h2, bn h5⟩
    · cases h
  refine ⟨fun X g x h => (pe X g x h).1, fun _ X g x h => ?_, fun z => by cases z⟩
  obtain ⟨_, op, op', l, r, t, pos, rfl, o1, o2, p1, p2, p3, lm⟩ := pe X g x h
  refine PT.imp (pt_chain o1 o2 p1 p2 p3 lm) fun τ H Q h => ?_
  have e : evT C (.ch2 o p a b c) = fun σ m => (ev C a σ m).bind fun x m1 => (ev C b σ m1).bind fun y m2 => ((cmpD o x y m2).bind fun z m3 => chD z m3 fun m3 => (ev C c σ m3).bind fun w m4 => cmpD p y w m4).bind tru := by
    funext σ m
    unfold evT
    rw [ev, rbind_assoc]
    congr 1
    funext x m1
    rw [rbind_assoc]
  rw [e] at h
  refine Rd.bind (A := RV X.K) (G := fun σ x m1 => (ev C b σ m1).bind fun y m2 => ((cmpD o x y m2).bind fun z m3 => chD z m3 fun m3 => (ev C c σ m3).bind fun w m4 => cmpD p y w m4).bind tru) h fun x H1 ρ1 σ m1 dx rel rs rv h1 => ⟨ρ1, σ, m1, rel, rs, GF.mono (GF.bind (A := RV X.K) h1) ?_⟩
  rintro y H2 ⟨ρ2, m2, dy, ext, rel2, rv2, h2⟩
  rw [rbind_assoc] at h2
  refine ⟨ρ2, m2, dx, dy, rel2, RV.ext rel ext _ _ rv, rv2, GF.mono (GF.bind (A := RV X.K) h2) ?_⟩
  rintro z H3 ⟨ρ3, m3, d, ext3, rel3, rv3, h3⟩
  cases d with
  | bl q =>
    obtain rfl := rv_bl rv3
    refine ⟨q, rfl, ?_⟩
    cases q with
    | false => exact ⟨false, rfl, h3 H3 ρ3 false (Ext.refl _ _) rel3 rfl⟩
    | true =>
      have h3 : GF X.K EqA Q H3 ρ3 (((ev C c σ m3).bind fun w m4 => cmpD p dy w m4).bind tru) := h3
      rw [rbind_assoc] at h3
      refine ⟨ρ3, σ, m3, rel3, (rs.ext rel ext).ext rel2 ext3, GF.mono (GF.bind (A := RV X.K) h3) ?_⟩
      rintro w H4 ⟨ρ4, m4, e, ext4, rel4, rv4, h4⟩
      rw [cmpD_tru] at h4
      refine ⟨ρ4, m4, dy, e, rel4, RV.ext rel3 ext4 _ _ (RV.ext rel2 ext3 _ _ rv2), rv4, GF.mono (GF.bind (A := RV X.K) h4) ?_⟩
      rintro u H5 ⟨ρ5, m5, d5, ext5, rel5, rv5, h5⟩
      exact asB_rd rel5 rv5 h5
  | _ => exact h3.elim
theorem iteN {a b : Prop} (h : b) : if false = true then a else b := by rw [if_neg Bool.false_ne_true]; exact h
theorem iteY {a b : Prop} (h : a) : if true = true then a else b := by rw [if_pos rfl]; exact h
/-- a op b op c op d -/
def tCh3 (r r' r'' : R2) (ta tb tc td : TE) : TE := fun σ H Q => ta σ H fun x H1 => tb σ H1 fun y H2 => r x y H2 fun z H3 => ∃ k, z = .bl k ∧
  (if k = true then tc σ H3 fun w H4 => r' y w H4 fun z2 H5 => ∃ k2, z2 = .bl k2 ∧ (if k2 = true then td σ H5 fun u H6 => r'' w u H6 Q else Q (.bl false) H5) else Q (.bl false) H3)
theorem pe_ch3 {X : L2.Cx} {op op' op'' : CmpOp} {r r' r'' : R2} {a b c d : Expr} {pos : Pos} {ta tb tc td : TE} (o1 : OpR X (compareOp op) r) (o2 : OpR X (compareOp op') r') (o3 : OpR X (compareOp op'') r'') (ha : PE X a ta) (hb : PE X b tb) (hc : PE X c tc) (hd : PE X d td)
    (hm : lastMarks [op, op', op''] [b, c, d] = false) : PE X (.Compare a [op, op', op''] [b, c, d] pos) (tCh3 r r' r'' ta tb tc td) := by
  refine ⟨fun pins s σ H Q I h => PyProof.Rows.Compare_chain (thn (ha.run pins s σ H _ I h) fun v s1 ⟨x, H1, I1, r1, q1⟩ => PyProof.Rows.chain_link (thn (hb.run pins s1 σ H1 _ I1 q1) fun u s2 ⟨y, H2, I2, r2, q2⟩ => thn (o1 pins s2 σ H2 x y v u _ I2 r1 r2 q2) fun e s3 ⟨z, H3, I3, r3, k, ez, q3⟩ => ?_)) hm⟩
  subst ez
  cases r3
  refine wpAny_truthy_bool ?_
  cases k with
  | false => exact iteN ⟨.bl false, H3, I3, rfl, q3⟩
  | true =>
    refine iteY (PyProof.Rows.chain_link (thn (hc.run pins s3 σ H3 _ I3 q3) fun w s4 ⟨z4, H4, I4, r4, q4⟩ => thn (o2 pins s4 σ H4 y z4 u w _ I4 r2 r4 q4) fun e2 s5 ⟨z5, H5, I5, r5, k2, ez, q5⟩ => ?_))
    subst ez
    cases r5
    refine wpAny_truthy_bool ?_
    cases k2 with
    | false => exact iteN ⟨.bl false, H5, I5, rfl, q5⟩
    | true => exact iteY (PyProof.Rows.chain_last (thn (hd.run pins s5 σ H5 _ I5 q5) fun t s6 ⟨z6, H6, I6, r6, q6⟩ => o3 pins s6 σ H6 z4 z6 w t Q I6 r4 r6 q6))
theorem pt_ch3 {X : L2.Cx} {op op' op'' : CmpOp} {r r' r'' : R2} {a b c d : Expr} {pos : Pos} {ta tb tc td : TE} (o1 : OpR X (compareOp op) r) (o2 : OpR X (compareOp op') r') (o3 : OpR X (compareOp op'') r'') (ha : PE X a ta) (hb : PE X b tb) (hc : PE X c tc) (hd : PE X d td)
    (hm : lastMarks [op, op', op''] [b, c, d] = false) : PT X (.Compare a [op, op', op''] [b, c, d] pos) (tTest (tCh3 r r' r'' ta tb tc td)) := by
  refine ⟨fun pins s σ H Q I h => PyProof.Rows.isTrue_chain (thn (ha.run pins s σ H _ I h) fun v s1 ⟨x, H1, I1, r1, q1⟩ => PyProof.Rows.test_link (thn (hb.run pins s1 σ H1 _ I1 q1) fun u s2 ⟨y, H2, I2, r2, q2⟩ => thn (o1 pins s2 σ H2 x y v u _ I2 r1 r2 q2) fun e s3 ⟨z, H3, I3, r3, k, ez, q3⟩ => ?_)) hm⟩
  subst ez
  cases r3
  refine wpAny_truthy_bool ?_
  cases k with
  | false =>
    obtain ⟨k', e', q'⟩ := q3
    cases e'
    exact iteN ⟨H3, I3, q'⟩
  | true =>
    refine iteY (PyProof.Rows.test_link (thn (hc.run pins s3 σ H3 _ I3 q3) fun w s4 ⟨z4, H4, I4, r4, q4⟩ => thn (o2 pins s4 σ H4 y z4 u w _ I4 r2 r4 q4) fun e2 s5 ⟨z5, H5, I5, r5, k2, ez, q5⟩ => ?_))
    subst ez
    cases r5
    refine wpAny_truthy_bool ?_
    cases k2 with
    | false =>
      obtain ⟨k', e', q'⟩ := q5
      cases e'
      exact iteN ⟨H5, I5, q'⟩
    | true =>
      refine iteY (PyProof.Rows.test_last (thn (hd.run pins s5 σ H5 _ I5 q5) fun t s6 ⟨z6, H6, I6, r6, q6⟩ => thn (o3 pins s6 σ H6 z4 z6 w t _ I6 r4 r6 q6) fun e3 s7 ⟨z7, H7, I7, r7, k3, ez, q7⟩ => ?_))
      subst ez
      cases r7
      exact wpAny_truthy_bool ⟨H7, I7, q7⟩
/-- only truths come of it -/
def OnlyB (r : R D) : Prop := ∀ d m, r = .ok d m → ∃ b, d = .bl b
theorem onlyB_bind {α : Type} {r : R α} {f : α → M → R D} (h : ∀ a m, OnlyB (f a m)) : OnlyB (r.bind f) := by
  cases r with
  | ok a m => exact h a m
  | exc _ _ _ => intro d m e; cases e
  | bad => intro d m e; cases e
theorem onlyB_bO (o : Option Bool) (m : M) : OnlyB (bO o m) := by
  cases o with
  | none => intro d m e; cases e
  | some b => intro d m e; cases e; exact ⟨b, rfl⟩
theorem onlyB_cmp (o : Cop) (x y : D) (m : M) : OnlyB (cmpD o x y m) := by
  have ord : ∀ g : Int → Int → Bool, OnlyB (match x, y with
      | .int i, .int j => .ok (.bl (g i j)) m
      | _, _ => .bad) := fun g => by
    cases x with
    | int i => cases y with
      | int j => intro d m e; cases e; exact ⟨_, rfl⟩
      | _ => intro d m e; cases e
    | _ => cases y <;> (intro d m e; cases e)
  cases o with
  | lt => exact ord fun i j => decide (i < j)
  | le => exact ord fun i j => decide (i ≤ j)
  | gt => exact ord fun i j => decide (j < i)
  | ge => exact ord fun i j => decide (j ≤ i)
  | _ => exact onlyB_bO _ _
theorem onlyB_ch {z : D} {m : M} {f : M → R D} (h : ∀ m, OnlyB (f m)) : OnlyB (chD z m f) := by
  cases z with
  | bl b => cases b with
    | true => exact h m
    | false => intro d m e; cases e; exact ⟨_, rfl⟩
  | _ => intro d m e; cases e
theorem onlyB_tru {r : R D} (h : OnlyB r) : r.bind tru = r.bind asB := by
  cases r with
  | ok d m =>
    obtain ⟨b, rfl⟩ := h d m rfl
    rfl
  | _ => rfl
/-- the reading of a chain of three, whatever comes behind it -/
theorem rd_ch3 {K : PySem.W.Frag} {γ δ : Type} {B : Hp → List Addr → γ → δ → Prop} {Q : δ → Hp → Prop} {o p q : Cop} {a b c d : E} {C : Mi.Cx} {G : D → M → R γ} {τ : St} {H : Hp} {Q' : VK} (h : Rd K B (fun σ m => (ev C (.ch3 o p q a b c d) σ m).bind G) τ H Q)
    (fin : ∀ v H' ρ m d, Rel K H' ρ m → RV K H' ρ d v → GF K B Q H' ρ (G d m) → Q' v H') :
    tCh3 (R2m K (cmpD o)) (R2m K (cmpD p)) (R2m K (cmpD q)) (Pd K (ev C a)) (Pd K (ev C b)) (Pd K (ev C c)) (Pd K (ev C d)) τ H Q' := by
  have e : (fun σ m => (ev C (.ch3 o p q a b c d) σ m).bind G) = fun σ m => (ev C a σ m).bind fun x m1 => (ev C b σ m1).bind fun y m2 => (cmpD o x y m2).bind fun z m3 => (chD z m3 fun m3 => (ev C c σ m3).bind fun w m4 => (cmpD p y w m4).bind fun z m5 => chD z m5 fun m5 => (ev C d σ m5).bind fun u m6 => cmpD q w u m6).bind G := by
    funext σ m
    rw [ev, rbind_assoc]
    congr 1; funext x m1
    rw [rbind_assoc]
    congr 1; funext y m2
    rw [rbind_assoc]
  rw [e] at h
  refine Rd.bind (A := RV K) (G := fun σ x m1 => (ev C b σ m1).bind fun y m2 => (cmpD o x y m2).bind fun z m3 => (chD z m3 fun m3 => (ev C c σ m3).bind fun w m4 => (cmpD p y w m4).bind fun z m5 => chD z m5 fun m5 => (ev C d σ m5).bind fun u m6 => cmpD q w u m6).bind G) h fun x H1 ρ1 σ m1 dx rel rs rv h1 => ⟨ρ1, σ, m1, rel, rs, GF.mono (GF.bind (A := RV K) h1) ?_⟩
  rintro y H2 ⟨ρ2, m2, dy, ext, rel2, rv2, h2⟩
  refine ⟨ρ2, m2, dx, dy, rel2, RV.ext rel ext _ _ rv, rv2, GF.mono (GF.bind (A := RV K) h2) ?_⟩
  rintro z H3 ⟨ρ3, m3, dz, ext3, rel3, rv3, h3⟩
  cases dz with
  | bl k =>
    obtain rfl := rv_bl rv3
    refine ⟨k, rfl, ?_⟩
    cases k with
    | false => exact fin _ _ ρ3 m3 (.bl false) rel3 (rvB _) h3
    | true =>
      have h3 : GF K B Q H3 ρ3 (((ev C c σ m3).bind fun w m4 => (cmpD p dy w m4).bind fun z m5 => chD z m5 fun m5 => (ev C d σ m5).bind fun u m6 => cmpD q w u m6).bind G) := h3
      rw [rbind_assoc] at h3
      refine ⟨ρ3, σ, m3, rel3, (rs.ext rel ext).ext rel2 ext3, GF.mono (GF.bind (A := RV K) h3) ?_⟩
      rintro w H4 ⟨ρ4, m4, dw, ext4, rel4, rv4, h4⟩
      rw [rbind_assoc] at h4
      refine ⟨ρ4, m4, dy, dw, rel4, RV.ext rel3 ext4 _ _ (RV.ext rel2 ext3 _ _ rv2), rv4, GF.mono (GF.bind (A := RV K) h4) ?_⟩
      rintro z2 H5 ⟨ρ5, m5, dz2, ext5, rel5, rv5, h5⟩
      cases dz2 with
      | bl k2 =>
        obtain rfl := rv_bl rv5
        refine ⟨k2, rfl, ?_⟩
        cases k2 with
        | false => exact fin _ _ ρ5 m5 (.bl false) rel5 (rvB _) h5
        | true =>
          have h5 : GF K B Q H5 ρ5 (((ev C d σ m5).bind fun u m6 => cmpD q dw u m6).bind G) := h5
          rw [rbind_assoc] at h5
          refine ⟨ρ5, σ, m5, rel5, (((rs.ext rel ext).ext rel2 ext3).ext rel3 ext4).ext rel4 ext5, GF.mono (GF.bind (A := RV K) h5) ?_⟩
          rintro u H6 ⟨ρ6, m6, du, ext6, rel6, rv6, h6⟩
          refine ⟨ρ6, m6, dw, du, rel6, RV.ext rel5 ext6 _ _ (RV.ext rel4 ext5 _ _ rv4), rv6, GF.mono (GF.bind (A := RV K) h6) ?_⟩
          rintro v H7 ⟨ρ7, m7, dv, ext7, rel7, rv7, h7⟩
          exact fin _ _ ρ7 m7 dv rel7 rv7 h7
      | _ => exact h5.elim
  | _ => exact h3.elim
theorem e_ch3 (o p q : Cop) {a b c d : E} (ha : SndE I C k a) (hb : SndE I C k b) (hc : SndE I C k c) (hd : SndE I C k d) : SndE I C k (.ch3 o p q a b c d) := by
  have parts : ∀ (X : L2.Cx), Gd I C k X → ∀ x, chkE I X.N (.ch3 o p q a b c d) X.env.scope x = true → ∃ op op' op'' l r t t3 pos, x = .Compare l [op, op', op''] [r, t, t3] pos ∧ OpR X (compareOp op) (R2m X.K (cmpD o)) ∧ OpR X (compareOp op') (R2m X.K (cmpD p)) ∧ OpR X (compareOp op'') (R2m X.K (cmpD q)) ∧ PE X l (Pd X.K (ev C a)) ∧ PE X r (Pd X.K (ev C b)) ∧ PE X t (Pd X.K (ev C c)) ∧ PE X t3 (Pd X.K (ev C d)) ∧ lastMarks [op, op', op''] [r, t, t3] = false := fun X g x h => by
    unfold chkE at h
    split at h
    · obtain ⟨h1, h2⟩ := b2 h
      obtain ⟨h1, h3⟩ := b2 h1
      obtain ⟨h1, h4⟩ := b2 h1
      obtain ⟨h1, h5⟩ := b2 h1
      obtain ⟨h1, h6⟩ := b2 h1
      obtain ⟨h1, h7⟩ := b2 h1
      obtain ⟨h1, h8⟩ := b2 h1
      have e := of_decide_eq_true h1
      have e7 := of_decide_eq_true h7
      have e8 := of_decide_eq_true h8
      subst e e7 e8
      exact ⟨_, _, _, _, _, _, _, _, rfl, oCmp g.hu o, oCmp g.hu p, oCmp g.hu q, ha.pe X g _ h5, hb.pe X g _ h4, hc.pe X g _ h3, hd.pe X g _ h2, bn h6⟩
    · cases h
  refine ⟨fun X g x h => ?_, fun _ X g x h => ?_, fun z => by cases z⟩
  · obtain ⟨op, op', op'', l, r, t, t3, pos, rfl, o1, o2, o3, p1, p2, p3, p4, lm⟩ := parts X g x h
    refine PE.imp (pe_ch3 o1 o2 o3 p1 p2 p3 p4 lm) fun τ H Q h => ?_
    have h : Rd X.K (RV X.K) (fun σ m => (ev C (.ch3 o p q a b c d) σ m).bind .ok) τ H Q := by
      have e : (fun σ m => (ev C (.ch3 o p q a b c d) σ m).bind .ok) = ev C (.ch3 o p q a b c d) := by
        funext σ m
        cases ev C (.ch3 o p q a b c d) σ m <;> rfl
      rw [e]
      exact h
    exact rd_ch3 h fun v H' ρ m d r1 r2 r3 => gf_ok r3 r1 r2
  · obtain ⟨op, op', op'', l, r, t, t3, pos, rfl, o1, o2, o3, p1, p2, p3, p4, lm⟩ := parts X g x h
    refine PT.imp (pt_ch3 o1 o2 o3 p1 p2 p3 p4 lm) fun τ H Q h => ?_
    have e : evT C (.ch3 o p q a b c d) = fun σ m => (ev C (.ch3 o p q a b c d) σ m).bind asB := by
      funext σ m
      refine onlyB_tru ?_
      rw [ev]
      exact onlyB_bind fun _ _ => onlyB_bind fun _ _ => onlyB_bind fun _ _ => onlyB_ch fun _ => onlyB_bind fun _ _ => onlyB_bind fun _ _ => onlyB_ch fun _ => onlyB_bind fun _ _ => onlyB_cmp _ _ _ _
    rw [e] at h
    exact rd_ch3 (G := asB) h fun v H' ρ m d r1 r2 r3 => asB_rd r1 r2 r3
theorem evT_and (C : Mi.Cx) (a b : E) (σ : Sl) (m : M) : evT C (.and a b) σ m = (evT C a σ m).bind fun k m1 => if k = true then evT C b σ m1 else .ok false m1 := by
  unfold evT
  conv => lhs; rw [ev]
  cases ev C a σ m with
  | ok x m1 =>
    rw [bind_ok, bind_ok]
    unfold tru
    cases e : truth x m1 with
    | none => rfl
    | some q =>
      cases q with
      | true => rfl
      | false =>
        show (R.ok x m1).bind _ = _
        rw [bind_ok]
        show (match truth x m1 with | some b => R.ok b m1 | none => R.bad) = _
        rw [e]
        rfl
  | exc => rfl
  | bad => rfl
theorem evT_or (C : Mi.Cx) (a b : E) (σ : Sl) (m : M) : evT C (.or a b) σ m = (evT C a σ m).bind fun k m1 => if k = true then .ok true m1 else evT C b σ m1 := by
  unfold evT
  conv => lhs; rw [ev]
  cases ev C a σ m with
  | ok x m1 =>
    rw [bind_ok, bind_ok]
    unfold tru
    cases e : truth x m1 with
    | none => rfl
    | some q =>
      cases q with
      | false => rfl
      | true =>
        show (R.ok x m1).bind _ = _
        rw [bind_ok]
        show (match truth x m1 with | some b => R.ok b m1 | none => R.bad) = _
        rw [e]
        rfl
  | exc => rfl
  | bad => rfl
theorem PW_of_pt {X : L2.Cx} {op : BoolOp} {vs : List Expr} {pos : Pos} {t : TT} (h : PT X (.BoolOp op vs pos) t) : PW X (.BoolOp op vs pos) t := ⟨fun wh pins s σ H Q I q => by
  have e : PySem.isTrue (.BoolOp op vs pos) X.env wh = PySem.isTrue (.BoolOp op vs pos) X.env (eval (.BoolOp op vs pos) X.env) := by
    rw [PySem.isTrue, PySem.isTrue]
  rw [e]
  exact h.run pins s σ H Q I q⟩
theorem e_and {a b : E} (ha : SndE I C k a) (hb : SndE I C k b) : SndE I C k (.and a b) := 
  ⟨fun X g x h => by
    unfold chkE at h
    split at h
    · obtain ⟨h1, h2⟩ := b2 h
      refine pAnd (ha.pe X g _ h1) ?_
      split at h2
      · exact pe_one (hb.pe X g _ h2)
      · exact hb.pe X g _ h2
    · exact Bool.noConfusion h, fun t X g x h => by
    obtain ⟨t1, t2⟩ := b2 (show (isT a && isT b) = true from t)
    unfold chkE at h
    split at h
    · obtain ⟨h1, h2⟩ := b2 h
      rw [show evT C (.and a b) = _ from funext fun σ => funext fun m => evT_and C a b σ m]
      refine PW.pt (tAnd1 (ha.pt t1 X g _ h1) ?_)
      split at h2
      · exact pw_and1 (hb.pt t2 X g _ h2)
      · have q := hb.pt t2 X g _ h2
        exact PW_of_pt q
    · exact Bool.noConfusion h, fun z => by cases z⟩
theorem e_or {a b : E} (ha : SndE I C k a) (hb : SndE I C k b) : SndE I C k (.or a b) := 
  ⟨fun X g x h => by
    unfold chkE at h
    split at h
    · obtain ⟨h1, h2⟩ := b2 h
      refine pOr (ha.pe X g _ h1) ?_
      split at h2
      · exact pe_one (hb.pe X g _ h2)
      · exact hb.pe X g _ h2
    · exact Bool.noConfusion h, fun t X g x h => by
    obtain ⟨t1, t2⟩ := b2 (show (isT a && isT b) = true from t)
    unfold chkE at h
    split at h
    · obtain ⟨h1, h2⟩ := b2 h
      rw [show evT C (.or a b) = _ from funext fun σ => funext fun m => evT_or C a b σ m]
      refine PW.pt (tOr1 (ha.pt t1 X g _ h1) ?_)
      split at h2
      · exact pw_or1 (hb.pt t2 X g _ h2)
      · have q := hb.pt t2 X g _ h2
        exact PW_of_pt q
    · exact Bool.noConfusion h, fun z => by cases z⟩
theorem e_ife {c a b : E} (hc : SndE I C k c) (ha : SndE I C k a) (hb : SndE I C k b) : SndE I C k (.ife c a b) := 
  ⟨fun X g x h => by
    unfold chkE at h
    split at h
    · obtain ⟨h1, h2⟩ := b2 h
      obtain ⟨h1, h3⟩ := b2 h1
      obtain ⟨h1, h4⟩ := b2 h1
      exact pIfe (hc.pt h1 X g _ h4) (ha.pe X g _ h3) (hb.pe X g _ h2)
    · exact Bool.noConfusion h, fun t => Bool.noConfusion t, fun z => Bool.noConfusion z⟩
theorem e_tup {es : Es} (hs : SndEs I C k es) : SndE I C k (.tup es) := .of (fun X g x h => by
  unfold chkE at h
  split at h
  · obtain ⟨h1, h2⟩ := b2 h
    obtain ⟨p1, p2, p3⟩ := hs X g _ h1
    have h2 := of_decide_eq_true h2
    exact ⟨pTup p1 fun σ m ds m1 e => by rw [p3 _ _ _ _ e, sizeLine_eq]; omega, rfl⟩
  · cases h) rfl
theorem e_lst {es : Es} (hs : SndEs I C k es) : SndE I C k (.lst es) := by
  have pl : ∀ (X : L2.Cx), Gd I C k X → ∀ x, chkE I X.N (.lst es) X.env.scope x = true → PE X x (Pl X.K (evL C (.lst es))) ∧ plainTB x = true := fun X g x h => by
    unfold chkE at h
    split at h
    · obtain ⟨h1, h2⟩ := b2 h
      obtain ⟨p1, p2, p3⟩ := hs X g _ h1
      have h2 := of_decide_eq_true h2
      exact ⟨lLst p1 fun σ m ds m1 e => by rw [p3 _ _ _ _ e, sizeLine_eq]; omega, rfl⟩
    · cases h
  exact ⟨fun X g x h => pAlloc (pl X g x h).1, fun _ X g x h => pTru (pAlloc (pl X g x h).1) (plainT_ok (pl X g x h).2 X.env), fun _ X g x h => (pl X g x h).1⟩
theorem e_dct0 : SndE I C k .dct0 := .of (fun X g x h => by
  unfold chkE at h
  split at h
  · refine ⟨PE.imp pe_dnewK fun τ H Q q => ?_, rfl⟩
    obtain ⟨ρ, σ, m, rel, rs, q⟩ := q
    exact fun p hp => gf_dic (kvs := []) (ws := []) q rel (by simp only [RKs]) hp
  · cases h) rfl
theorem e_ix {a b : E} (ha : SndE I C k a) (hb : SndE I C k b) : SndE I C k (.ix a b) := .of (fun X g x h => by
  unfold chkE at h
  split at h
  · obtain ⟨h1, h2⟩ := b2 h
    obtain ⟨h1, h3⟩ := b2 h1
    exact ⟨pIx g.hu (ha.pe X g _ h1) (hb.pe X g _ h3) (plainIx_ok h2), rfl⟩
  · cases h) rfl
theorem pSl {X : L2.Cx} {a : Expr} {lo hi : Option Expr} {Fa : Sl → M → R D} {Fl Fh : Sl → M → R (Option Int)} {p2 pos : Pos} (ha : PE X a (Pd X.K Fa)) (hl : PO X lo (Po X.K Fl)) (hh : PO X hi (Po X.K Fh)) :
    PE X (.Subscript a (.Slice lo hi none p2) pos) (Pd X.K fun σ m => (Fa σ m).bind fun x m1 => (Fl σ m1).bind fun l m2 => (Fh σ m2).bind fun h m3 => slD x l h m3) := by
  refine PE.imp (pe_slice oSl ha hl hh) fun τ H Q h => ?_
  refine Rd.bind (A := RV X.K) (G := fun σ x m1 => (Fl σ m1).bind fun l m2 => (Fh σ m2).bind fun h m3 => slD x l h m3) h fun x H1 ρ1 σ m1 d rel rs rv h1 => ⟨ρ1, σ, m1, rel, rs, GF.mono (GF.bind (A := EqA) h1) ?_⟩
  rintro l H2 ⟨ρ2, m2, l', ext, rel2, e, h2⟩
  have e : l = l' := e
  subst e
  refine ⟨ρ2, σ, m2, rel2, rs.ext rel ext, GF.mono (GF.bind (A := EqA) h2) ?_⟩
  rintro u H3 ⟨ρ3, m3, u', ext3, rel3, e, h3⟩
  have e : u = u' := e
  subst e
  exact ⟨ρ3, m3, d, rel3, RV.ext rel2 ext3 _ _ (RV.ext rel ext _ _ rv), h3⟩
theorem e_sl {a : E} {lo hi : Eo} (ha : SndE I C k a) (hl : SndO I C k lo) (hh : SndO I C k hi) : SndE I C k (.sl a lo hi) := .of (fun X g x h => by
  unfold chkE at h
  split at h
  · obtain ⟨h1, h2⟩ := b2 h
    obtain ⟨h1, h3⟩ := b2 h1
    exact ⟨pSl (ha.pe X g _ h1) (hl X g _ h3) (hh X g _ h2), rfl⟩
  · cases h) rfl
theorem e_fn (y : Str) (f : Nat) {es : Es} (hs : SndEs I C k es) : SndE I C k (.fn y f es) := .of (fun X g x h => by
  unfold chkE at h
  split at h
  · rename_i z p args pos
    obtain ⟨h1, h2⟩ := b2 h
    obtain ⟨h1, h4⟩ := b2 h1
    obtain ⟨h1, h5⟩ := b2 h1
    obtain ⟨h1, h6⟩ := b2 h1
    have e := of_decide_eq_true h1
    subst e
    obtain ⟨a, fd, ps, hl, hm, hk, hb, F⟩ := g.fns _ _ _ (of_decide_eq_true h6)
    obtain ⟨p1, p2, p3⟩ := hs X g _ h2
    obtain ⟨n1, _⟩ := nm_ok h4
    cases args with
    | nil =>
      cases es with
      | cons _ _ => unfold chkEs at h2; exact Bool.noConfusion h2
      | nil =>
        refine ⟨PE.imp (pe_g0 F g.room g.gds (gl_ok h5) hm hk hb n1) fun τ H Q q => ?_, rfl⟩
        obtain ⟨ρ, σ, m, rel, rs, q⟩ := q
        exact ⟨rfl, ρ, m, [], rel, RVs.nil, q⟩
    | cons a1 args =>
      rw [List.all_cons, Bool.and_eq_true] at p2
      exact ⟨pFn F g.gds (fun vs H Q E q hl2 => ⟨hl2.trans hl, q⟩) g.room (gl_ok h5) hm hk hb p1 (fun σ m ds m1 e => (p3 _ _ _ _ e).trans hl.symm) n1 (star_ok p2.1 _ _) (back_ok _ _ _ p2.2).1, rfl⟩
  · cases h) rfl
theorem bi_name (f : Bi) : biNm f ∈ biNames ∧ (biNm f == ("__debug__" : Str)) = false ∧ biNm f ≠ "__name__" := by cases f <;> decide +kernel
theorem bi_boot (f : Bi) : bootBuiltins (biNm f) = some (biVal f) := by cases f <;> decide +kernel
theorem pBi {X : L2.Cx} {x : Str} {f : Value} {p pos : Pos} {a : Expr} {es : List Expr} {t : TA} {r : List V → Hp → VK → Prop} (hc : CallR X f r) (hf : (∃ id, f = .builtin id) ∨ ∃ T, f = .type T) (hg : Gl X x) (hm : X.mg x = none) (hv : bootBuiltins x = some f) (ha : PA X (a :: es) t) (hn : x ≠ "__name__") (hdb : (x == ("__debug__" : Str)) = false)
    (he : starEach (a :: es) X.env = (false, eval a X.env) :: starEach es X.env) (hpl : (backTo pos (starEach es X.env)).any (·.1) = false) : PE X (.Call (.Name x p) (a :: es) [] pos) (tCB r t) := by
  rcases hf with ⟨id, rfl⟩ | ⟨T, rfl⟩
  · exact pe_callB hc hg hm hv ha hn hdb he hpl
  · exact pe_callTy hc hg hm hv ha hn hdb he hpl
theorem bi_val (f : Bi) : (∃ id, biVal f = .builtin id) ∨ ∃ T, biVal f = .type T := by cases f <;> first | exact .inl ⟨_, rfl⟩ | exact .inr ⟨_, rfl⟩
theorem e_bi (f : Bi) {es : Es} (hs : SndEs I C k es) : SndE I C k (.bi f es) := .of (fun X g x h => by
  unfold chkE at h
  split at h
  · rename_i z p args pos
    obtain ⟨h1, h2⟩ := b2 h
    obtain ⟨h1, h3⟩ := b2 h1
    obtain ⟨h1, h4⟩ := b2 h1
    have e := of_decide_eq_true h1
    subst e
    obtain ⟨p1, p2, p3⟩ := hs X g _ h2
    obtain ⟨n1, n2, n3⟩ := bi_name f
    cases args with
    | nil => cases h3
    | cons a1 args =>
      rw [List.all_cons, Bool.and_eq_true] at p2
      refine ⟨PE.imp (pBi (oBi g.calm g.gds g.hu f) (bi_val f) (gl_ok h4) (g.bis _ n1) (bi_boot f) p1 n3 n2 (star_ok p2.1 _ _) (back_ok _ _ _ p2.2).1) fun τ H Q q => ?_, rfl⟩
      exact rdN (g := biD f) q
  · cases h) rfl
theorem e_bt (f : Bi) {a : E} (ha : SndE I C k a) : SndE I C k (.bt f a) := .of (fun X g x h => by
  unfold chkE at h
  split at h
  · obtain ⟨h1, h2⟩ := b2 h
    obtain ⟨h1, h3⟩ := b2 h1
    obtain ⟨h1, h4⟩ := b2 h1
    obtain ⟨h1, h5⟩ := b2 h1
    have e := of_decide_eq_true h1
    subst e
    obtain ⟨n1, n2, n3⟩ := bi_name f
    refine ⟨PE.imp (pBi (oL g.calm f) (bi_val f) (gl_ok h5) (g.bis _ n1) (bi_boot f) (pa_cons (ha.pl h4 X g _ h3) pa_nil (star_ok h2 _ _)) n3 n2 (star_ok h2 _ _) rfl) fun τ H Q q => ?_, rfl⟩
    obtain ⟨ρ, σ, m, rel, rs, q⟩ := q
    refine ⟨ρ, σ, m, rel, rs, ?_⟩
    rw [ev] at q
    cases e : evL C a σ m with
    | exc => rw [e] at q; exact q.elim
    | bad => rw [e] at q; exact q.elim
    | ok xs m1 =>
      rw [e] at q
      intro H1 ρ1 p vs ext rel1 h0 hp rv n
      exact ⟨ρ1, m1, xs, p, vs, rfl, rel1, SqL.of hp, rv, GF.later q ext⟩
  · cases h) rfl
theorem e_kix (y : Str) (kvs : List (Str × Int)) {a : E} (ha : SndE I C k a) : SndE I C k (.kix y kvs a) := .of (fun X g x h => by
  unfold chkE at h
  split at h
  · obtain ⟨h1, h2⟩ := b2 h
    obtain ⟨h1, h3⟩ := b2 h1
    obtain ⟨h1, h4⟩ := b2 h1
    obtain ⟨h1, h5⟩ := b2 h1
    obtain ⟨h1, h6⟩ := b2 h1
    have e := of_decide_eq_true h1
    subst e
    obtain ⟨p, hm, hd⟩ := g.dics _ _ (of_decide_eq_true h6)
    obtain ⟨n1, _⟩ := nm_ok h4
    refine ⟨PE.imp (pe_ix ix_kdict (pe_glob (gl_ok h5) hm (show RelV (.ref p) (.ref p) from rfl) n1) (ha.pe X g _ h3) (plainIx_ok h2)) fun τ H Q q => ?_, rfl⟩
    refine Rd.bind (A := RV X.K) (G := fun _ x m1 => kixD kvs x m1) q fun v H1 ρ1 σ m1 d rel rs rv h1 => ?_
    cases d with
    | str z =>
      obtain ⟨rfl, _⟩ := rv_str rv
      unfold kixD at h1
      dsimp only at h1
      cases e : kvs.find? (fun q => decide (q.1 = z)) with
      | none => rw [e] at h1; exact h1.elim
      | some q =>
        rw [e] at h1
        have hz : q.1 = z := by simpa using List.find?_some e
        subst hz
        exact ⟨p, q.1, .int q.2, rfl, rfl, hd.dct (List.mem_of_find?_eq_some e), gf_ok h1 rel (rvI _)⟩
    | _ => exact h1.elim
  · cases h) rfl
end
end Mi

set_option linter.all false
set_option autoImplicit false
set_option Elab.async false
set_option maxRecDepth 100000
set_option maxHeartbeats 8000000
/-! Mi12: the rest of the expressions; all of them. -/
namespace Mi
open PySem L2
section
variable {I : Inf} {C : Mi.Cx} {k : Nat}
/-! ### methods -/
theorem me_slot (f : Me) : Slot (tyS (meTy f)) (meNm f) (meId f) := by cases f; exact PySem.F.slot_list_append; exact PySem.F.slot_list_pop; exact PySem.F.slot_dict_get; exact PySem.F.slot_str_startswith; exact PySem.F.slot_str_split; exact PySem.F.slot_str_join; exact PySem.F.slot_list_index; exact PySem.F.slot_list_extend; exact PySem.F.slot_list_insert; exact PySem.F.slot_str_lower; exact PySem.F.slot_str_upper; exact PySem.F.slot_str_strip; exact PySem.F.slot_str_index
theorem me_plain (f : Me) : PlainAttrs (tyS (meTy f)) := by cases f; exact PySem.F.plainAttrs_list; exact PySem.F.plainAttrs_list; exact PySem.F.plainAttrs_dict; all_goals first | exact PySem.F.plainAttrs_str | exact PySem.F.plainAttrs_list
theorem me_type (f : Me) : typeOf (.builtin (meId f)) = pure (.type "method_descriptor") := by cases f; exact PySem.F.type_list_append; exact PySem.F.type_list_pop; exact PySem.F.type_dict_get; exact PySem.F.type_str_startswith; exact PySem.F.type_str_split; exact PySem.F.type_str_join; exact PySem.F.type_list_index; exact PySem.F.type_list_extend; exact PySem.F.type_list_insert; exact PySem.F.type_str_lower; exact PySem.F.type_str_upper; exact PySem.F.type_str_strip; exact PySem.F.type_str_index
theorem same_eq {t u : Ty} (h : t.same u = true) : t = u := by cases t <;> cases u <;> first | rfl | cases h
theorem recv_ok {K : PySem.W.Frag} {H : Hp} {ρ : List Addr} {m : M} {t : Ty} {d : D} {v : V} (r : Rel K H ρ m) (hv : RV K H ρ d v) (h : recvB t d m = true) : tyV K (tyS t) v H := by
  cases d with
  | str x =>
    obtain ⟨rfl, _⟩ := rv_str hv
    have e := same_eq (show t.same .str = true from h)
    subst e
    exact rfl
  | ref l =>
    cases q : m[l]? with
    | none => simp only [recvB, q] at h; cases h
    | some o =>
      cases o with
      | lst xs =>
        simp only [recvB, q] at h
        have e := same_eq h
        subst e
        obtain ⟨a, vs, rfl, _, k1, k2⟩ := rv_lst r hv q
        exact .inl ⟨rfl, vs, SqL.of k1⟩
      | dic kvs =>
        simp only [recvB, q] at h
        have e := same_eq h
        subst e
        obtain ⟨a, rfl, ha⟩ := rv_ref hv
        obtain ⟨b, hb, ws, h1, h2⟩ := r.ob l _ q
        rw [ha] at hb
        cases hb
        exact .inr (.inr (.inl ⟨rfl, .inl ⟨ws, h1⟩⟩))
  | _ => cases h
theorem pMe0 {X : L2.Cx} (hu : X.A.units + 65 < cLine) {f : Me} {o : Expr} {apos pos : Pos} {Fo : Sl → M → R D} (ho : PE X o (Pd X.K Fo)) (hb : noCallB o = true) (hline : (apos.endLine == pos.line) = true) :
    PE X (.Call (.Attribute o (meNm f) apos) [] [] pos) (Pd X.K fun σ m => (Fo σ m).bind fun x m1 => if recvB (meTy f) x m1 = true then meD f x [] m1 else .bad) := by
  refine PE.imp (pe_bm0 (me_plain f) (me_slot f) (me_type f) (oMe hu f) ho (base_ok hb (meNm f) X.env (eval o X.env)) hline) fun τ H Q h => ?_
  refine Rd.bind (A := RV X.K) (G := fun σ x m1 => if recvB (meTy f) x m1 = true then meD f x [] m1 else .bad) h fun x H1 ρ1 σ m1 d rel rs rv h1 => ?_
  by_cases c : recvB (meTy f) d m1 = true
  · rw [if_pos c] at h1
    exact ⟨recv_ok rel rv c, ρ1, m1, d, [], rel, rv, RVs.nil, h1⟩
  · rw [if_neg c] at h1
    exact h1.elim
theorem pMe {X : L2.Cx} (hu : X.A.units + 65 < cLine) {f : Me} {o a1 : Expr} {args : List Expr} {apos pos : Pos} {Fo : Sl → M → R D} {Fs : Sl → M → R (List D)} (ho : PE X o (Pd X.K Fo)) (ha : PA X (a1 :: args) (Pa X.K Fs)) (hp : (a1 :: args).all plainB = true) (hl : (a1 :: args).length < 20) (hb : noCallB o = true) (hline : (apos.endLine == pos.line) = true) :
    PE X (.Call (.Attribute o (meNm f) apos) (a1 :: args) [] pos) (Pd X.K fun σ m => (Fo σ m).bind fun x m1 => if recvB (meTy f) x m1 = true then (Fs σ m1).bind fun ds m2 => meD f x ds m2 else .bad) := by
  rw [List.all_cons, Bool.and_eq_true] at hp
  obtain ⟨b1, b2'⟩ := back_ok pos X.env args hp.2
  refine PE.imp (pe_bm (me_plain f) (me_slot f) (me_type f) (oMe hu f) ho ha (base_ok hb (meNm f) X.env (eval o X.env)) ?_ hline (star_ok hp.1 _ _) b1) fun τ H Q h => ?_
  · rw [star_ok hp.1]
    show (((true && (backTo pos (starEach args X.env)).all (fun x => !x.1)) && true) && decide ((a1 :: args).length + 0 + 0 < 30)) = true
    rw [b2']
    simp only [Bool.true_and, Bool.and_true, decide_eq_true_eq]
    omega
  · refine Rd.bind (A := RV X.K) (G := fun σ x m1 => if recvB (meTy f) x m1 = true then (Fs σ m1).bind fun ds m2 => meD f x ds m2 else .bad) h fun x H1 ρ1 σ m1 d rel rs rv h1 => ?_
    by_cases c : recvB (meTy f) d m1 = true
    · rw [if_pos c] at h1
      refine ⟨recv_ok rel rv c, ρ1, σ, m1, rel, rs, GF.mono (GF.bind (A := RVs X.K) h1) ?_⟩
      rintro ws H2 ⟨ρ2, m2, ds, ext, rel2, rv2, h2⟩
      exact ⟨ρ2, m2, _, ds, rel2, RV.ext rel ext _ _ rv, rv2, h2⟩
    · rw [if_neg c] at h1
      exact h1.elim
theorem e_me (f : Me) {o : E} {es : Es} (ho : SndE I C k o) (hs : SndEs I C k es) : SndE I C k (.me f o es) := .of (fun X g x h => by
  unfold chkE at h
  split at h
  · rename_i l a apos args pos
    obtain ⟨h1, h2⟩ := b2 h
    obtain ⟨h1, h3⟩ := b2 h1
    obtain ⟨h1, h4⟩ := b2 h1
    obtain ⟨h1, h5⟩ := b2 h1
    obtain ⟨h1, h6⟩ := b2 h1
    have e := of_decide_eq_true h1
    subst e
    obtain ⟨p1, p2, p3⟩ := hs X g _ h2
    refine ⟨?_, rfl⟩
    cases args with
    | nil =>
      cases es with
      | nil => exact PE.imp (pMe0 g.hu (ho.pe X g _ h3) h6 h5) fun τ H Q q => by rw [show ev C (.me f o .nil) = fun σ m => (ev C o σ m).bind fun x m1 => if recvB (meTy f) x m1 = true then meD f x [] m1 else .bad from rfl] at q; exact q
      | cons _ _ => unfold chkEs at h2; exact Bool.noConfusion h2
    | cons a1 args => exact pMe g.hu (ho.pe X g _ h3) p1 p2 (of_decide_eq_true h4) h6 h5
  · cases h) rfl
/-! ### a display of a dict -/
def esAll (P : E → Prop) : Es → Prop
  | .nil => True
  | .cons e es => P e ∧ esAll P es
def trsOf (K : PySem.W.Frag) (C : Mi.Cx) : List D → Es → List (TE × TE)
  | k :: ks, .cons e es => (Pd K (fun _ m => .ok k m), Pd K (ev C e)) :: trsOf K C ks es
  | _, _ => []
theorem pps_of {X : L2.Cx} (g : Gd I C k X) {pos : Pos} : ∀ (ks : List D) (es : Es) (keys : List (Option Expr)) (vals : List Expr), keysB ks keys = true → esAll (SndE I C k) es → chkEs I X.N es X.env.scope vals = true → keys.length = vals.length → PPs X pos keys vals (trsOf X.K C ks es) ∧ keys.all (·.isSome) = true ∧ ks.length = keys.length
  | [], es, keys, vals, h1, _, h3, h4 => by
    cases keys with
    | cons _ _ => unfold keysB at h1; exact Bool.noConfusion h1
    | nil =>
      cases vals with
      | cons _ _ => simp at h4
      | nil => unfold trsOf; exact ⟨pps_nil, rfl, rfl⟩
  | d :: ds, es, keys, vals, h1, h2, h3, h4 => by
    unfold keysB at h1
    split at h1
    · rename_i q; cases q
    · rename_i d' ds' c p1 p2 r q
      cases q
      obtain ⟨h1, h5⟩ := b2 h1
      obtain ⟨h1, h6⟩ := b2 h1
      cases vals with
      | nil => simp at h4
      | cons x vs =>
        cases es with
        | nil => unfold chkEs at h3; exact Bool.noConfusion h3
        | cons e es =>
          unfold chkEs at h3
          obtain ⟨h3, h7⟩ := b2 h3
          obtain ⟨h3, h8⟩ := b2 h3
          obtain ⟨i1, i2, i3⟩ := pps_of g ds es r vs h5 h2.2 h7 (by simpa using h4)
          unfold trsOf
          refine ⟨pps_cons ?_ (h2.1.pe X g _ h3) i1, by rw [List.all_cons, i2]; rfl, by rw [List.length_cons, List.length_cons, i3]⟩
          exact cst_ok (K := X.K) h1
    · exact Bool.noConfusion h1
theorem zipK_len : ∀ (ks ds : List D) (kvs : List (Key × D)), zipK ks ds = some kvs → kvs.length = ks.length
  | [], [], _, h => by cases h; rfl
  | [], _ :: _, _, h => by cases h
  | _ :: _, [], _, h => by cases h
  | k :: ks, d :: ds, kvs, h => by
    unfold zipK at h
    cases e1 : keyD k with
    | none => rw [e1] at h; cases h
    | some k' =>
      rw [e1] at h
      dsimp only at h
      cases e2 : zipK ks ds with
      | none => rw [e2] at h; cases h
      | some r =>
        rw [e2] at h
        cases h
        rw [List.length_cons, List.length_cons, zipK_len ks ds r e2]
theorem tp_run {K : PySem.W.Frag} {τ : St} : ∀ (ks : List D) (es : Es) (ρ : List Addr) (σ : Sl) (m : M) (H : Hp) (ds : List D) (m' : M) (kvs : List (Key × D)) (Q : List (V × V) → Hp → Prop), Rel K H ρ m → RS K H ρ σ τ → evs C es σ m = .ok ds m' → zipK ks ds = some kvs →
    (∀ H2 ρ2 ws, Ext H ρ H2 ρ2 → Rel K H2 ρ2 m' → RKs K H2 ρ2 kvs ws → Q (ws.map fun kv => (kV kv.1, kv.2)) H2) → tPairs (trsOf K C ks es) τ H Q
  | ks, .nil, ρ, σ, m, H, ds, m', kvs, Q, rel, rs, e, z, hq => by
    cases e
    cases ks with
    | cons _ _ => cases z
    | nil =>
      cases z
      unfold trsOf
      exact hq H ρ [] (Ext.refl _ _) rel (by simp only [RKs])
  | ks, .cons x es, ρ, σ, m, H, ds, m', kvs, Q, rel, rs, e, z, hq => by
    rw [evs] at e
    cases e1 : ev C x σ m with
    | exc => rw [e1] at e; cases e
    | bad => rw [e1] at e; cases e
    | ok d m1 =>
      rw [e1, bind_ok] at e
      cases e2 : evs C es σ m1 with
      | exc => rw [e2] at e; cases e
      | bad => rw [e2] at e; cases e
      | ok ds2 m2 =>
        rw [e2] at e
        cases e
        cases ks with
        | nil => cases z
        | cons kd ks =>
          unfold zipK at z
          cases k1 : keyD kd with
          | none => rw [k1] at z; cases z
          | some k' =>
            rw [k1] at z
            dsimp only at z
            cases z2 : zipK ks ds2 with
            | none => rw [z2] at z; cases z
            | some r =>
              rw [z2] at z
              cases z
              unfold trsOf tPairs
              refine ⟨ρ, σ, m, rel, rs, fun H1 ρ1 v1 x1 rel1 rv1 => ⟨ρ1, σ, m, rel1, rs.ext rel x1, ?_⟩⟩
              rw [e1]
              intro H2 ρ2 v2 x2 rel2 rv2
              refine tp_run ks es ρ2 σ m1 H2 ds2 _ r _ rel2 ((rs.ext rel x1).ext rel1 x2) e2 z2 fun H3 ρ3 ws x3 rel3 rk => ?_
              have e3 := key_V rv1 k1
              subst e3
              exact hq H3 ρ3 ((k', v2) :: ws) ((x1.trans x2).trans x3) rel3 (by simp only [RKs]; exact ⟨v2, ws, rfl, RV.ext rel2 x3 _ _ rv2, rk⟩)
/-- a dict apart is changed: ours stand -/
theorem Rel.apartK {K : PySem.W.Frag} {H : Hp} {ρ : List Addr} {m : M} {p : Addr} {vs ws : List (Key × V)} (r : Rel K H ρ m) (hp : H p = some (.dK vs)) (n : p ∉ ρ) : Rel K (upd H p (.dK ws)) ρ m ∧ ∀ ds us, RKs K H ρ ds us → RKs K (upd H p (.dK ws)) ρ ds us := by
  have e0 : Ext (fun a => if a = p then none else H a) ρ (upd H p (.dK ws)) ρ := ⟨List.prefix_refl _, fun a o h _ => by
    by_cases e : a = p
    · rw [if_pos e] at h; cases h
    · rw [if_neg e] at h
      rw [upd_ne e]
      exact h, fun _ _ _ h => h⟩
  have sqT : ∀ {a us}, SqT K H a us → SqT K (fun a => if a = p then none else H a) a us := fun {a us} h => by
    rcases h with (h | ⟨o, h⟩) | h
    · have ne : a ≠ p := fun q => by rw [q, hp] at h; cases h
      exact .inl (.inl (by show (if a = p then none else H a) = _; rw [if_neg ne]; exact h))
    · have ne : a ≠ p := fun q => by rw [q, hp] at h; cases h
      exact .inl (.inr ⟨o, by show (if a = p then none else H a) = _; rw [if_neg ne]; exact h⟩)
    · exact .inr h
  have fzl : ∀ {a us}, FzL K H a us → FzL K (fun a => if a = p then none else H a) a us := fun {a us} h => by
    rcases h with ⟨o, h⟩ | h
    · have ne : a ≠ p := fun q => by rw [q, hp] at h; cases h
      exact .inl ⟨o, by show (if a = p then none else H a) = _; rw [if_neg ne]; exact h⟩
    · exact .inr h
  have rvsd := RVs.down (K := K) (H := H) (H' := fun a => if a = p then none else H a) (ρ := ρ) sqT fzl
  have r0 : Rel K (fun a => if a = p then none else H a) ρ m := ⟨r.len, r.nd, fun l o e => by
    obtain ⟨a, ha, ro⟩ := r.ob l o e
    have ne : a ≠ p := fun q => n (q ▸ List.mem_of_getElem? ha)
    refine ⟨a, ha, ?_⟩
    cases o with
    | lst xs =>
      obtain ⟨us, h1, h2⟩ := ro
      exact ⟨us, by show (if a = p then none else H a) = _; rw [if_neg ne]; exact h1, rvsd _ _ h2⟩
    | dic xs =>
      obtain ⟨us, h1, h2⟩ := ro
      exact ⟨us, by show (if a = p then none else H a) = _; rw [if_neg ne]; exact h1, RKs.down sqT fzl _ _ h2⟩⟩
  refine ⟨⟨r.len, r.nd, fun l o e => ?_⟩, fun d v h => RKs.ext r0 e0 d v (RKs.down sqT fzl d v h)⟩
  obtain ⟨a, ha, ro⟩ := r0.ob l o e
  have ne : a ≠ p := fun q => n (q ▸ List.mem_of_getElem? ha)
  refine ⟨a, ha, RO.ext r0 e0 ?_ ro⟩
  show upd H p (.dK ws) a = if a = p then none else H a
  rw [upd_ne ne, if_neg ne]
theorem Rel.takeK {K : PySem.W.Frag} {H : Hp} {ρ : List Addr} {m : M} {p : Addr} {xs : List (Key × D)} {vs : List (Key × V)} (r : Rel K H ρ m) (hp : H p = some (.dK vs)) (n : p ∉ ρ) (rv : RKs K H ρ xs vs) : Rel K H (ρ ++ [p]) (m ++ [.dic xs]) := by
  refine ⟨by simp [r.len], ?_, fun l w e => ?_⟩
  · rw [List.nodup_append]
    refine ⟨r.nd, by simp, fun a ha b hb => ?_⟩
    have e : b = p := by simpa using hb
    rintro rfl
    exact n (e ▸ ha)
  · by_cases hl : l < m.length
    · rw [List.getElem?_append_left hl] at e
      obtain ⟨a, ha, r2⟩ := r.ob l w e
      refine ⟨a, prefix_get (List.prefix_append _ _) ha, ?_⟩
      cases w with
      | lst ys =>
        obtain ⟨ws, h1, h2⟩ := r2
        exact ⟨ws, h1, RVs.up (List.prefix_append _ _) _ _ h2⟩
      | dic ys =>
        obtain ⟨ws, h1, h2⟩ := r2
        exact ⟨ws, h1, RKs.up (List.prefix_append _ _) _ _ h2⟩
    · have hl2 : l = m.length := by
        have := (List.getElem?_eq_some_iff.mp e).1
        simp at this
        omega
      subst hl2
      rw [List.getElem?_append_right (Nat.le_refl _), Nat.sub_self] at e
      cases e
      refine ⟨p, ?_, vs, hp, RKs.up (List.prefix_append _ _) _ _ rv⟩
      rw [← r.len, List.getElem?_append_right (Nat.le_refl _), Nat.sub_self]
      rfl
theorem e_dct (ks : List D) {es : Es} (ha : esAll (SndE I C k) es) : SndE I C k (.dct ks es) := .of (fun X g x h => by
  unfold chkE at h
  split at h
  · rename_i keys vals pos
    obtain ⟨h1, h2⟩ := b2 h
    obtain ⟨h1, h3⟩ := b2 h1
    obtain ⟨h1, h4⟩ := b2 h1
    obtain ⟨h1, h5⟩ := b2 h1
    have h3 := of_decide_eq_true h3
    have h4 := of_decide_eq_true h4
    obtain ⟨p1, p2, p3⟩ := pps_of g (pos := pos) ks es keys vals h1 ha h5 h4
    have hne : keys ≠ [] := fun q => by rw [q] at h2; cases h2
    refine ⟨PE.imp (pe_disp p1 p2 h4 hne h3) fun τ H Q q => ?_, rfl⟩
    intro p hp
    obtain ⟨ρ, σ, m, rel, rs, q⟩ := q
    rw [ev] at q
    cases e : evs C es σ m with
    | exc => rw [e] at q; exact q.elim
    | bad => rw [e] at q; exact q.elim
    | ok ds m' =>
      rw [e, bind_ok] at q
      unfold dctD at q
      cases z : zipK ks ds with
      | none => rw [z] at q; exact q.elim
      | some kvs =>
        rw [z] at q
        have zl := zipK_len ks ds kvs z
        have x0 : Ext H ρ (upd H p (.dK [])) ρ := Ext.laid rel hp
        have nin := rel.free hp
        refine tp_run ks es ρ σ m _ ds m' kvs _ (Rel.laid rel hp) (rs.ext rel x0) e z fun H2 ρ2 ws x2 rel2 rk => ?_
        have hp2 : H2 p = some (.dK []) := x2.keep p _ upd_same nin
        have nin2 : p ∉ ρ2 := fun q2 => nin (x2.new p _ upd_same q2)
        have wl := RKs.length kvs ws rk
        refine ⟨hp2, ws, rfl, by omega, ?_⟩
        obtain ⟨r1, r2⟩ := Rel.apartK (ws := mergeK [] ws) rel2 hp2 nin2
        have rm := RKs.merge kvs [] ws [] (by simp only [RKs]) (r2 _ _ rk)
        have r3 := Rel.takeK r1 upd_same nin2 rm
        refine q _ (ρ2 ++ [p]) _ ⟨(x0.trans x2).pre.trans (List.prefix_append _ _), fun a o h n => ?_, fun a o h hm => ?_⟩ r3 ?_
        · have ne : a ≠ p := fun q2 => by rw [q2, hp] at h; cases h
          rw [upd_ne ne]
          exact (x0.trans x2).keep a o h n
        · rcases List.mem_append.mp hm with q2 | q2
          · exact (x0.trans x2).new a o h q2
          · have e : a = p := by simpa using q2
            rw [e, hp] at h
            cases h
        · simp only [RV]
          refine ⟨p, rfl, ?_⟩
          rw [← rel2.len, List.getElem?_append_right (Nat.le_refl _), Nat.sub_self]
          rfl
  · cases h) rfl
/-! ### a written table's get -/
theorem pe_kget {X : L2.Cx} {o e : Expr} {es : List Expr} {p : Addr} {kvs : List (Str × Int)} {t : TA} {apos cpos : Pos} (hk : KDic X.K X.w p kvs) (ho : PE X o (tC (.ref p))) (ha : PA X (e :: es) t)
    (hbase : attributeBase o "get" X.env (eval o X.env) = eval o X.env)
    (hfew : ((backTo cpos (starEach (e :: es) X.env)).all (fun x => !x.1) && (backToKw cpos (keywordEach [] X.env)).all (fun x => x.1.isSome)
      && decide ((e :: es).length + ([] : List Keyword).length + (if ([] : List Keyword).isEmpty then 0 else 1) < 30)) = true)
    (hline : (apos.endLine == cpos.line) = true) (hs : starEach (e :: es) X.env = (false, eval e X.env) :: starEach es X.env) (hplain : (backTo cpos (starEach es X.env)).any (·.1) = false) :
    PE X (.Call (.Attribute o "get" apos) (e :: es) [] cpos) (fun σ H Q => t σ H fun xs H2 => ∃ k d v, xs = [.str k, d] ∧ (v = match kvs.find? (fun q => decide (q.1 = k)) with
      | some q => V.int q.2
      | none => d) ∧ Q v H2) := by
  refine ⟨fun pins s σ H Q I h => ?_⟩
  refine wpAny_Call_method_late hbase hfew hline rfl (thn (ho.run pins s σ H (fun x H1 => x = .ref p ∧ t σ H1 fun xs H2 => ∃ k d v, xs = [.str k, d] ∧ (v = match kvs.find? (fun q => decide (q.1 = k)) with
      | some q => V.int q.2
      | none => d) ∧ Q v H2) I ⟨rfl, h⟩) fun v s1 ⟨x, H1, I1, r1, ex, q1⟩ => ?_)
  subst ex
  obtain rfl : v = Value.ref p := r1
  obtain ⟨des, n, D, hit, mis⟩ := hk
  have hm := PySem.W.mapOf_K (prog := X.prog) (w := X.w) I1.kIn D.at_ D.lit
  refine ⟨"dict", "dict.get", PySem.F.plainAttrs_dict, PySem.F.slot_dict_get, PySem.F.type_dict_get, hm.typeIs, hm.noDict, ?_⟩
  have hA := ha.run cpos pins s1 σ H1 _ I1 q1
  rw [hs] at hA ⊢
  refine Calls.callWith_builtin (by show (false || (backTo cpos (starEach es X.env)).any (·.1)) = false; rw [hplain] <;> rfl) (Calls.evalArgs_plain ?_)
  refine thn hA fun us s2 ⟨vs, H2, I2, r2, k, d, v, ev, ew, q2⟩ => ?_
  subst ev
  obtain ⟨u, u2, rfl, ru, ru2⟩ := vals2 r2
  obtain ⟨tk, rfl⟩ := (show ∃ t, u = Value.str k t from ru)
  have hm2 := PySem.W.mapOf_K (prog := X.prog) (w := X.w) I2.kIn D.at_ D.lit
  refine call_meetsIn PySem.F.slot_dict_get hm2.typeIs PySem.F.entry_dict_get (PySem.F.args_dict_get_3 _ _ _) (meets_dict_get_default (strKind X.prog X.w) p (strKind_is X.prog X.w k tk) D.low u2) ⟨_, hm2, ?_⟩
  refine ⟨v, H2, I2.tok _, ?_, q2⟩
  cases e : kvs.find? (fun q => decide (q.1 = k)) with
  | some q =>
    rw [e] at ew
    subst ew
    have hz : q.1 = k := by simpa using List.find?_some e
    obtain ⟨w, e1, e2⟩ := hit q.1 q.2 (List.mem_of_find?_eq_some e)
    rw [hz] at e1
    rw [PySem.W.find_K D.at_ e1]
    exact e2
  | none =>
    rw [e] at ew
    subst ew
    have nk : k ∉ kvs.map (·.1) := fun hk2 => by
      obtain ⟨q, hq, rfl⟩ := List.mem_map.mp hk2
      have := List.find?_eq_none.mp e q hq
      simp at this
    rw [PySem.W.find_K D.at_ (mis k nk)]
    exact ru2
theorem e_kgt (y : Str) (kvs : List (Str × Int)) {es : Es} (hs : SndEs I C k es) : SndE I C k (.kgt y kvs es) := .of (fun X g x h => by
  unfold chkE at h
  split at h
  · rename_i z zp a apos args pos
    obtain ⟨h1, h2⟩ := b2 h
    obtain ⟨h1, h3⟩ := b2 h1
    obtain ⟨h1, h4⟩ := b2 h1
    obtain ⟨h1, h5⟩ := b2 h1
    obtain ⟨h1, h6⟩ := b2 h1
    obtain ⟨h1, h7⟩ := b2 h1
    obtain ⟨h1, h8⟩ := b2 h1
    have e := of_decide_eq_true h1
    subst e
    have e := of_decide_eq_true h8
    subst e
    obtain ⟨p, hm, hd⟩ := g.dics _ _ (of_decide_eq_true h5)
    obtain ⟨n1, _⟩ := nm_ok h3
    obtain ⟨p1, p2, p3⟩ := hs X g _ h2
    refine ⟨?_, rfl⟩
    cases args with
    | nil =>
      cases es with
      | nil => exact ⟨fun pins s σ H Q J q => by
          obtain ⟨ρ, τ, m, rel, rs, q⟩ := q
          exact q.elim⟩
      | cons _ _ => unfold chkEs at h2; exact Bool.noConfusion h2
    | cons a1 args =>
      rw [List.all_cons, Bool.and_eq_true] at p2
      obtain ⟨b1, b2'⟩ := back_ok pos X.env args p2.2
      refine PE.imp (pe_kget hd (pe_glob (gl_ok h4) hm (show RelV (.ref p) (.ref p) from rfl) n1) p1 rfl ?_ h7 (star_ok p2.1 _ _) b1) fun τ H Q q => ?_
      · rw [star_ok p2.1]
        show (((true && (backTo pos (starEach args X.env)).all (fun x => !x.1)) && true) && decide ((a1 :: args).length + 0 + 0 < 30)) = true
        rw [b2']
        have := of_decide_eq_true h6
        simp only [Bool.true_and, Bool.and_true, decide_eq_true_eq]
        omega
      · refine Rd.bind (A := RVs X.K) (G := fun _ ds m1 => kgtD kvs ds m1) q fun vs H1 ρ1 σ m1 ds rel rs rv h1 => ?_
        rcases ds with _ | ⟨d1, _ | ⟨d2, _ | ⟨_, _⟩⟩⟩
        · exact h1.elim
        · cases d1 <;> exact h1.elim
        · cases d1 with
          | str ky =>
            obtain ⟨w, z, rfl, hw, hz⟩ := rvs2 rv
            obtain ⟨rfl, _⟩ := rv_str hw
            refine ⟨ky, z, _, rfl, rfl, ?_⟩
            unfold kgtD kgtV at h1
            dsimp only at h1
            cases e : kvs.find? (fun q => decide (q.1 = ky)) with
            | some q => rw [e] at h1; exact gf_ok h1 rel (rvI _)
            | none => rw [e] at h1; exact gf_ok h1 rel hz
          | _ => exact h1.elim
        · cases d1 <;> exact h1.elim
  · cases h) rfl
/-! ### sorted(set(..)) -/
theorem insU_mem (x k : Int) : ∀ ys : List Int, k ∈ insU x ys ↔ k = x ∨ k ∈ ys
  | [] => by simp [insU]
  | y :: ys => by
    unfold insU
    by_cases a : x < y
    · rw [if_pos a]; simp
    · rw [if_neg a]
      by_cases b : x = y
      · rw [if_pos b, b]; simp
      · rw [if_neg b, List.mem_cons, insU_mem x k ys, List.mem_cons]
        constructor
        · rintro (h | h | h)
          · exact .inr (.inl h)
          · exact .inl h
          · exact .inr (.inr h)
        · rintro (h | h | h)
          · exact .inr (.inl h)
          · exact .inl h
          · exact .inr (.inr h)
theorem insU_pw (x : Int) : ∀ ys : List Int, ys.Pairwise (· < ·) → (insU x ys).Pairwise (· < ·)
  | [], _ => List.pairwise_singleton _ _
  | y :: ys, h => by
    have h2 := List.pairwise_cons.mp h
    unfold insU
    by_cases a : x < y
    · rw [if_pos a]
      refine List.pairwise_cons.mpr ⟨fun z hz => ?_, h⟩
      rcases List.mem_cons.mp hz with rfl | hz
      · exact a
      · have := h2.1 z hz; omega
    · rw [if_neg a]
      by_cases b : x = y
      · rw [if_pos b]; exact h
      · rw [if_neg b]
        refine List.pairwise_cons.mpr ⟨fun z hz => ?_, insU_pw x ys h2.2⟩
        rcases (insU_mem x z ys).mp hz with rfl | hz
        · omega
        · exact h2.1 z hz
theorem sortU_mem (k : Int) : ∀ xs : List Int, k ∈ sortU xs ↔ k ∈ xs
  | [] => by simp [sortU]
  | x :: xs => by
    have ih := sortU_mem k xs
    unfold sortU at ih ⊢
    rw [List.foldr_cons, insU_mem, ih, List.mem_cons]
theorem sortU_pw : ∀ xs : List Int, (sortU xs).Pairwise (· < ·)
  | [] => List.Pairwise.nil
  | x :: xs => insU_pw x _ (sortU_pw xs)
theorem pw_ext : ∀ (a b : List Int), a.Pairwise (· < ·) → b.Pairwise (· < ·) → (∀ k, k ∈ a ↔ k ∈ b) → a = b
  | [], [], _, _, _ => rfl
  | [], y :: ys, _, _, h => absurd ((h y).mpr List.mem_cons_self) (by simp)
  | x :: xs, [], _, _, h => absurd ((h x).mp List.mem_cons_self) (by simp)
  | x :: xs, y :: ys, ha, hb, h => by
    have a1 := List.pairwise_cons.mp ha
    have b1 := List.pairwise_cons.mp hb
    have e : x = y := by
      rcases List.mem_cons.mp ((h x).mp List.mem_cons_self) with q | q
      · exact q
      · rcases List.mem_cons.mp ((h y).mpr List.mem_cons_self) with r | r
        · exact r.symm
        · have := b1.1 x q
          have := a1.1 y r
          omega
    subst e
    rw [pw_ext xs ys a1.2 b1.2 fun k => ?_]
    constructor
    · intro hk
      rcases List.mem_cons.mp ((h k).mp (List.mem_cons_of_mem _ hk)) with q | q
      · have := a1.1 k hk; omega
      · exact q
    · intro hk
      rcases List.mem_cons.mp ((h k).mpr (List.mem_cons_of_mem _ hk)) with q | q
      · have := b1.1 k hk; omega
      · exact q
theorem ss_names : ("sorted" : Str) ∈ biNames ∧ (("sorted" : Str) == ("__debug__" : Str)) = false ∧ ("sorted" : Str) ≠ "__name__" ∧ ("set" : Str) ∈ biNames ∧ (("set" : Str) == ("__debug__" : Str)) = false ∧ ("set" : Str) ≠ "__name__" := by decide +kernel
theorem ss_boot : bootBuiltins "sorted" = some (.builtin "sorted") ∧ bootBuiltins "set" = some (.type "set") := by decide +kernel
theorem sortU_nd : ∀ xs : List Int, (sortU xs).length ≤ xs.length
  | [] => Nat.le_refl _
  | x :: xs => by
    have ih := sortU_nd xs
    have le : ∀ (y : Int) (l : List Int), (insU y l).length ≤ l.length + 1 := fun y l => by
      induction l with
      | nil => exact Nat.le_refl _
      | cons z l h =>
        unfold insU
        by_cases a : y < z
        · rw [if_pos a]; exact Nat.le_refl _
        · rw [if_neg a]
          by_cases b : y = z
          · rw [if_pos b]; simp
          · rw [if_neg b]; simp only [List.length_cons]; omega
    unfold sortU at ih ⊢
    rw [List.foldr_cons]
    have := le x (List.foldr insU [] xs)
    simp only [List.length_cons]
    omega
theorem e_ss {a : E} (ha : SndE I C k a) : SndE I C k (.ss a) := .of (fun X g x h => by
  unfold chkE at h
  split at h
  · obtain ⟨h1, h2⟩ := b2 h
    obtain ⟨h1, h3⟩ := b2 h1
    obtain ⟨h1, h4⟩ := b2 h1
    obtain ⟨h1, h5⟩ := b2 h1
    obtain ⟨h1, h6⟩ := b2 h1
    have e1 := of_decide_eq_true h1
    have e2 := of_decide_eq_true h6
    subst e1 e2
    obtain ⟨n1, n2, n3, n4, n5, n6⟩ := ss_names
    refine ⟨PE.imp (pBi (cr_ss g.calm) (.inl ⟨_, rfl⟩) (gl_ok h5) (g.bis _ n1) ss_boot.1 (pa_cons (pBi ((call_set_ints g.calm).or (call_set_ints2 g.calm)) (.inr ⟨_, rfl⟩) (gl_ok h4) (g.bis _ n4) ss_boot.2 (pa_cons (ha.pe X g _ h2) pa_nil (star_ok h3 _ _)) n6 n5 (star_ok h3 _ _) rfl) pa_nil (star_ok rfl _ _)) n3 n2 (star_ok rfl _ _) rfl) fun τ H Q q => ?_, rfl⟩
    refine Rd.bind (A := RV X.K) (G := fun _ x m1 => ssD x m1) q fun v H1 ρ1 σ m1 d rel rs rv h1 => ?_
    have last : ∀ (is : List Int) (p : Addr) (n : Nat), is.length ≤ 1000 → n ≤ is.length → H1 p = none → GF X.K (RV X.K) Q H1 ρ1 (alloc ((sortU is).map .int) m1) → rSS X.w [.ref p] (upd H1 p (SetO X.w p (fun j => decide (j ∈ is)) n)) Q := fun is p n hl hn hp h1 => by
      refine ⟨p, _, n, rfl, upd_same, by omega, fun out p2 pw hm hp2 => ?_⟩
      have eo : out = sortU is := pw_ext out _ pw (sortU_pw is) fun k => by
        rw [hm k, decide_eq_true_eq, sortU_mem]
      subst eo
      exact gf_lst (GF.later h1 (Ext.laid rel hp)) (Rel.laid rel hp) (RVs.mapint _) hp2
    cases d with
    | ref l =>
      unfold ssD at h1
      dsimp only at h1
      cases q : m1[l]? with
      | none => rw [q] at h1; exact h1.elim
      | some o =>
        cases o with
        | dic _ => rw [q] at h1; exact h1.elim
        | lst xs =>
          rw [q] at h1
          dsimp only at h1
          cases q2 : intsD xs with
          | none => rw [q2] at h1; exact h1.elim
          | some is =>
            rw [q2] at h1
            dsimp only at h1
            by_cases hl : is.length ≤ 60
            · rw [if_pos hl] at h1
              obtain ⟨b, ws, rfl, hb, k1, k2⟩ := rv_lst rel rv q
              have e2 := intsD_map xs is q2
              subst e2
              have e3 := RVs.ints is ws k2
              subst e3
              exact .inl ⟨b, is, rfl, SqL.of k1, hl, fun p n hn hp => last is p n (by omega) hn hp h1⟩
            · rw [if_neg hl] at h1; exact h1.elim
    | tup xs =>
      unfold ssD at h1
      dsimp only at h1
      cases q2 : intsD xs with
      | none => rw [q2] at h1; exact h1.elim
      | some is =>
        rw [q2] at h1
        dsimp only at h1
        by_cases hl : is.length ≤ 1000
        · rw [if_pos hl] at h1
          obtain ⟨b, ws, rfl, k1, k2⟩ := rv_tup rv
          have e2 := intsD_map xs is q2
          subst e2
          have e3 := RVs.ints is ws k2
          subst e3
          exact .inr ⟨b, is, rfl, k1, hl, fun p n hn hp => last is p n hl hn hp h1⟩
        · rw [if_neg hl] at h1; exact h1.elim
    | _ => exact h1.elim
  · cases h) rfl
theorem insP_perm (x : Int × Int) : ∀ ys : List (Int × Int), (insP x ys).Perm (x :: ys)
  | [] => List.Perm.refl _
  | y :: ys => by
    unfold insP
    by_cases c : y.1 < x.1 ∨ y.1 = x.1 ∧ y.2 < x.2
    · rw [if_pos c]; exact ((insP_perm x ys).cons y).trans (List.Perm.swap _ _ _)
    · rw [if_neg c]
theorem sortP_perm : ∀ xs : List (Int × Int), (sortP xs).Perm xs
  | [] => List.Perm.refl _
  | x :: xs => by
    have ih := sortP_perm xs
    unfold sortP at ih ⊢
    rw [List.foldr_cons]
    exact (insP_perm x _).trans (ih.cons x)
theorem insP_pw (x : Int × Int) : ∀ ys : List (Int × Int), ys.Pairwise (fun a b => SrtO.lexB b a = false) → (insP x ys).Pairwise (fun a b => SrtO.lexB b a = false)
  | [], _ => List.pairwise_singleton _ _
  | y :: ys, h => by
    have h2 := List.pairwise_cons.mp h
    unfold insP
    by_cases c : y.1 < x.1 ∨ y.1 = x.1 ∧ y.2 < x.2
    · rw [if_pos c]
      refine List.pairwise_cons.mpr ⟨fun z hz => ?_, insP_pw x ys h2.2⟩
      rcases List.mem_cons.mp ((insP_perm x ys).mem_iff.mp hz) with rfl | hz
      · rw [SrtO.lexB_no]; omega
      · exact h2.1 z hz
    · rw [if_neg c]
      refine List.pairwise_cons.mpr ⟨fun z hz => ?_, h⟩
      rw [SrtO.lexB_no]
      rcases List.mem_cons.mp hz with rfl | hz
      · omega
      · have := SrtO.lexB_no.mp (h2.1 z hz); omega
theorem sortP_pw : ∀ xs : List (Int × Int), (sortP xs).Pairwise (fun a b => SrtO.lexB b a = false)
  | [] => List.Pairwise.nil
  | x :: xs => insP_pw x _ (sortP_pw xs)
theorem perm_pw : ∀ (a b : List (Int × Int)), a.Perm b → a.Pairwise (fun a b => SrtO.lexB b a = false) → b.Pairwise (fun a b => SrtO.lexB b a = false) → a = b
  | [], b, p, _, _ => (List.nil_perm.mp p).symm
  | x :: xs, [], p, _, _ => absurd p.length_eq (by simp)
  | x :: xs, y :: ys, p, ha, hb => by
    have a1 := List.pairwise_cons.mp ha
    have b1 := List.pairwise_cons.mp hb
    have e : x = y := by
      have l1 : ¬ (y.1 < x.1 ∨ y.1 = x.1 ∧ y.2 < x.2) := by
        rcases List.mem_cons.mp (p.mem_iff.mpr List.mem_cons_self) with q | q
        · rw [q]; omega
        · exact SrtO.lexB_no.mp (a1.1 y q)
      have l2 : ¬ (x.1 < y.1 ∨ x.1 = y.1 ∧ x.2 < y.2) := by
        rcases List.mem_cons.mp (p.mem_iff.mp List.mem_cons_self) with q | q
        · rw [q]; omega
        · exact SrtO.lexB_no.mp (b1.1 x q)
      exact Prod.ext (by omega) (by omega)
    subst e
    rw [perm_pw xs ys p.cons_inv a1.2 b1.2]
theorem insN_perm (x : Int) : ∀ ys, (insN x ys).Perm (x :: ys)
  | [] => List.Perm.refl _
  | y :: ys => by
    unfold insN
    split
    · exact ((insN_perm x ys).cons y).trans (List.Perm.swap x y ys)
    · exact List.Perm.refl _
theorem sortN_perm : ∀ xs : List Int, (sortN xs).Perm xs
  | [] => List.Perm.refl _
  | x :: xs => (insN_perm x _).trans ((sortN_perm xs).cons x)
theorem insN_pw (x : Int) : ∀ ys : List Int, ys.Pairwise (· ≤ ·) → (insN x ys).Pairwise (· ≤ ·)
  | [], _ => List.pairwise_singleton _ _
  | y :: ys, h => by
    have h1 := List.pairwise_cons.mp h
    unfold insN
    split
    · rename_i c
      refine List.pairwise_cons.mpr ⟨fun z hz => ?_, insN_pw x ys h1.2⟩
      rcases List.mem_cons.mp ((insN_perm x ys).mem_iff.mp hz) with q | q
      · rw [q]; omega
      · exact h1.1 z q
    · rename_i c
      refine List.pairwise_cons.mpr ⟨fun z hz => ?_, h⟩
      rcases List.mem_cons.mp hz with q | q
      · rw [q]; omega
      · have := h1.1 z q; omega
theorem sortN_pw : ∀ xs : List Int, (sortN xs).Pairwise (· ≤ ·)
  | [] => List.Pairwise.nil
  | x :: xs => insN_pw x _ (sortN_pw xs)
theorem perm_pwN : ∀ (a b : List Int), a.Perm b → a.Pairwise (· ≤ ·) → b.Pairwise (· ≤ ·) → a = b
  | [], b, p, _, _ => (List.nil_perm.mp p).symm
  | x :: xs, [], p, _, _ => absurd p.length_eq (by simp)
  | x :: xs, y :: ys, p, ha, hb => by
    have a1 := List.pairwise_cons.mp ha
    have b1 := List.pairwise_cons.mp hb
    have e : x = y := by
      have l1 : x ≤ y := by
        rcases List.mem_cons.mp (p.mem_iff.mpr List.mem_cons_self) with q | q
        · rw [q]; exact Int.le_refl _
        · exact a1.1 y q
      have l2 : y ≤ x := by
        rcases List.mem_cons.mp (p.mem_iff.mp List.mem_cons_self) with q | q
        · rw [q]; exact Int.le_refl _
        · exact b1.1 x q
      omega
    subst e
    rw [perm_pwN xs ys p.cons_inv a1.2 b1.2]
theorem prsD_V {K : PySem.W.Frag} {H : Hp} {ρ : List Addr} : ∀ (xs : List D) (ps : List (Int × Int)) (vs : List V), prsD xs = some ps → RVs K H ρ xs vs → PrV K H vs ps
  | [], ps, vs, e, r => by
    cases e
    simp only [RVs] at r
    subst r
    trivial
  | .tup [.int i, .int j] :: xs, ps, vs, e, r => by
    unfold prsD at e
    cases q : prsD xs with
    | none => rw [q] at e; cases e
    | some qs =>
      rw [q] at e
      cases e
      simp only [RVs] at r
      obtain ⟨v, t, rfl, h1, h2⟩ := r
      obtain ⟨a, ws, rfl, k1, k2⟩ := rv_tup h1
      have e3 := RVs.ints [i, j] ws k2
      subst e3
      exact ⟨⟨a, rfl, k1⟩, prsD_V xs qs t q h2⟩
  | .non :: _, _, _, e, _ => by cases e
  | .bl _ :: _, _, _, e, _ => by cases e
  | .int _ :: _, _, _, e, _ => by cases e
  | .str _ :: _, _, _, e, _ => by cases e
  | .fl _ :: _, _, _, e, _ => by cases e
  | .ref _ :: _, _, _, e, _ => by cases e
  | .tup [] :: _, _, _, e, _ => by cases e
  | .tup [_] :: _, _, _, e, _ => by simp [prsD] at e
  | .tup (_ :: _ :: _ :: _) :: _, _, _, e, _ => by simp [prsD] at e
  | .tup [.non, _] :: _, _, _, e, _ => by simp [prsD] at e
  | .tup [.bl _, _] :: _, _, _, e, _ => by simp [prsD] at e
  | .tup [.str _, _] :: _, _, _, e, _ => by simp [prsD] at e
  | .tup [.tup _, _] :: _, _, _, e, _ => by simp [prsD] at e
  | .tup [.fl _, _] :: _, _, _, e, _ => by simp [prsD] at e
  | .tup [.ref _, _] :: _, _, _, e, _ => by simp [prsD] at e
  | .tup [.int _, .non] :: _, _, _, e, _ => by simp [prsD] at e
  | .tup [.int _, .bl _] :: _, _, _, e, _ => by simp [prsD] at e
  | .tup [.int _, .str _] :: _, _, _, e, _ => by simp [prsD] at e
  | .tup [.int _, .tup _] :: _, _, _, e, _ => by simp [prsD] at e
  | .tup [.int _, .fl _] :: _, _, _, e, _ => by simp [prsD] at e
  | .tup [.int _, .ref _] :: _, _, _, e, _ => by simp [prsD] at e
theorem prV_RVs {K : PySem.W.Frag} {H : Hp} {ρ : List Addr} : ∀ (ps : List (Int × Int)) (vs : List V), PrV K H vs ps → RVs K H ρ (ps.map prD) vs
  | [], [], _ => RVs.nil
  | p :: ps, v :: vs, ⟨⟨t, e, q⟩, h⟩ => by
    subst e
    refine RVs.cons ?_ (prV_RVs ps vs h)
    unfold prD
    simp only [RV]
    exact ⟨t, _, rfl, q, RVs.mapint [p.1, p.2]⟩
  | [], _ :: _, h => h.elim
  | _ :: _, [], h => h.elim
theorem e_so {a : E} (ha : SndE I C k a) : SndE I C k (.so a) := .of (fun X g x h => by
  unfold chkE at h
  split at h
  · obtain ⟨h1, h2⟩ := b2 h
    obtain ⟨h1, h3⟩ := b2 h1
    obtain ⟨h1, h5⟩ := b2 h1
    have e1 := of_decide_eq_true h1
    subst e1
    obtain ⟨n1, n2, n3, _⟩ := ss_names
    refine ⟨PE.imp (pBi cr_so (.inl ⟨_, rfl⟩) (gl_ok h5) (g.bis _ n1) ss_boot.1 (pa_cons (ha.pe X g _ h2) pa_nil (star_ok h3 _ _)) n3 n2 (star_ok h3 _ _) rfl) fun τ H Q q => ?_, rfl⟩
    refine Rd.bind (A := RV X.K) (G := fun _ x m1 => soD x m1) q fun v H1 ρ1 σ m1 d rel rs rv h1 => ?_
    unfold soD at h1
    cases q : seqD d m1 with
    | none => rw [q] at h1; exact h1.elim
    | some xs =>
      rw [q] at h1
      dsimp only at h1
      cases q2 : prsD xs with
      | none =>
        rw [q2] at h1
        dsimp only at h1
        cases q3 : intsD xs with
        | none => rw [q3] at h1; exact h1.elim
        | some is =>
          rw [q3] at h1
          obtain ⟨b, ws, rfl, k1, k2⟩ := rv_seq rel rv q
          have e2 := intsD_map xs is q3
          subst e2
          have e3 := RVs.ints is ws k2
          subst e3
          refine .inr ⟨b, is, rfl, k1, fun js p pm pw hp => ?_⟩
          have e := perm_pwN js (sortN is) (pm.trans (sortN_perm is).symm) pw (sortN_pw is)
          rw [e]
          exact gf_lst h1 rel (RVs.mapint _) hp
      | some ps =>
        rw [q2] at h1
        obtain ⟨b, ws, rfl, k1, k2⟩ := rv_seq rel rv q
        refine .inl ⟨b, ws, ps, rfl, k1, prsD_V xs ps ws q2 k2, fun ys qs p pv pm pw hp => ?_⟩
        have e := perm_pw qs (sortP ps) (pm.trans (sortP_perm ps).symm) pw (sortP_pw ps)
        rw [e] at pv
        exact gf_lst h1 rel (prV_RVs _ ys pv) hp
  · cases h) rfl
theorem RVs.rev {K : PySem.W.Frag} {H : Hp} {ρ : List Addr} : ∀ (ds : List D) (vs : List V), RVs K H ρ ds vs → RVs K H ρ ds.reverse vs.reverse
  | [], _, h => by simp only [RVs] at h; subst h; exact RVs.nil
  | d :: ds, _, h => by
    simp only [RVs] at h
    obtain ⟨v, t, rfl, h1, h2⟩ := h
    rw [List.reverse_cons, List.reverse_cons]
    exact RVs.append _ _ _ _ (RVs.rev ds t h2) (RVs.cons h1 RVs.nil)
theorem e_rv {a : E} (ha : SndE I C k a) : SndE I C k (.rv a) := .of (fun X g x h => by
  unfold chkE at h
  split at h
  · refine ⟨PE.imp (pe_revL (ha.pe X g _ h)) fun τ H Q q => ?_, rfl⟩
    refine Rd.bind (A := RV X.K) (G := fun _ x m1 => rvD x m1) q fun v H1 ρ1 σ m1 d rel rs rv h1 => ?_
    cases d with
    | ref l =>
      unfold rvD at h1
      dsimp only at h1
      cases q : m1[l]? with
      | none => rw [q] at h1; exact h1.elim
      | some o =>
        cases o with
        | dic _ => rw [q] at h1; exact h1.elim
        | lst xs =>
          rw [q] at h1
          obtain ⟨b, ws, rfl, _, k1, k2⟩ := rv_lst rel rv q
          exact ⟨b, ws, rfl, SqL.of k1, fun p hp => gf_lst h1 rel (RVs.rev _ _ k2) hp⟩
    | _ => exact h1.elim
  · cases h) rfl
/-! ### what is never reached; lower and replace -/
theorem e_halt : SndE I C k .halt := .of (fun X g x h => ⟨⟨fun pins s σ H Q _ q => by
  obtain ⟨ρ, τ, m, _, _, q⟩ := q
  exact q.elim⟩, halt_plain h⟩) rfl
def tLrp (to : TE) (y z : Str) : TE := fun σ H Q => to σ H fun v H1 => ∃ x, v = .str x ∧ x.length ≤ 5592405 ∧ (Txt.lower x).length + ((Txt.lower x).length + 1) * z.length ≤ 16777216 ∧ Q (.str (Txt.replace (Txt.lower x) y z)) H1
theorem pe_lrp {X : L2.Cx} {o : Expr} {to : TE} {y z : Str} {j k : Nat} {c0 c1 ap1 pos1 ap2 pos2 : Pos} (ho : PE X o to) (hb : attributeBase o "lower" X.env (eval o X.env) = eval o X.env) (l1 : (ap1.endLine == pos1.line) = true) (l2 : (ap2.endLine == pos2.line) = true) (hyz : (y == z) = false) :
    PE X (.Call (.Attribute (.Call (.Attribute o "lower" ap1) [] [] pos1) "replace" ap2) [.Constant (.str y) j c0, .Constant (.str z) k c1] [] pos2) (tLrp to y z) := by
  refine ⟨fun pins s σ H Q I h => ?_⟩
  refine PySem.Call_method2 rfl rfl l2 (wpAny_Call_method0_late hb l1 (thn (ho.run pins s σ H _ I h) fun v s1 ⟨v', H1, I1, r1, x, e1, hl, hz, q⟩ => ?_))
  subst e1
  obtain ⟨tx, e2⟩ := r1
  subst e2
  refine ⟨"str", _, PySem.F.plainAttrs_str, PySem.F.slot_str_lower, PySem.F.type_str_lower, typeIs_str _ _ _, (fun _ e => nomatch e), Calls.callWith_builtin rfl (PySem.evalArgs_none ?_)⟩
  refine PySem.SC.lower (PyProof.Rows.short24 (by have := PyProof.Rows.len_lower x; omega)) ?_
  refine ⟨"str", _, PySem.F.plainAttrs_str, PySem.F.slot_str_replace, PySem.F.type_str_replace, typeIs_str _ _ _, (fun _ e => nomatch e), Calls.callWith_builtin rfl (Calls.evalArgs_plain (Calls.spliced_cons ?_))⟩
  refine Calls.Constant_str (Calls.spliced_cons (Calls.Constant_str (Calls.spliced_nil ?_)))
  exact PySem.SC.replace (by show s1.toks + 1 ≠ 0; omega) (by show s1.toks + 1 + 1 ≠ 0; omega) (by show s1.toks + 1 ≠ s1.toks + 1 + 1; omega) hyz hz fun t' k => ⟨.str (Txt.replace (Txt.lower x) y z), H1, I1.tok k, ⟨t', rfl⟩, q⟩
theorem e_lrp {a : E} (ha : SndE I C k a) (y z : Str) : SndE I C k (.lrp a y z) := .of (fun X g x h => by
  unfold chkE at h
  split at h
  · rename_i l a1 ap pos a2 ap2 y2 j1 p1 z2 j2 p2 pos2
    obtain ⟨h, h9⟩ := b2 h
    obtain ⟨h, h8⟩ := b2 h
    obtain ⟨h, h7⟩ := b2 h
    obtain ⟨h, h6⟩ := b2 h
    obtain ⟨h, h5⟩ := b2 h
    obtain ⟨h, h4⟩ := b2 h
    obtain ⟨h, h3⟩ := b2 h
    obtain ⟨h1, h2⟩ := b2 h
    have e1 := of_decide_eq_true h1
    have e2 := of_decide_eq_true h2
    have e3 := of_decide_eq_true h3
    have e4 := of_decide_eq_true h4
    subst e1 e2 e3 e4
    have hyz : (y2 == z2) = false := by simpa using h5
    refine ⟨PE.imp (pe_lrp (ha.pe X g _ h9) (base_ok h6 "lower" X.env (eval l X.env)) h7 h8 hyz) fun τ H Q q => ?_, rfl⟩
    refine Rd.bind (A := RV X.K) (G := fun _ x m1 => lrpD y2 z2 x m1) q fun v H1 ρ1 σ m1 d rel rs rv h1 => ?_
    cases d with
    | str x =>
      obtain ⟨rfl, _⟩ := rv_str rv
      unfold lrpD at h1
      dsimp only at h1
      by_cases c : x.length ≤ 5592405 ∧ (Txt.lower x).length + ((Txt.lower x).length + 1) * z2.length ≤ 16777216
      · rw [if_pos c] at h1
        obtain ⟨k, h1⟩ := strR_ok h1
        exact ⟨x, rfl, c.1, c.2, gf_ok h1 rel (rvS k)⟩
      · rw [if_neg c] at h1; exact h1.elim
    | _ => exact h1.elim
  · cases h) rfl
/-! ### isinstance -/
theorem ty_boot (t : Ty) : bootBuiltins (tyNm t) = some (.type (tyS t)) := by cases t <;> decide +kernel
theorem ty_name (t : Ty) : tyNm t ∈ biNames ∧ (tyNm t == ("__debug__" : Str)) = false ∧ tyNm t ≠ "__name__" := by cases t <;> decide +kernel
theorem pTy {X : L2.Cx} (g : Gd I C k X) {t : Ty} {e : Expr} (h : tyB X.env.scope t e = true) : PE X e (tC (.ty (tyS t))) ∧ plainB e = true := by
  unfold tyB at h
  split at h
  · obtain ⟨h1, h2⟩ := b2 h
    have e := of_decide_eq_true h1
    subst e
    obtain ⟨n1, n2, n3⟩ := ty_name t
    exact ⟨pe_bltn (gl_ok h2) (g.bis _ n1) (ty_boot t) rfl n3 n2, rfl⟩
  · cases h
theorem pTys {X : L2.Cx} (g : Gd I C k X) : ∀ (ts : List Ty) (es : List Expr), tysB X.env.scope ts es = true → PA X es (fun _ H Q => Q (ts.map fun t => .ty (tyS t)) H) ∧ es.length = ts.length
  | [], [], _ => ⟨PA.imp pa_nil fun _ _ _ q => q, rfl⟩
  | [], _ :: _, h => Bool.noConfusion h
  | _ :: _, [], h => Bool.noConfusion h
  | t :: ts, e :: es, h => by
    obtain ⟨h1, h2⟩ := b2 (show (tyB X.env.scope t e && tysB X.env.scope ts es) = true from h)
    obtain ⟨p1, p2⟩ := pTy g h1
    obtain ⟨q1, q2⟩ := pTys g ts es h2
    exact ⟨PA.imp (pa_cons p1 q1 (star_ok p2 _ _)) fun _ _ _ q => q, by simp [q2]⟩
theorem clsVs : ∀ ts : List Ty, Paired ClsV (ts.map fun t => V.ty (tyS t)) (ts.map fun t => Value.type (tyS t))
  | [] => .nil
  | t :: ts => .cons (.ty _) (clsVs ts)
theorem isi_boot : ("isinstance" : Str) ∈ biNames ∧ (("isinstance" : Str) == ("__debug__" : Str)) = false ∧ ("isinstance" : Str) ≠ "__name__" := by decide +kernel
theorem e_isi {a : E} (ha : SndE I C k a) (one : Bool) (ts : List Ty) : SndE I C k (.isi a one ts) := .of (fun X g x h => by
  unfold chkE at h
  split at h
  · rename_i z p l r pos
    obtain ⟨h1, h2⟩ := b2 h
    obtain ⟨h1, h3⟩ := b2 h1
    obtain ⟨h1, h4⟩ := b2 h1
    obtain ⟨h1, h5⟩ := b2 h1
    have e := of_decide_eq_true h1
    subst e
    obtain ⟨n1, n2, n3⟩ := isi_boot
    have pa := ha.pe X g _ h4
    refine ⟨?_, rfl⟩
    cases one with
    | true =>
      cases ts with
      | nil => exact Bool.noConfusion h2
      | cons t ts =>
        cases ts with
        | cons _ _ => exact Bool.noConfusion h2
        | nil =>
          obtain ⟨q1, q2⟩ := pTy g (show tyB X.env.scope t r = true from h2)
          refine PE.imp (pe_callB call_isi (gl_ok h5) (g.bis _ n1) PyProof.Rows.boot_isinstance (pa_cons pa (pa_cons q1 pa_nil (star_ok q2 _ _)) (star_ok h3 _ _)) n3 n2 (star_ok h3 _ _) (by rw [star_ok q2]; rfl)) fun τ H Q q => ?_
          refine Rd.bind (A := RV X.K) (G := fun _ x m1 => isiD x [t] m1) (show Pd X.K (fun σ m => (ev C a σ m).bind fun x m1 => isiD x [t] m1) τ H Q from q) fun x H1 ρ1 σ m1 d rel rs rv h1 => ?_
          obtain ⟨tv, b, k1, k2, k3⟩ := isi_V rel rv h1
          refine ⟨x, _, tv, _, b, rfl, .ty _, k1, ?_, k3⟩
          rw [List.map_cons, List.map_nil] at k2
          unfold PySem.W.kitAny at k2
          split at k2
          · rename_i e; rw [e]; exact k2
          · rename_i e; rw [e]; exact k2
          · cases k2
    | false =>
      cases r with
      | Tuple es n tp =>
        obtain ⟨h6, h7⟩ := b2 (show (tysB X.env.scope ts es && decide (es.length ≤ 100)) = true from h2)
        obtain ⟨q1, q2⟩ := pTys g ts es h6
        have h7 := of_decide_eq_true h7
        refine PE.imp (pe_callB call_isiT (gl_ok h5) (g.bis _ n1) PyProof.Rows.boot_isinstance (pa_cons pa (pa_cons (pe_tup q1) pa_nil (star_ok rfl _ _)) (star_ok h3 _ _)) n3 n2 (star_ok h3 _ _) rfl) fun τ H Q q => ?_
        refine Rd.bind (A := RV X.K) (G := fun _ x m1 => isiD x ts m1) (show Pd X.K (fun σ m => (ev C a σ m).bind fun x m1 => isiD x ts m1) τ H Q from q) fun x H1 ρ1 σ m1 d rel rs rv h1 => ?_
        refine ⟨by rw [List.length_map, ← q2, sizeLine_eq]; omega, fun tp htp => ?_⟩
        have ex := Ext.laid (o := .tup (ts.map fun t => V.ty (tyS t))) rel htp
        obtain ⟨tv, b, k1, k2, k3⟩ := isi_V (Rel.laid rel htp) (RV.ext rel ex _ _ rv) (GF.later h1 ex)
        exact ⟨x, tp, _, tv, _, b, rfl, upd_same, clsVs ts, k1, k2, k3⟩
      | _ => exact Bool.noConfusion h2
  · cases h) rfl
/-! ### comprehensions -/
theorem own_ix {N : List Str} {sc scope : Scope} {vs : List Nat} : (ownOf N vs).map (·.2) = vs := by
  unfold ownOf
  rw [List.map_map]
  exact List.map_id' vs
theorem tg_ok {X : L2.Cx} (hc : X.calm = true) (hN : X.N.Nodup) {sc : Scope} (hsc : X.env.scope = sc) {fb : Str → Bool} (hf : ∀ y, fb y = true → X.fn y = true ∨ X.env.scope.names.lookup y = some .local) {x : Tg} {e : Expr} (h : tgB X.N sc fb x e = true) : PG X e (Pg X.K x) := by
  subst hsc
  have names : ∀ (is : List Nat) (es : List Expr), nmsB X.N X.env.scope fb is es = true → NmsOk X is es := by
    intro is
    induction is with
    | nil => intro es h; cases es with
      | nil => exact True.intro
      | cons _ _ => exact Bool.noConfusion h
    | cons i is ih =>
      intro es h
      cases es with
      | nil => exact Bool.noConfusion h
      | cons e es =>
        cases e with
        | Name y p =>
          obtain ⟨h1, h2⟩ := b2 (show (decide (X.N[i]? = some y) && locB X.env.scope y && fb y && nmsB X.N X.env.scope fb is es) = true from h)
          obtain ⟨h1, h3⟩ := b2 h1
          obtain ⟨h1, h4⟩ := b2 h1
          exact ⟨of_decide_eq_true h1, loc_ok h4, hf y h3, ih es h2⟩
        | _ => exact Bool.noConfusion h
  unfold tgB at h
  split at h
  · obtain ⟨h1, h3⟩ := b2 h
    obtain ⟨h1, h4⟩ := b2 h1
    exact gNm hN (of_decide_eq_true h1) (loc_ok h4) (hf _ h3)
  · exact gTp hc hN (names _ _ h)
  · cases h
theorem tg_okL {X : L2.Cx} (hc : X.calm = true) (hN : X.N.Nodup) {sc : Scope} (hsc : X.env.scope = sc) {fb : Str → Bool} (hf : ∀ y, fb y = true → X.fn y = true ∨ X.env.scope.names.lookup y = some .local) {x : Tg} {e : Expr} (h : tgB X.N sc fb x e = true) : PG X e (PgL X.K x) := by
  subst hsc
  have names : ∀ (is : List Nat) (es : List Expr), nmsB X.N X.env.scope fb is es = true → NmsOk X is es := by
    intro is
    induction is with
    | nil => intro es h; cases es with
      | nil => exact True.intro
      | cons _ _ => exact Bool.noConfusion h
    | cons i is ih =>
      intro es h
      cases es with
      | nil => exact Bool.noConfusion h
      | cons e es =>
        cases e with
        | Name y p =>
          obtain ⟨h1, h2⟩ := b2 (show (decide (X.N[i]? = some y) && locB X.env.scope y && fb y && nmsB X.N X.env.scope fb is es) = true from h)
          obtain ⟨h1, h3⟩ := b2 h1
          obtain ⟨h1, h4⟩ := b2 h1
          exact ⟨of_decide_eq_true h1, loc_ok h4, hf y h3, ih es h2⟩
        | _ => exact Bool.noConfusion h
  unfold tgB at h
  split at h
  · obtain ⟨h1, h3⟩ := b2 h
    obtain ⟨h1, h4⟩ := b2 h1
    exact PG.nmL (gNm hN (of_decide_eq_true h1) (loc_ok h4) (hf _ h3))
  · exact gTpL hc hN (names _ _ h)
  · cases h
theorem lc_parts {X : L2.Cx} (g : Gd I C k X) {vs : List Nat} {x : Tg} {it : It} {ts : Es} {e : E} (hi : SndI I C k it) (ht : SndTs I C k ts) (he : SndE I C k e) {elt tg iter : Expr} {ifs : List Expr} {asy : Int} {scope : Scope} {pos : Pos}
    (h : chkE I X.N (.lc vs x it ts e) X.env.scope (.ListComp elt [⟨tg, iter, ifs, asy⟩] scope pos) = true) :
    asy = 0 ∧ PI X tg iter (Pi X.K (evI C it)) ∧ BlkOk X.N X.env.scope scope (ownOf X.N vs) ∧ (∀ i ∈ x.slots, i ∈ vs) ∧ (∀ z, foldedSetIterable iter X.env z = pure z) ∧
    (∀ (s : Shared) (H : Hp) (c : Addr) (cl : List (Str × Addr)) (fp : List Addr), PG (X.blk s H scope (compEnvC scope cl c X.env) fp) tg (Pg X.K x)) ∧
    (∀ (s : Shared) (H : Hp) (c : Addr) (cl : List (Str × Addr)) (fp : List Addr), PTs (X.blk s H scope (compEnvC scope cl c X.env) fp) ifs (Pt X.K (evTs C ts))) ∧
    ∀ (s : Shared) (H : Hp) (c : Addr) (cl : List (Str × Addr)) (fp : List Addr), PE (X.blk s H scope (compEnvC scope cl c X.env) fp) elt (PdH X.prog X.w X.K (ev C e)) := by
  unfold chkE at h
  dsimp only at h
  obtain ⟨h1, h2⟩ := b2 h
  obtain ⟨h1, h3⟩ := b2 h1
  obtain ⟨h1, h4⟩ := b2 h1
  obtain ⟨h1, h5⟩ := b2 h1
  obtain ⟨h1, h6⟩ := b2 h1
  obtain ⟨h1, h7⟩ := b2 h1
  obtain ⟨h1, h8⟩ := b2 h1
  obtain ⟨h0, h1⟩ := b2 h1
  refine ⟨of_decide_eq_true h1, hi X g _ tg h0 h8, blkOk_by h6, fun i hi => ?_, noSet_ok h7 _, fun s H c cl fp => ?_, fun s H c cl fp => ?_, fun s H c cl fp => ?_⟩
  · have := List.all_eq_true.mp h5 i hi
    simpa using this
  · refine tg_ok (X := X.blk s H scope (compEnvC scope cl c X.env) fp) g.calm g.nd (sc := relS scope X.env.scope) rfl (fun y hy => ?_) h4
    rcases Bool.or_eq_true_iff.mp hy with q | q
    · exact .inl q
    · exact .inr (eq_of_beq q)
  · exact ht (X.blk s H scope (compEnvC scope cl c X.env) fp) (g.blk s H scope _ fp) ifs h3
  · exact PE.hok (he.pe (X.blk s H scope (compEnvC scope cl c X.env) fp) (g.blk s H scope _ fp) elt h2)
theorem e_lc (vs : List Nat) (x : Tg) {it : It} {ts : Es} {e : E} (hi : SndI I C k it) (ht : SndTs I C k ts) (he : SndE I C k e) : SndE I C k (.lc vs x it ts e) := by
  have pl : ∀ (X : L2.Cx), Gd I C k X → ∀ z, chkE I X.N (.lc vs x it ts e) X.env.scope z = true → PE X z (Pl X.K (evL C (.lc vs x it ts e))) ∧ plainTB z = true := fun X g z h => by
    have h' := h
    unfold chkE at h'
    split at h'
    · obtain ⟨rfl, p1, p2, p3, p4, p5, p6, p7⟩ := lc_parts g hi ht he h
      refine ⟨PE.imp (pe_lc g.calm g.nd p1 p2 p5 p6 p7 p4) fun τ H Q q => ?_, rfl⟩
      rw [own_ix (sc := X.env.scope) (scope := X.env.scope)]
      exact lc_read p3 q
    · cases h'
  exact ⟨fun X g z h => PE.imp (pAlloc (pl X g z h).1) fun τ H Q q => by
      have e1 : ev C (.lc vs x it ts e) = fun σ m => (evL C (.lc vs x it ts e) σ m).bind fun xs m1 => alloc xs m1 := by
        funext σ m
        rw [ev, evL, rbind_assoc]
      rw [e1] at q
      exact q, fun _ X g z h => pTru (PE.imp (pAlloc (pl X g z h).1) fun τ H Q q => by
      have e1 : ev C (.lc vs x it ts e) = fun σ m => (evL C (.lc vs x it ts e) σ m).bind fun xs m1 => alloc xs m1 := by
        funext σ m
        rw [ev, evL, rbind_assoc]
      rw [e1] at q
      exact q) (plainT_ok (pl X g z h).2 X.env), fun _ X g z h => (pl X g z h).1⟩
/-! ### lists of terms, parts of slices, what is walked -/
theorem es_nil : SndEs I C k .nil := fun X g xs h => by
  cases xs with
  | nil => exact ⟨aNil, rfl, fun σ m ds m1 e => by cases e; rfl⟩
  | cons _ _ => unfold chkEs at h; exact Bool.noConfusion h
theorem es_cons {e : E} {es : Es} (he : SndE I C k e) (hs : SndEs I C k es) : SndEs I C k (.cons e es) := fun X g xs h => by
  unfold chkEs at h
  split at h
  · rename_i x r
    obtain ⟨h1, h2⟩ := b2 h
    obtain ⟨h1, h3⟩ := b2 h1
    obtain ⟨p1, p2, p3⟩ := hs X g _ h2
    refine ⟨aCons (he.pe X g _ h1) p1 (star_ok h3 _ _), by rw [List.all_cons, h3, p2]; rfl, fun σ m ds m1 e => ?_⟩
    rw [evs] at e
    cases q : ev C ‹_› σ m with
    | exc => rw [q] at e; cases e
    | bad => rw [q] at e; cases e
    | ok d m2 =>
      rw [q, bind_ok] at e
      cases q2 : evs C es σ m2 with
      | exc => rw [q2] at e; cases e
      | bad => rw [q2] at e; cases e
      | ok ds2 m3 =>
        rw [q2] at e
        cases e
        rw [List.length_cons, List.length_cons, p3 _ _ _ _ q2]
  · cases h
theorem ts_nil : SndTs I C k .nil := fun X g xs h => by
  cases xs with
  | nil => exact ⟨fun pins s σ H Q I ⟨ρ, σm, m, rel, rs, q⟩ => pts_nil.run pins s σ H Q I (q H ρ true (Ext.refl _ _) rel rfl)⟩
  | cons _ _ => unfold chkTs at h; exact Bool.noConfusion h
theorem ts_one {e : E} (he : SndE I C k e) : SndTs I C k (.cons e .nil) := fun X g xs h => by
  unfold chkTs at h
  split at h
  · obtain ⟨h1, h2⟩ := b2 h
    refine ⟨fun pins s σ H Q I q => (pts_one (he.pt h1 X g _ h2)).run pins s σ H Q I ?_⟩
    obtain ⟨ρ, σm, m, rel, rs, q⟩ := q
    refine ⟨ρ, σm, m, rel, rs, ?_⟩
    rw [evTs] at q
    have q : GF X.K EqA Q H ρ ((evT C e σm m).bind fun k m1 => if k = true then evTs C .nil σm m1 else .ok false m1) := q
    cases w : evT C e σm m with
    | exc => rw [w] at q; exact q
    | bad => rw [w] at q; exact q
    | ok b m1 =>
      rw [w] at q
      cases b with
      | true => exact q
      | false => exact q
  · cases h
theorem o_no : SndO I C k .no := fun X g x h => by
  cases x with
  | none => exact PO.imp po_none fun τ H Q ⟨ρ, σ, m, rel, rs, q⟩ => q H ρ none (Ext.refl _ _) rel rfl
  | some _ => unfold chkO at h; exact Bool.noConfusion h
theorem o_so {e : E} (he : SndE I C k e) : SndO I C k (.so e) := fun X g x h => by
  unfold chkO at h
  split at h
  · refine PO.imp (po_some (he.pe X g _ h)) fun τ H Q q => ?_
    refine Rd.bind (A := RV X.K) (G := fun _ d m1 => optD d m1) (show Po X.K (fun σ m => (ev C e σ m).bind fun d m1 => optD d m1) τ H Q from q) fun x H1 ρ1 σ m1 d rel rs rv h1 => ?_
    cases d with
    | int i =>
      obtain rfl := rv_int rv
      exact ⟨i, rfl, h1 H1 ρ1 _ (Ext.refl _ _) rel rfl⟩
    | _ => exact h1.elim
  · cases h
theorem i_seq {e : E} (he : SndE I C k e) : SndI I C k (.seq e) := fun X g x tg _ h => by
  unfold chkI at h
  exact iSeq (he.pe X g _ h)
theorem i_tmp {e : E} (he : SndE I C k e) : SndI I C k (.tmp e) := fun X g x tg _ h => by
  unfold chkI at h
  obtain ⟨h1, h2⟩ := b2 h
  exact iTmp (he.pl h1 X g _ h2)
theorem rng_boot : ("range" : Str) ∈ biNames := by decide +kernel
theorem i_rng1 {b : E} (hb : SndE I C k b) : SndI I C k (.rng1 b) := fun X g x tg _ h => by
  unfold chkI at h
  split at h
  · obtain ⟨h1, h2⟩ := b2 h
    obtain ⟨h1, h3⟩ := b2 h1
    obtain ⟨h1, h4⟩ := b2 h1
    have e := of_decide_eq_true h1
    subst e
    exact iRng1 (gl_ok h4) (g.bis _ rng_boot) (hb.pe X g _ h3) (star_ok h2 _ _)
  · cases h
theorem i_rng2 {a b : E} (ha : SndE I C k a) (hb : SndE I C k b) : SndI I C k (.rng2 a b) := fun X g x tg _ h => by
  unfold chkI at h
  split at h
  · obtain ⟨h1, h2⟩ := b2 h
    obtain ⟨h1, h3⟩ := b2 h1
    obtain ⟨h1, h4⟩ := b2 h1
    obtain ⟨h1, h5⟩ := b2 h1
    obtain ⟨h1, h6⟩ := b2 h1
    have e := of_decide_eq_true h1
    subst e
    exact iRng2 (gl_ok h6) (g.bis _ rng_boot) (ha.pe X g _ h5) (hb.pe X g _ h4) (star_ok h3 _ _) (star_ok h2 _ _)
  · cases h
theorem i_rng3 {a b c : E} (ha : SndE I C k a) (hb : SndE I C k b) (hc : SndE I C k c) : SndI I C k (.rng3 a b c) := fun X g x tg _ h => by
  unfold chkI at h
  split at h
  · obtain ⟨h1, h2⟩ := b2 h
    obtain ⟨h1, h3⟩ := b2 h1
    obtain ⟨h1, h4⟩ := b2 h1
    obtain ⟨h1, h5⟩ := b2 h1
    obtain ⟨h1, h6⟩ := b2 h1
    obtain ⟨h1, h7⟩ := b2 h1
    obtain ⟨h1, h8⟩ := b2 h1
    have e := of_decide_eq_true h1
    subst e
    exact iRng3' (gl_ok h8) (g.bis _ rng_boot) (ha.pe X g _ h7) (hb.pe X g _ h6) (hc.pe X g _ h5) (star_ok h4 _ _) (star_ok h3 _ _) (star_ok h2 _ _)
  · cases h
theorem zip_boot : ("zip" : Str) ∈ biNames := by decide +kernel
theorem i_zip {a b : E} (ha : SndE I C k a) (hb : SndE I C k b) : SndI I C k (.zip a b) := fun X g x tg z h => by
  unfold chkI at h
  split at h
  · obtain ⟨h1, h2⟩ := b2 h
    obtain ⟨h1, h3⟩ := b2 h1
    obtain ⟨h1, h4⟩ := b2 h1
    obtain ⟨h1, h5⟩ := b2 h1
    obtain ⟨h1, h6⟩ := b2 h1
    have e := of_decide_eq_true h1
    subst e
    unfold zipOk at z
    dsimp only at z
    split at z
    · exact iZip2 (gl_ok h6) (g.bis _ zip_boot) (ha.pe X g _ h5) (hb.pe X g _ h4) (star_ok h3 _ _) (star_ok h2 _ _) (by rw [star_ok h2]; rfl)
    · cases z
  · cases h
end
/-! ### all -/
mutual
theorem sndE {I : Inf} {C : Mi.Cx} {k : Nat} : ∀ e : E, SndE I C k e
  | .var i => e_var i
  | .cst d => e_cst d
  | .glo y g => e_glo y g
  | .bin o a b => e_bin o (sndE a) (sndE b)
  | .neg a => e_neg (sndE a)
  | .nt a => e_nt (sndE a)
  | .cmp o a b => e_cmp o (sndE a) (sndE b)
  | .ch2 o p a b c => e_ch2 o p (sndE a) (sndE b) (sndE c)
  | .ch3 o p q a b c d => e_ch3 o p q (sndE a) (sndE b) (sndE c) (sndE d)
  | .and a b => e_and (sndE a) (sndE b)
  | .or a b => e_or (sndE a) (sndE b)
  | .ife c a b => e_ife (sndE c) (sndE a) (sndE b)
  | .tup es => e_tup (sndEs es)
  | .lst es => e_lst (sndEs es)
  | .dct0 => e_dct0
  | .dct ks es => e_dct ks (sndAll es)
  | .ss e => e_ss (sndE e)
  | .so e => e_so (sndE e)
  | .rv e => e_rv (sndE e)
  | .halt => e_halt
  | .lrp e y z => e_lrp (sndE e) y z
  | .ix a b => e_ix (sndE a) (sndE b)
  | .kix y kvs a => e_kix y kvs (sndE a)
  | .kgt y kvs es => e_kgt y kvs (sndEs es)
  | .sl a lo hi => e_sl (sndE a) (sndO lo) (sndO hi)
  | .fn y f es => e_fn y f (sndEs es)
  | .bi f es => e_bi f (sndEs es)
  | .bt f e => e_bt f (sndE e)
  | .me f o es => e_me f (sndE o) (sndEs es)
  | .isi a one ts => e_isi (sndE a) one ts
  | .lc vs x it ts e => e_lc vs x (sndI it) (sndTs ts) (sndE e)
theorem sndAll {I : Inf} {C : Mi.Cx} {k : Nat} : ∀ es : Es, esAll (SndE I C k) es
  | .nil => trivial
  | .cons e es => ⟨sndE e, sndAll es⟩
theorem sndEs {I : Inf} {C : Mi.Cx} {k : Nat} : ∀ es : Es, SndEs I C k es
  | .nil => es_nil
  | .cons e es => es_cons (sndE e) (sndEs es)
theorem sndTs {I : Inf} {C : Mi.Cx} {k : Nat} : ∀ es : Es, SndTs I C k es
  | .nil => ts_nil
  | .cons e .nil => ts_one (sndE e)
  | .cons _ (.cons _ _) => fun X g xs h => by unfold chkTs at h; exact Bool.noConfusion h
theorem sndO {I : Inf} {C : Mi.Cx} {k : Nat} : ∀ e : Eo, SndO I C k e
  | .no => o_no
  | .so e => o_so (sndE e)
theorem sndI {I : Inf} {C : Mi.Cx} {k : Nat} : ∀ e : It, SndI I C k e
  | .seq e => i_seq (sndE e)
  | .tmp e => i_tmp (sndE e)
  | .rng1 b => i_rng1 (sndE b)
  | .rng2 a b => i_rng2 (sndE a) (sndE b)
  | .rng3 a b c => i_rng3 (sndE a) (sndE b) (sndE c)
  | .zip a b => i_zip (sndE a) (sndE b)
end
end Mi

set_option linter.all false
set_option autoImplicit false
set_option Elab.async false
set_option maxRecDepth 100000
set_option maxHeartbeats 8000000
/-! Mi13: statements are sound; defs; a whole law. -/
namespace Mi
open PySem L2
/-- does the comprehension's block end behind the store? -/
def swB (sc : Scope) (y : Str) (py : Pos) (scope : Scope) (pos : Pos) : Bool := (sc.names.lookup y == some .local) && (py.line == pos.line) && !(scope.names.any fun (n, k) => n == y && (k == .local || k == .cell))
theorem sw_eq {elt : Expr} {gs : List Comprehension} {scope : Scope} {pos py : Pos} {y : Str} {l : Nat} {env : Env} (hk : env.scope.kind = .function) : swapsWith (.ListComp elt gs scope pos) (some (.Name y py)) l env = pure (swB env.scope y py scope pos) := by
  have hb : env.blockKind = .function := by unfold Env.blockKind; rw [hk]; rfl
  unfold swapsWith swB
  simp only [hb]
  rfl
def swpO (sc : Scope) (ts vs : List Expr) : Option (Option (List Str)) :=
  if (!(ts.length == 2 || ts.length == 3) || vs.length != ts.length || ScopeKind.function != ScopeKind.function) = true then some none else
  if (vs.any fun | .Starred .. => true | _ => false) = true then some none else
  if ((ts.filterMap fun
    | .Name id pos => if (sc.names.lookup id == some .local && pos.line == (ts.head?.map (·.pos.line)).getD 0) = true then some id else none
    | _ => none).length != ts.length || (ts.filterMap fun
    | .Name id pos => if (sc.names.lookup id == some .local && pos.line == (ts.head?.map (·.pos.line)).getD 0) = true then some id else none
    | _ => none).eraseDups.length != (ts.filterMap fun
    | .Name id pos => if (sc.names.lookup id == some .local && pos.line == (ts.head?.map (·.pos.line)).getD 0) = true then some id else none
    | _ => none).length) = true then some none else
  if vs.all (foldedForSure 8) = true then some none else
  if vs.all (constantsAlone 8) = true then none else
  some (some (ts.filterMap fun
    | .Name id pos => if (sc.names.lookup id == some .local && pos.line == (ts.head?.map (·.pos.line)).getD 0) = true then some id else none
    | _ => none))
theorem ite_eq' {α : Type} {c : Prop} [Decidable c] {a b r : α} (h1 : c → a = r) (h2 : ¬ c → b = r) : (if c then a else b) = r := by
  by_cases h : c
  · rw [if_pos h]; exact h1 h
  · rw [if_neg h]; exact h2 h
theorem swp_eq {ts vs : List Expr} {k k2 : Nat} {p q : Pos} {env : Env} {r : Option (List Str)} (hk : env.scope.kind = .function) (h : swpO env.scope ts vs = some r) : swappedStores [.Tuple ts k p] (.Tuple vs k2 q) env = pure r := by
  have hb : env.blockKind = .function := by unfold Env.blockKind; rw [hk]; rfl
  unfold swappedStores
  simp only [hb, Env.kindOf]
  unfold swpO at h
  refine ite_eq' (fun c => ?_) fun c => ?_
  · replace h := (if_pos c).symm.trans h
    cases h
    rfl
  replace h := (if_neg c).symm.trans h
  refine ite_eq' (fun c => ?_) fun c => ?_
  · replace h := (if_pos c).symm.trans h
    cases h
    rfl
  replace h := (if_neg c).symm.trans h
  refine ite_eq' (fun c => ?_) fun c => ?_
  · replace h := (if_pos c).symm.trans h
    cases h
    rfl
  replace h := (if_neg c).symm.trans h
  refine ite_eq' (fun c => ?_) fun c => ?_
  · replace h := (if_pos c).symm.trans h
    cases h
    rfl
  replace h := (if_neg c).symm.trans h
  refine ite_eq' (fun c => ?_) fun c => ?_
  · replace h := (if_pos c).symm.trans h
    cases h
  replace h := (if_neg c).symm.trans h
  cases h
  rfl
def setB (sc : Scope) (v : Expr) (tg : Expr) : Bool := match v, tg with
  | .ListComp _ _ _ _, .Name _ _ => true
  | v, .Name _ _ => noCompB v
  | .Tuple vs _ _, .Tuple ts _ _ => (match swpO sc ts vs with
    | some none => true
    | _ => false)
  | v, .Tuple _ _ _ => noTupB v
  | _, _ => false
def parB (N : List Str) (sc : Scope) (is : List Nat) (ts vs : List Expr) : Bool := match is, ts, vs with
  | [i, j], [.Name x _, .Name y _], [_, _] => decide (N[i]? = some x) && decide (N[j]? = some y) && decide (i ≠ j) && decide (sc.names.lookup x = some .local) && decide (sc.names.lookup y = some .local) && decide (swpO sc ts vs = some (some [x, y]))
  | [i, j, l], [.Name x _, .Name y _, .Name z _], [_, _, _] => decide (N[i]? = some x) && decide (N[j]? = some y) && decide (N[l]? = some z) && decide (i ≠ j) && decide (i ≠ l) && decide (j ≠ l) && decide (sc.names.lookup x = some .local) && decide (sc.names.lookup y = some .local) && decide (sc.names.lookup z = some .local) && decide (swpO sc ts vs = some (some [x, y, z]))
  | _, _, _ => false
def t2sB (I : Inf) (N : List Str) (sc : Scope) : List T2 → List Expr → Bool
  | [], [] => true
  | .nm i :: ts, .Name y _ :: es => decide (N[i]? = some y) && locB sc y && t2sB I N sc ts es
  | .sub o i :: ts, .Subscript l r _ :: es => chkE I N o sc l && chkE I N i sc r && noSliceB r && t2sB I N sc ts es
  | _, _ => false
def msB (sc : Scope) (es : List Expr) (v : Expr) : Bool := match v with
  | .Tuple vs _ _ => (match swpO sc es vs with
    | some none => true
    | _ => false)
  | v => noTupB v
/-- the def that such a statement calls -/
def selNm : S → Option Str
  | .ife (.nt (.fn y _ _)) _ _ => some y
  | .set _ (.fn y _ _) => some y
  | _ => none
/-- a statement that calls what the name z holds -/
def selCall (I : Inf) (N : List Str) (sc : Scope) (z : Str) (s : S) (st : Stmt) : Bool := match s, st with
  | .ife (.nt (.fn y f es)) (.cons (.ret e) .nil) .nil, .If (.UnaryOp .Not (.Call (.Name z2 _) (a1 :: args) [] _) _) [.Return (some v) _] [] _ => decide (z2 = z) && decide ((y, f, (a1 :: args).length) ∈ I.fns) && chkEs I N es sc (a1 :: args) && chkE I N e sc v
  | .set x (.fn y f es), .Assign [tg] (.Call (.Name z2 _) (a1 :: args) [] _) _ => decide (z2 = z) && decide ((y, f, (a1 :: args).length) ∈ I.fns) && chkEs I N es sc (a1 :: args) && tgB N sc (fun _ => true) x tg
  | _, _ => false
def chkSel (I : Inf) (N : List Str) (s : S) (sc : Scope) (x1 x2 : Stmt) : Bool := match s, x1 with
  | .sel c i sa sb, .Assign [.Name z _] (.IfExp c' (.Name na _) (.Name nb _) _) _ => isT c && chkE I N c sc c' && decide (N[i]? = some z) && locB sc z && visB sc z && nmB z && glB sc na && nmB na && glB sc nb && nmB nb && decide (selNm sa = some na) && decide (selNm sb = some nb) && selCall I N sc z sa x2 && selCall I N sc z sb x2
  | _, _ => false
mutual
def chkS (I : Inf) (N : List Str) : S → Scope → Stmt → Bool
  | .set x e, sc, st => (match st with
    | .Assign [tg] v _ => chkE I N e sc v && tgB N sc (fun _ => true) x tg && setB sc v tg
    | _ => false)
  | .six o i e, sc, st => (match st with
    | .Assign [.Subscript l r _] v _ => chkE I N e sc v && chkE I N o sc l && chkE I N i sc r && noSliceB r
    | _ => false)
  | .aug i o e, sc, st => (match st with
    | .AugAssign (.Name y _) p v _ => decide (p = bopO o) && decide (N[i]? = some y) && locB sc y && chkE I N e sc v
    | _ => false)
  | .exp e, sc, st => (match st with
    | .Expr v _ => chkE I N e sc v && noCompB v
    | _ => false)
  | .ret e, sc, st => (match st with
    | .Return (some v) _ => chkE I N e sc v
    | _ => false)
  | .retN, _, st => (match st with
    | .Return none _ => true
    | _ => false)
  | .ife c a b, sc, st => (match st with
    | .If t p q _ => isT c && chkE I N c sc t && chkSs I N a sc p && chkSs I N b sc q
    | _ => false)
  | .for x it b, sc, st => (match st with
    | .For tg iter body [] _ => zipOk it tg && chkI I N it sc iter && noSetB iter && tgB N sc (fun _ => true) x tg && chkSs I N b sc body
    | _ => false)
  | .whl c b, sc, st => (match st with
    | .While t body [] _ => isT c && chkE I N c sc t && chkSs I N b sc body
    | _ => false)
  | .brk, _, st => (match st with
    | .Break _ => true
    | _ => false)
  | .cnt, _, st => (match st with
    | .Continue _ => true
    | _ => false)
  | .pas, _, st => (match st with
    | .Pass _ => true
    | _ => false)
  | .halt, _, _ => true
  | .mset ts e, sc, st => (match st with
    | .Assign [.Tuple es _ _] v _ => chkE I N e sc v && t2sB I N sc ts es && msB sc es v
    | _ => false)
  | .sel _ _ _ _, _, _ => false
  | .par is es, sc, st => (match st with
    | .Assign [.Tuple ts _ _] (.Tuple vs _ _) _ => chkEs I N es sc vs && parB N sc is ts vs
    | _ => false)
def chkSs (I : Inf) (N : List Str) : Ss → Scope → List Stmt → Bool
  | .nil, _, xs => xs.isEmpty
  | .cons s r, sc, xs => (match xs with
    | x :: t => (chkS I N s sc x && chkSs I N r sc t) || (match t with
      | x2 :: t2 => chkSel I N s sc x x2 && chkSs I N r sc t2
      | [] => false)
    | [] => false)
end
structure Gs (I : Inf) (C : Mi.Cx) (k : Nat) (X : L2.Cx) : Prop extends Gd I C k X where
  pas : PassesOwn (model X.prog X.w) X.A X.env X.xe
  fn : ∀ y, X.fn y = true
  kd : X.env.scope.kind = .function
section
variable {I : Inf} {C : Mi.Cx} {k : Nat}
def SndS (I : Inf) (C : Mi.Cx) (k : Nat) (s : S) : Prop := ∀ (X : L2.Cx), Gs I C k X → ∀ x, chkS I X.N s X.env.scope x = true → PS X x (Ps X.K (evS C s))
def SndSs (I : Inf) (C : Mi.Cx) (k : Nat) (s : Ss) : Prop := ∀ (X : L2.Cx), Gs I C k X → ∀ x, chkSs I X.N s X.env.scope x = true → PSs X x (Ps X.K (evSs C s))
theorem set_sws {v tg : Expr} {l : Nat} {env : Env} (h : noCompB v = true) : swapsWithSole [tg] v l env = pure false := noComp_ok h _ _ _
theorem set_nm {v : Expr} {y : Str} {p : Pos} {env : Env} : swappedStores [.Name y p] v env = pure none := by cases v <;> rfl
theorem set_tp {v : Expr} {es : List Expr} {n : Nat} {p : Pos} {env : Env} (h : noTupB v = true) : swappedStores [.Tuple es n p] v env = pure none := by cases v <;> first | rfl | cases h
theorem set_tps {v : Expr} {es : List Expr} {n : Nat} {p : Pos} {l : Nat} {env : Env} : swapsWithSole [.Tuple es n p] v l env = pure false := by cases v <;> rfl
theorem set_sbs {v o i : Expr} {p : Pos} {l : Nat} {env : Env} : swapsWithSole [.Subscript o i p] v l env = pure false := by cases v <;> rfl
theorem set_sb {v o i : Expr} {p : Pos} {env : Env} : swappedStores [.Subscript o i p] v env = pure none := by cases v <;> rfl
theorem s_set (x : Tg) (e : E) : SndS I C k (.set x e) := fun X g st h => by
  unfold chkS at h
  split at h
  · rename_i tg v pos
    obtain ⟨h0, h2⟩ := b2 h
    obtain ⟨h1, h3⟩ := b2 h0
    have pg := tg_okL g.calm g.nd (sc := X.env.scope) rfl (fun y _ => .inl (g.fn y)) h3
    have pe := (sndE (I := I) (C := C) (k := k) e).pe X g.toGd v h1
    have plain : noCompB v = true ∨ (∃ es n p, tg = .Tuple es n p) → swappedStores [tg] v X.env = pure none → (assignEach [tg] X.env).map (·.2) = [assign tg X.env] → PS X (.Assign [tg] v pos) (Ps X.K (evS C (.set x e))) := fun hc hw ha => by
      refine sAsg pe pg ?_ hw ha
      rcases hc with hc | ⟨es, n, p, rfl⟩
      · exact set_sws hc
      · exact set_tps
    cases tg with
    | Tuple es n p =>
      cases v with
      | Tuple vs n2 p2 =>
        have q : swpO X.env.scope es vs = some none := by
          unfold setB at h2
          dsimp only at h2
          split at h2
          · assumption
          · cases h2
        exact plain (.inr ⟨es, n, p, rfl⟩) (swp_eq g.kd q) rfl
      | _ => exact plain (.inr ⟨es, n, p, rfl⟩) (set_tp (by first | rfl | exact h2 | cases h2)) rfl
    | Name y py =>
      cases v with
      | ListComp elt gs scope lpos =>
        by_cases hsw : swB X.env.scope y py scope lpos = true
        · -- the block ends behind the store
          have hsw2 := sw_eq (elt := elt) (gs := gs) (scope := scope) (pos := lpos) (py := py) (y := y) (l := pos.line) g.kd
          rw [hsw] at hsw2
          cases e with
          | lc vs x2 it ts e2 =>
            have h1' := h1
            unfold chkE at h1'
            split at h1'
            · rename_i q
              cases q
              obtain ⟨rfl, p1, p2, p3, p4, p5, p6, p7⟩ := lc_parts g.toGd (sndI it) (sndTs ts) (sndE e2) h1
              cases x with
              | tp is => cases h3
              | nm i =>
                obtain ⟨k1, k3⟩ := b2 (show (decide (X.N[i]? = some y) && locB X.env.scope y && true) = true from h3)
                obtain ⟨k1, k2⟩ := b2 k1
                have hl : X.env.scope.names.lookup y = some .local := by
                  unfold swB at hsw
                  obtain ⟨w1, _⟩ := b2 hsw
                  obtain ⟨w1, _⟩ := b2 w1
                  exact eq_of_beq w1
                refine PS.imp (ps_setLc g.calm g.nd (of_decide_eq_true k1) hl hsw2 p1 p2 p5 p6 p7 p4) fun D τ H q => ?_
                rw [own_ix (sc := X.env.scope) (scope := X.env.scope)]
                refine lc_read p3 (Q := fun v H1 => gName i v τ H1 D.nx) ?_
                obtain ⟨ρ, σ, m, rel, rs, q⟩ := q
                refine ⟨ρ, σ, m, rel, rs, ?_⟩
                have q : GS X.K D H ρ ((((evI C it σ m).bind fun v m1 => (lcD (fun d => setT x2 d (wipeM σ vs)) v.stands (evTs C ts) (ev C e2) v.xs [] m1).bind fun ds m2 => alloc ds m2)).out fun d m1 => .nx (σ.set i (some d)) m1) := q
                rw [← rbind_assoc] at q
                dsimp only
                revert q
                generalize ((evI C it σ m).bind fun v m1 => lcD (fun d => setT x2 d (wipeM σ vs)) v.stands (evTs C ts) (ev C e2) v.xs [] m1) = r
                intro q
                cases r with
                | exc => exact q
                | bad => exact q
                | ok xs m1 =>
                  intro H1 ρ1 p ws ext rel1 h0 hp rv n
                  have q : GS X.K D H ρ (.nx (σ.set i (some (.ref m1.length))) (m1 ++ [.lst xs])) := q
                  refine q H1 (ρ1 ++ [p]) _ (ext.take h0) (rel1.take hp n rv) ?_
                  have rs1 : RS X.K H1 (ρ1 ++ [p]) σ τ := ⟨rs.len, fun j d hj => let ⟨w, w1, w2⟩ := (rs.ext rel ext).at_ j d hj; ⟨w, w1, RV.up (List.prefix_append _ _) _ _ w2⟩⟩
                  refine rs1.set i ?_
                  simp only [RV]
                  refine ⟨p, rfl, ?_⟩
                  rw [← rel1.len]
                  simp
            · cases h1'
          | _ => unfold chkE at h1; exact Bool.noConfusion h1
        · -- as any other value
          have hsw2 := sw_eq (elt := elt) (gs := gs) (scope := scope) (pos := lpos) (py := py) (y := y) (l := pos.line) g.kd
          rw [Bool.eq_false_iff.mpr hsw] at hsw2
          exact sAsg pe pg hsw2 rfl rfl
      | _ => first | exact plain (.inl rfl) rfl rfl | exact plain (.inl h2) set_nm rfl | cases h2
    | _ => cases v <;> cases h2
  · cases h
theorem s_six (o i e : E) : SndS I C k (.six o i e) := fun X g st h => by
  unfold chkS at h
  split at h
  · rename_i l r sp v pos
    obtain ⟨h1, h2⟩ := b2 h
    obtain ⟨h1, h3⟩ := b2 h1
    obtain ⟨h1, h4⟩ := b2 h1
    exact sSix g.toGd.hu ((sndE e).pe X g.toGd v h1) ((sndE o).pe X g.toGd l h4) ((sndE i).pe X g.toGd r h3) (assign_sub h2 sp X.env) set_sbs set_sb rfl
  · cases h
theorem s_aug (i : Nat) (o : Bop) (e : E) : SndS I C k (.aug i o e) := fun X g st h => by
  unfold chkS at h
  split at h
  · obtain ⟨h1, h2⟩ := b2 h
    obtain ⟨h1, h3⟩ := b2 h1
    obtain ⟨h1, h4⟩ := b2 h1
    have q := of_decide_eq_true h1
    subst q
    exact sAug g.nd (of_decide_eq_true h4) (loc_ok h3) (.inl (g.fn _)) ((sndE e).pe X g.toGd _ h2)
  · cases h
theorem s_exp (e : E) : SndS I C k (.exp e) := fun X g st h => by
  unfold chkS at h
  split at h
  · obtain ⟨h1, h2⟩ := b2 h
    exact sExp ((sndE e).pe X g.toGd _ h1) (noComp_ok h2 _ _ _)
  · cases h
theorem s_ret (e : E) : SndS I C k (.ret e) := fun X g st h => by
  unfold chkS at h
  split at h
  · exact sRet ((sndE e).pe X g.toGd _ h)
  · cases h
theorem s_retN : SndS I C k .retN := fun X g st h => by
  unfold chkS at h
  split at h
  · exact sRetN
  · cases h
theorem s_ife (c : E) {a b : Ss} (ha : SndSs I C k a) (hb : SndSs I C k b) : SndS I C k (.ife c a b) := fun X g st h => by
  unfold chkS at h
  split at h
  · obtain ⟨h1, h2⟩ := b2 h
    obtain ⟨h1, h3⟩ := b2 h1
    obtain ⟨h1, h4⟩ := b2 h1
    exact sIf ((sndE c).pt h1 X g.toGd _ h4) (ha X g _ h3) (hb X g _ h2)
  · cases h
theorem s_for (x : Tg) (it : It) {b : Ss} (hb : SndSs I C k b) : SndS I C k (.for x it b) := fun X g st h => by
  unfold chkS at h
  split at h
  · obtain ⟨h1, h2⟩ := b2 h
    obtain ⟨h1, h3⟩ := b2 h1
    obtain ⟨h1, h4⟩ := b2 h1
    obtain ⟨h0, h1⟩ := b2 h1
    exact sFor g.pas g.calm (sndI it X g.toGd _ _ h0 h1) (tg_ok g.calm g.nd (sc := X.env.scope) rfl (fun y _ => .inl (g.fn y)) h3) (hb X g _ h2) (noSet_ok h4 _)
  · cases h
theorem s_whl (c : E) {b : Ss} (hb : SndSs I C k b) : SndS I C k (.whl c b) := fun X g st h => by
  unfold chkS at h
  split at h
  · obtain ⟨h1, h2⟩ := b2 h
    obtain ⟨h1, h3⟩ := b2 h1
    exact sWhl g.pas ((sndE c).pt h1 X g.toGd _ h3) (hb X g _ h2)
  · cases h
theorem s_brk : SndS I C k .brk := fun X g st h => by
  unfold chkS at h
  split at h
  · exact sBrk
  · cases h
theorem s_cnt : SndS I C k .cnt := fun X g st h => by
  unfold chkS at h
  split at h
  · exact sCnt
  · cases h
theorem s_pas : SndS I C k .pas := fun X g st h => by
  unfold chkS at h
  split at h
  · exact sPas
  · cases h
theorem par_get {K : PySem.W.Frag} {H : Hp} {ρ : List Addr} {ds : List D} {vs : List V} (r : RVs K H ρ ds vs) {i j : Nat} {σ σ1 : Sl} (q : setNs [i, j] ds σ = some σ1) : ∃ d e v w, ds = [d, e] ∧ vs = [v, w] ∧ RV K H ρ d v ∧ RV K H ρ e w ∧ σ1 = (σ.set i (some d)).set j (some e) := by
  match ds, q with
  | [d, e], q =>
    cases q
    obtain ⟨v, s, rfl, r1, r⟩ := r
    obtain ⟨w, s2, rfl, r2, r⟩ := r
    cases r
    exact ⟨d, e, v, w, rfl, rfl, r1, r2, rfl⟩
theorem par_get3 {K : PySem.W.Frag} {H : Hp} {ρ : List Addr} {ds : List D} {vs : List V} (r : RVs K H ρ ds vs) {i j l : Nat} {σ σ1 : Sl} (q : setNs [i, j, l] ds σ = some σ1) : ∃ d e f v w u, ds = [d, e, f] ∧ vs = [v, w, u] ∧ RV K H ρ d v ∧ RV K H ρ e w ∧ RV K H ρ f u ∧ σ1 = ((σ.set i (some d)).set j (some e)).set l (some f) := by
  match ds, q with
  | [d, e, f], q =>
    cases q
    obtain ⟨v, s, rfl, r1, r⟩ := r
    obtain ⟨w, s2, rfl, r2, r⟩ := r
    obtain ⟨u, s3, rfl, r3, r⟩ := r
    cases r
    exact ⟨d, e, f, v, w, u, rfl, rfl, r1, r2, r3, rfl⟩
theorem s_par (is : List Nat) (es : Es) : SndS I C k (.par is es) := fun X g st h => by
  unfold chkS at h
  split at h
  · rename_i ts kt pt vs k2 pt2 pos
    obtain ⟨h1, h2⟩ := b2 h
    have pa := (sndEs (I := I) (C := C) (k := k) es X g.toGd _ h1).1
    unfold parB at h2
    split at h2
    · rename_i i j x px y py a b
      obtain ⟨h2, c6⟩ := b2 h2
      obtain ⟨h2, c5⟩ := b2 h2
      obtain ⟨h2, c4⟩ := b2 h2
      obtain ⟨h2, c3⟩ := b2 h2
      obtain ⟨c1, c2⟩ := b2 h2
      refine PS.imp (ps_par g.calm g.nd (of_decide_eq_true c1) (of_decide_eq_true c2) (of_decide_eq_true c3) (of_decide_eq_true c4) (of_decide_eq_true c5) pa (swp_eq g.kd (of_decide_eq_true c6)) rfl) fun D τ H h => ?_
      refine Ps.out (A := RVs X.K) (G := fun σ ds m1 => (match setNs [i, j] ds σ with
        | some σ1 => .nx σ1 m1
        | none => .bad)) h fun us H1 ρ1 σ m1 ds rel rs rv h1 => ?_
      cases q : setNs [i, j] ds σ with
      | none => rw [q] at h1; exact h1.elim
      | some σ1 =>
        rw [q] at h1
        obtain ⟨d, e, v, w, rfl, rfl, r1, r2, rfl⟩ := par_get rv q
        exact ⟨v, w, rfl, gs_nx h1 rel ((rs.set i r1).set j r2)⟩
    · rename_i i j l x px y py z pz a b c
      obtain ⟨h2, c10⟩ := b2 h2
      obtain ⟨h2, c9⟩ := b2 h2
      obtain ⟨h2, c8⟩ := b2 h2
      obtain ⟨h2, c7⟩ := b2 h2
      obtain ⟨h2, c6⟩ := b2 h2
      obtain ⟨h2, c5⟩ := b2 h2
      obtain ⟨h2, c4⟩ := b2 h2
      obtain ⟨h2, c3⟩ := b2 h2
      obtain ⟨c1, c2⟩ := b2 h2
      refine PS.imp (ps_par3 g.calm g.nd (of_decide_eq_true c1) (of_decide_eq_true c2) (of_decide_eq_true c3) (of_decide_eq_true c4) (of_decide_eq_true c5) (of_decide_eq_true c6) (of_decide_eq_true c7) (of_decide_eq_true c8) (of_decide_eq_true c9) pa (swp_eq g.kd (of_decide_eq_true c10)) rfl) fun D τ H h => ?_
      refine Ps.out (A := RVs X.K) (G := fun σ ds m1 => (match setNs [i, j, l] ds σ with
        | some σ1 => .nx σ1 m1
        | none => .bad)) h fun us H1 ρ1 σ m1 ds rel rs rv h1 => ?_
      cases q : setNs [i, j, l] ds σ with
      | none => rw [q] at h1; exact h1.elim
      | some σ1 =>
        rw [q] at h1
        obtain ⟨d, e, f, v, w, u, rfl, rfl, r1, r2, r3, rfl⟩ := par_get3 rv q
        exact ⟨v, w, u, rfl, gs_nx h1 rel (((rs.set i r1).set j r2).set l r3)⟩
    · cases h2
  · cases h
/-- what several targets want of the values -/
def Tm (K : PySem.W.Frag) (C : Mi.Cx) (ts : List T2) : TGs := fun vs τ H Q => ∃ (ρ : List Addr) (σ : Sl) (m : M) (ds : List D) (D : Ends), Rel K H ρ m ∧ RS K H ρ σ τ ∧ RVs K H ρ ds vs ∧ (∀ τ H, D.nx τ H → Q τ H) ∧ GS K D H ρ (setM C ts ds σ m)
theorem tm_ok {X : L2.Cx} (g : Gs I C k X) : ∀ (ts : List T2) (es : List Expr), t2sB I X.N X.env.scope ts es = true → PGs X es (Tm X.K C ts) ∧ (assignEach es X.env).length = ts.length ∧ (assignEach es X.env).findIdx? (·.1) = none
  | [], [], _ => by
    refine ⟨⟨fun pins s τ H vs us Q I r h => pgs_nil.run pins s τ H vs us Q I r ?_⟩, rfl, rfl⟩
    obtain ⟨ρ, σ, m, ds, D, rel, rs, rv, hd, h⟩ := h
    cases ds with
    | nil =>
      simp only [RVs] at rv
      unfold setM at h
      exact ⟨rv, hd _ _ (gs_nx h rel rs)⟩
    | cons _ _ => unfold setM at h; exact h.elim
  | [], _ :: _, h => by unfold t2sB at h; exact Bool.noConfusion h
  | .nm i :: ts, [], h => by unfold t2sB at h; exact Bool.noConfusion h
  | .sub o i :: ts, [], h => by unfold t2sB at h; exact Bool.noConfusion h
  | .nm i :: ts, e :: es, h => by
    unfold t2sB at h
    split at h
    · cases ‹_ :: _ = [] ›
    · rename_i e1 e2
      cases e1
      cases e2
      obtain ⟨h, h3⟩ := b2 h
      obtain ⟨h1, h2⟩ := b2 h
      obtain ⟨k1, k2, k3⟩ := tm_ok g ts _ h3
      refine ⟨⟨fun pins s τ H vs us Q I r h => (pgs_cons (pg_name g.nd (of_decide_eq_true h1) (loc_ok h2) (.inl (g.fn _))) k1).run pins s τ H vs us Q I r ?_⟩, by simp [assignEach, k2], ?_⟩
      · obtain ⟨ρ, σ, m, ds, D, rel, rs, rv, hd, h⟩ := h
        cases ds with
        | nil => unfold setM at h; exact h.elim
        | cons d ds =>
          obtain ⟨v, w, rfl, r1, r2⟩ := rv
          unfold setM at h
          exact ⟨v, w, rfl, ρ, σ.set i (some d), m, ds, D, rel, rs.set i r1, r2, hd, h⟩
      · unfold assignEach
        rw [List.findIdx?_cons, k3]
        rfl
    · cases ‹T2.nm _ :: _ = T2.sub _ _ :: _›
    · cases h
  | .sub o i :: ts, e :: es, h => by
    unfold t2sB at h
    split at h
    · cases ‹_ :: _ = [] ›
    · cases ‹T2.sub _ _ :: _ = T2.nm _ :: _›
    · rename_i e1 e2
      cases e1
      cases e2
      obtain ⟨h, h4⟩ := b2 h
      obtain ⟨h, h3⟩ := b2 h
      obtain ⟨h1, h2⟩ := b2 h
      obtain ⟨k1, k2, k3⟩ := tm_ok g ts _ h4
      refine ⟨⟨fun pins s τ H vs us Q I r h => (pgs_cons (pg_sub ((sndE o).pe X g.toGd _ h1) ((sndE i).pe X g.toGd _ h2) (oSet g.toGd.hu) (assign_sub h3 _ X.env)) k1).run pins s τ H vs us Q I r ?_⟩, by simp [assignEach, k2], ?_⟩
      · obtain ⟨ρ, σ, m, ds, D, rel, rs, rv, hd, h⟩ := h
        cases ds with
        | nil => unfold setM at h; exact h.elim
        | cons dv ds =>
          obtain ⟨v, w, rfl, r1, r2⟩ := rv
          unfold setM at h
          refine ⟨v, w, rfl, ρ, σ, m, rel, rs, GF.mono (GS.out (A := RV X.K) h) ?_⟩
          rintro x H2 ⟨ρ2, m2, dx, ext2, rel2, rx, h2⟩
          refine ⟨ρ2, σ, m2, rel2, rs.ext rel ext2, GF.mono (GS.out (A := RV X.K) h2) ?_⟩
          rintro y H3 ⟨ρ3, m3, dy, ext3, rel3, ry, h3⟩
          refine ⟨ρ3, m3, dx, dy, dv, rel3, RV.ext rel2 ext3 _ _ rx, ry, RV.ext rel2 ext3 _ _ (RV.ext rel ext2 _ _ r1), ?_⟩
          cases q : setD dx dy dv m3 with
          | none => rw [q] at h3; exact h3.elim
          | some m4 =>
            rw [q] at h3
            exact fun H4 ρ4 ext4 rel4 => ⟨ρ4, σ, m4, ds, D, rel4, ((rs.ext rel ext2).ext rel2 ext3).ext rel3 ext4, RVs.ext rel3 ext4 _ _ (RVs.ext rel2 ext3 _ _ (RVs.ext rel ext2 _ _ r2)), hd, GS.later h3 ext4⟩
      · unfold assignEach
        rw [List.findIdx?_cons, k3]
        rfl
    · cases h
theorem s_halt : SndS I C k .halt := fun X g st h => ⟨fun pins s σ H D J q => by
  obtain ⟨ρ, τ, m, rel, rs, q⟩ := q
  exact q.elim⟩
theorem s_mset (ts : List T2) (e : E) : SndS I C k (.mset ts e) := fun X g st h => by
  unfold chkS at h
  split at h
  · rename_i es kk tp v pos
    obtain ⟨h, h3⟩ := b2 h
    obtain ⟨h1, h2⟩ := b2 h
    obtain ⟨k1, k2, k3⟩ := tm_ok g ts es h2
    have hw : swappedStores [.Tuple es kk tp] v X.env = pure none := by
      unfold msB at h3
      split at h3
      · split at h3
        · exact swp_eq g.kd (by assumption)
        · cases h3
      · exact set_tp h3
    refine PS.imp (ps_asg ((sndE (I := I) (C := C) (k := k) e).pe X g.toGd v h1) (pg_tup g.calm k1 k2 k3) set_tps hw rfl) fun D τ H h => ?_
    refine Ps.out (A := RV X.K) (G := fun σ d m1 => (match d with
      | .tup ds => if ds.length = ts.length then setM C ts ds σ m1 else .bad
      | _ => .bad)) h fun v H1 ρ1 σ m1 d rel rs rv h1 => ?_
    cases d with
    | tup ds =>
      obtain ⟨a, vs, rfl, hT, hr⟩ := rv_tup rv
      dsimp only at h1
      by_cases hl : ds.length = ts.length
      · rw [if_pos hl] at h1
        exact ⟨a, vs, rfl, hT, by rw [← RVs.length _ _ hr, hl], ρ1, σ, m1, ds, D, rel, rs, hr, fun _ _ z => z, h1⟩
      · rw [if_neg hl] at h1
        exact h1.elim
    | _ => exact h1.elim
  · cases h
theorem ss_nil : SndSs I C k .nil := fun X g st h => by
  cases st with
  | nil => exact sNil
  | cons _ _ => unfold chkSs at h; exact Bool.noConfusion h
theorem s_sel (c : E) (i : Nat) (a b : S) : SndS I C k (.sel c i a b) := fun X g st h => by
  unfold chkS at h
  cases h
/-! ### a name that holds one of two defs, and the statement that calls it -/
theorem RS.setU {K : PySem.W.Frag} {H : Hp} {ρ : List Addr} {σ : Sl} {τ : L2.St} (s : RS K H ρ σ τ) (i : Nat) (v : V) : RS K H ρ (σ.set i none) (τ.set i (some v)) := by
  refine ⟨by simp [s.len], fun j e q => ?_⟩
  by_cases hj : i = j
  · subst hj
    by_cases hi : i < σ.length
    · rw [List.getElem?_set_self hi] at q
      cases q
    · rw [List.getElem?_eq_none (by simpa using hi)] at q
      cases q
  · rw [List.getElem?_set_ne hj] at q
    obtain ⟨w, h1, h2⟩ := s.at_ j e q
    exact ⟨w, by rw [List.getElem?_set_ne hj]; exact h1, h2⟩
/-- a call of what slot i holds -/
theorem pCallL {X : L2.Cx} (g : Gd I C k X) {i : Nat} {z y : Str} {f : Nat} {es : Es} {a1 : Expr} {args : List Expr} {p pos : Pos} (hN : X.N[i]? = some z) (hv : visB X.env.scope z = true) (hz : nmB z = true) (hf : (y, f, (a1 :: args).length) ∈ I.fns) (hes : chkEs I X.N es X.env.scope (a1 :: args) = true) :
    ∃ a, X.mg y = some (.ref a) ∧ PE X (.Call (.Name z p) (a1 :: args) [] pos) (fun τ H Q => τ[i]? = some (some (.ref a)) ∧ Pd X.K (ev C (.fn y f es)) τ H Q) := by
  obtain ⟨a, fd, ps, hl, hm, hk, hb, F⟩ := g.fns _ _ _ hf
  obtain ⟨p1, p2, p3⟩ := (sndEs es) X g _ hes
  obtain ⟨n1, n2⟩ := nm_ok hz
  rw [List.all_cons, Bool.and_eq_true] at p2
  refine ⟨a, hm, PE.imp (pe_gL F g.room g.gds hN (vis_ok hv) hk hb p1 n1 n2 (star_ok p2.1 _ _) (back_ok _ _ _ p2.2).1) fun τ H Q h => ?_⟩
  obtain ⟨hp, ρ, σ, m, rel, rs, q⟩ := h
  refine ⟨hp, ρ, σ, m, rel, rs, ?_⟩
  have q : GF X.K (RV X.K) Q H ρ ((evs C es σ m).bind fun ds m1 => C.call f ds m1) := q
  cases e : evs C es σ m with
  | ok ds m1 =>
    rw [e] at q
    intro H1 ρ1 vs ext rel1 rv
    exact ⟨by rw [← RVs.length _ _ rv]; exact p3 _ _ _ _ e, ρ1, m1, ds, rel1, rv, GF.later q ext⟩
  | exc => rw [e] at q; exact q.elim
  | bad => rw [e] at q; exact q.elim
theorem selCall_ok {X : L2.Cx} (g : Gs I C k X) {i : Nat} {z y : Str} {s : S} {x2 : Stmt} (hN : X.N[i]? = some z) (hv : visB X.env.scope z = true) (hz : nmB z = true) (hy : selNm s = some y) (h : selCall I X.N X.env.scope z s x2 = true) :
    ∃ a, X.mg y = some (.ref a) ∧ PS X x2 (fun D τ H => τ[i]? = some (some (.ref a)) ∧ Ps X.K (evS C s) D τ H) := by
  unfold selCall at h
  split at h
  · rename_i y' f es e z2 p0 a1 args p1 p2 v p3 p4
    have hy : y' = y := by cases hy; rfl
    subst hy
    obtain ⟨h, h4⟩ := b2 h
    obtain ⟨h, h3⟩ := b2 h
    obtain ⟨h1, h2⟩ := b2 h
    have e1 := of_decide_eq_true h1
    subst e1
    obtain ⟨a, hm, pc⟩ := pCallL g.toGd (p := p0) (pos := p1) hN hv hz (of_decide_eq_true h2) h3
    refine ⟨a, hm, ?_⟩
    have pt : PT X (.UnaryOp .Not (.Call (.Name z2 p0) (a1 :: args) [] p1) p2) (fun τ H Q => τ[i]? = some (some (.ref a)) ∧ Pt X.K (evT C (.nt (.fn y' f es))) τ H Q) := by
      refine PT.imp (pt_not (pt_truth pc (plainT_ok (e := .Call (.Name z2 p0) (a1 :: args) [] p1) rfl X.env))) fun τ H Q h => ?_
      obtain ⟨hp, h⟩ := h
      refine ⟨hp, ?_⟩
      have h : Pt X.K (fun σ m => (ev C (.fn y' f es) σ m).bind fun d m1 => (tru d m1).bind fun b m2 => .ok (!b) m2) τ H Q := by
        obtain ⟨ρ, σ, m, rel, rs, q⟩ := h
        refine ⟨ρ, σ, m, rel, rs, ?_⟩
        rw [evT_nt] at q
        unfold evT at q
        rw [rbind_assoc] at q
        exact q
      refine Rd.bind (A := RV X.K) (G := fun _ d m1 => (tru d m1).bind fun b m2 => .ok (!b) m2) h fun x H1 ρ1 σ m1 d rel rs rv h1 => ?_
      obtain ⟨b, h2, h3, h4⟩ := tru_rd (B := EqA) (k := fun b m => .ok (!b) m) rel rv h1
      exact ⟨b, h2, h4 H1 ρ1 (!b) (Ext.refl _ _) rel rfl⟩
    have pr : PSs X [.Return (some v) p3] (Ps X.K (evSs C (.cons (.ret e) .nil))) := (show PSs X [.Return (some v) p3] _ from sCons (sRet ((sndE e).pe X g.toGd v h4)) sNil)
    refine PS.imp (ps_if pt pr (sNil (X := X))) fun D τ H h => ?_
    obtain ⟨hp, h⟩ := h
    refine ⟨hp, ?_⟩
    refine Ps.out (A := EqA) (G := fun σ k m1 => if k = true then evSs C (.cons (.ret e) .nil) σ m1 else .nx σ m1) (show Ps X.K (fun σ m => (evT C (.nt (.fn y' f es)) σ m).out fun k m1 => if k = true then evSs C (.cons (.ret e) .nil) σ m1 else .nx σ m1) D τ H from h) fun k H1 ρ1 σ m1 d rel rs e h1 => ?_
    have e : k = d := e
    subst e
    cases k with
    | true => exact ⟨ρ1, σ, m1, rel, rs, h1⟩
    | false => exact ⟨ρ1, σ, m1, rel, rs, h1⟩
  · rename_i x y' f es tg z2 p0 a1 args p1 p2
    have hy : y' = y := by cases hy; rfl
    subst hy
    obtain ⟨h, h4⟩ := b2 h
    obtain ⟨h, h3⟩ := b2 h
    obtain ⟨h1, h2⟩ := b2 h
    have e1 := of_decide_eq_true h1
    subst e1
    obtain ⟨a, hm, pc⟩ := pCallL g.toGd (p := p0) (pos := p1) hN hv hz (of_decide_eq_true h2) h3
    refine ⟨a, hm, ?_⟩
    have pg := tg_okL g.calm g.nd (sc := X.env.scope) rfl (fun y _ => .inl (g.fn y)) h4
    have go : (hs : swapsWithSole [tg] (.Call (.Name z2 p0) (a1 :: args) [] p1) p2.line X.env = pure false) → (hw : swappedStores [tg] (.Call (.Name z2 p0) (a1 :: args) [] p1) X.env = pure none) → (h1 : (assignEach [tg] X.env).map (·.2) = [assign tg X.env]) → PS X (.Assign [tg] (.Call (.Name z2 p0) (a1 :: args) [] p1) p2) (fun D τ H => τ[i]? = some (some (.ref a)) ∧ Ps X.K (evS C (.set x (.fn y' f es))) D τ H) := fun hs hw h1 => by
      refine PS.imp (ps_asg pc pg hs hw h1) fun D τ H h => ?_
      obtain ⟨hp, h⟩ := h
      refine ⟨hp, ?_⟩
      exact Ps.out (A := RV X.K) (G := fun σ d m1 => (match setT x (lstT x d m1) σ with
        | some σ1 => .nx σ1 m1
        | none => .bad)) (show Ps X.K (fun σ m => (ev C (.fn y' f es) σ m).out fun d m1 => (match setT x (lstT x d m1) σ with
        | some σ1 => .nx σ1 m1
        | none => .bad)) D τ H from h) fun v H1 ρ1 σ m1 d rel rs rv h1 => pgL_of rel rs rv h1
    cases tg with
    | Name y py => exact go (set_sws rfl) set_nm rfl
    | Tuple es n p => exact go set_tps (set_tp rfl) rfl
    | _ => cases x <;> cases h4
  · cases h
theorem gs_bind {K : PySem.W.Frag} {D : Ends} {H : Hp} {ρ : List Addr} {o : Out} {F : Sl → M → Out} (h : GS K D H ρ (o.bind F)) : GS K { D with nx := Ps K F D } H ρ o := by
  cases o with
  | nx σ1 m1 => exact fun H1 ρ1 τ1 ext rel1 rs1 => ⟨ρ1, σ1, m1, rel1, rs1, GS.later h ext⟩
  | rt d m => exact h
  | bk d m => exact h
  | ct d m => exact h
  | exc => exact h
  | bad => exact h
theorem ss_sel {s : S} {r : Ss} (hr : SndSs I C k r) {X : L2.Cx} (g : Gs I C k X) {x1 x2 : Stmt} {xs : List Stmt} (h : chkSel I X.N s X.env.scope x1 x2 = true) (h2 : chkSs I X.N r X.env.scope xs = true) : PSs X (x1 :: x2 :: xs) (Ps X.K (evSs C (.cons s r))) := by
  unfold chkSel at h
  split at h
  · rename_i c i sa sb z pz c' na pa nb pb p1 p2
    obtain ⟨h, k1⟩ := b2 h
    obtain ⟨h, k2⟩ := b2 h
    obtain ⟨h, k3⟩ := b2 h
    obtain ⟨h, k4⟩ := b2 h
    obtain ⟨h, k5⟩ := b2 h
    obtain ⟨h, k6⟩ := b2 h
    obtain ⟨h, k7⟩ := b2 h
    obtain ⟨h, k8⟩ := b2 h
    obtain ⟨h, k9⟩ := b2 h
    obtain ⟨h, k10⟩ := b2 h
    obtain ⟨h, k11⟩ := b2 h
    obtain ⟨h, k12⟩ := b2 h
    obtain ⟨k14, k13⟩ := b2 h
    have hN := of_decide_eq_true k12
    obtain ⟨A, mA, psA⟩ := selCall_ok g hN k10 k9 (of_decide_eq_true k4) k2
    obtain ⟨B, mB, psB⟩ := selCall_ok g hN k10 k9 (of_decide_eq_true k3) k1
    have ps1 := ps_asg (pos := p2) (pe_ifExp (pos := p1) ((sndE c).pt k14 X g.toGd c' k13) (pe_glob (pos := pa) (gl_ok k8) mA (v := .ref A) rfl (nm_ok k7).1) (pe_glob (pos := pb) (gl_ok k6) mB (v := .ref B) rfl (nm_ok k5).1)) (pg_name (pos := pz) g.nd hN (loc_ok k11) (.inl (g.fn z))) (set_sws rfl) set_nm rfl
    have ps2 : PS X x2 (fun D τ H => (τ[i]? = some (some (.ref A)) ∧ Ps X.K (evS C sa) D τ H) ∨ (τ[i]? = some (some (.ref B)) ∧ Ps X.K (evS C sb) D τ H)) := ⟨fun pins s σ H D J h => by
      rcases h with h | h
      · exact psA.run pins s σ H D J h
      · exact psB.run pins s σ H D J h⟩
    refine PSs.imp (pss_cons ps1 (pss_cons ps2 (hr X g xs h2))) fun D τ H h => ?_
    obtain ⟨ρ, σ, m, rel, rs, q⟩ := h
    have q : GS X.K D H ρ ((if i < σ.length then (evT C c σ m).out fun k m1 => if k = true then evS C sa (σ.set i none) m1 else evS C sb (σ.set i none) m1 else .bad).bind (evSs C r)) := q
    by_cases hi : i < σ.length
    · rw [if_pos hi] at q
      have q : GS X.K D H ρ ((evT C c σ m).out fun k m1 => (if k = true then evS C sa (σ.set i none) m1 else evS C sb (σ.set i none) m1).bind (evSs C r)) := by
        revert q
        cases evT C c σ m <;> exact fun q => q
      have ht : τ[i]? ≠ none := by
        rw [List.getElem?_eq_getElem (by rw [← rs.len]; exact hi)]
        exact fun h => by cases h
      refine ⟨ρ, σ, m, rel, rs, GF.mono (GS.out (A := EqA) q) ?_⟩
      rintro k' H1 ⟨ρ1, m1, a, ext, rel1, e, q1⟩
      have e : k' = a := e
      subst e
      have rs1 := rs.ext rel ext
      have li : i < τ.length := by rw [← rs.len]; exact hi
      cases k' with
      | true =>
        exact .inl ⟨by rw [List.getElem?_set_self li], ρ1, _, m1, rel1, rs1.setU i (.ref A), gs_bind q1⟩
      | false =>
        exact .inr ⟨by rw [List.getElem?_set_self li], ρ1, _, m1, rel1, rs1.setU i (.ref B), gs_bind q1⟩
    · rw [if_neg hi] at q
      exact q.elim
  · cases h
theorem ss_cons {s : S} {r : Ss} (hs : SndS I C k s) (hr : SndSs I C k r) : SndSs I C k (.cons s r) := fun X g st h => by
  unfold chkSs at h
  split at h
  · rw [Bool.or_eq_true] at h
    rcases h with h | h
    · obtain ⟨h1, h2⟩ := b2 h
      exact sCons (hs X g _ h1) (hr X g _ h2)
    · split at h
      · obtain ⟨h1, h2⟩ := b2 h
        exact ss_sel hr g h1 h2
      · cases h
  · cases h
end
mutual
theorem sndS {I : Inf} {C : Mi.Cx} {k : Nat} : ∀ s : S, SndS I C k s
  | .set x e => s_set x e
  | .six o i e => s_six o i e
  | .aug i o e => s_aug i o e
  | .exp e => s_exp e
  | .ret e => s_ret e
  | .retN => s_retN
  | .ife c a b => s_ife c (sndSs a) (sndSs b)
  | .for x it b => s_for x it (sndSs b)
  | .whl c b => s_whl c (sndSs b)
  | .brk => s_brk
  | .cnt => s_cnt
  | .pas => s_pas
  | .halt => s_halt
  | .par is es => s_par is es
  | .mset ts e => s_mset ts e
  | .sel c i a b => s_sel c i a b
theorem sndSs {I : Inf} {C : Mi.Cx} {k : Nat} : ∀ s : Ss, SndSs I C k s
  | .nil => ss_nil
  | .cons s r => ss_cons (sndS s) (sndSs r)
end
/-! ### defs -/
/-- the text's def that stands at a place of the table -/
structure Ent (K : PySem.W.Frag) (mg : Str → Option Value) (I : Inf) (T : List Fn) (y : Str) (f n : Nat) (a : Addr) (fd : FuncData) (N ps : List Str) : Prop where
  ex : ∃ (x qual : Str) (params : Arguments) (body : List Stmt) (scope : Scope) (fn : Fn), FunD K x qual params body scope [] [] a fd ∧ FnScope N ps scope ∧ T[f]? = some fn ∧ fn.np = n ∧ fn.ns = N.length ∧ chkSs I N fn.body scope body = true
  len : ps.length = n
  glob : mg y = some (.ref a)
  binds : Binds K fd ps []
theorem start_RS {K : PySem.W.Frag} {H : Hp} {ρ : List Addr} : ∀ (ds : List D) (vs : List V) (j : Nat), RVs K H ρ ds vs → RS K H ρ (ds.map some ++ List.replicate j none) (vs.map some ++ List.replicate j none)
  | [], _, j, h => by
    simp only [RVs] at h
    subst h
    refine ⟨by simp, fun i d e => ?_⟩
    rw [List.map_nil, List.nil_append, List.getElem?_replicate] at e
    split at e <;> cases e
  | d :: ds, _, j, h => by
    simp only [RVs] at h
    obtain ⟨v, s, rfl, h1, h2⟩ := h
    have ih := start_RS ds s j h2
    refine ⟨by simp [RVs.length _ _ h2], fun i e q => ?_⟩
    cases i with
    | zero =>
      rw [List.map_cons, List.cons_append, List.getElem?_cons_zero] at q
      cases q
      exact ⟨v, rfl, h1⟩
    | succ i =>
      rw [List.map_cons, List.cons_append, List.getElem?_cons_succ] at q
      obtain ⟨w, w1, w2⟩ := ih.at_ i e q
      exact ⟨w, by rw [List.map_cons, List.cons_append, List.getElem?_cons_succ]; exact w1, w2⟩
theorem fns_ok {P : Program} {w : World} {K : PySem.W.Frag} {mg : Str → Option Value} {base : Heap} {I : Inf} {T : List Fn} {fu : Nat} {con : Nat → Option D}
    (hE : ∀ y f n, (y, f, n) ∈ I.fns → ∃ a fd N ps, Ent K mg I T y f n a fd N ps) (hB : ∀ x ∈ biNames, mg x = none)
    (hC : ∀ y g d, (y, g) ∈ I.cons → con g = some d → ∃ u v, mg y = some u ∧ RelV v u ∧ ∀ H ρ, RV K H ρ d v)
    (hD : ∀ y kvs, (y, kvs) ∈ I.dics → ∃ a, mg y = some (.ref a) ∧ KDic K w a kvs) :
    ∀ k y f n a fd N ps, Ent K mg I T y f n a fd N ps → FnG P w K mg base k a fd ps (spF K (callF T fu con k f) n)
  | 0, y, f, n, a, fd, N, ps, e => ⟨fun vs H Q E h => h.1.trans e.len.symm, fun A outer s H args us vs Q E hr _ he hb hv hs => by
      obtain ⟨_, ρ, m, ds, rel, rv, q⟩ := hs
      exact q.elim⟩
  | k + 1, y, f, n, a, fd, N, ps, e => by
    obtain ⟨x, qual, params, body, scope, fn, F, S, hT, hnp, hns, hc⟩ := e.ex
    refine def_g F S (fun vs H Q E h => h.1.trans e.len.symm) fun cdv A outer s H vs Q E hr hgd hsp => ?_
    obtain ⟨hl, ρ, m, ds, rel, rv, q⟩ := hsp
    have g : Gs I ⟨callF T fu con k, fu, con⟩ k (cxOf CX0 P w K mg base N qual scope a cdv A outer s H E).nox :=
      ⟨⟨rfl, S.nd, hr, hB, fun y f n hm => by
        obtain ⟨b, fd2, N2, ps2, e2⟩ := hE y f n hm
        obtain ⟨_, _, _, _, _, _, F2, _⟩ := e2.ex
        exact ⟨b, fd2, ps2, e2.len, e2.glob, F2.kp, e2.binds, fns_ok hE hB hC hD k y f n b fd2 N2 ps2 e2⟩, hC, hgd, hD⟩, PassesOwn.never, fun _ => rfl, S.kind⟩
    refine ⟨_, PSs.nox (sndSs fn.body _ g body hc), ρ, ds.map some ++ List.replicate (fn.ns - fn.np) none, m, rel, ?_, ?_⟩
    · have e3 : fn.ns - fn.np = N.length - vs.length := by rw [hns, hnp, hl]
      rw [e3]
      exact start_RS ds vs _ rv
    · unfold callF at q
      rw [hT] at q
      dsimp only at q
      rw [if_pos (by rw [hnp, RVs.length _ _ rv, hl])] at q
      revert q
      show GF K (RV K) Q H ρ (Out.fin (evSs ⟨callF T fu con k, fu, con⟩ fn.body (ds.map some ++ List.replicate (fn.ns - fn.np) none) m)) → _
      generalize evSs ⟨callF T fu con k, fu, con⟩ fn.body (ds.map some ++ List.replicate (fn.ns - fn.np) none) m = o
      intro q
      cases o with
      | nx σ' m' => exact fun H' ρ' τ ext rel' rs' => q H' ρ' .non ext rel' rvN
      | rt d m' => exact q
      | _ => exact q.elim
/-! ### a law -/
def spLaw (K : PySem.W.Frag) : Sp := fun vs H Q _ => ∃ (a : Addr) (ns : List Int), vs = [.ref a] ∧ Only H ∧ SqL K H a (ns.map V.int) ∧ ns.length ≤ 63 ∧ ∀ H', Q (.bl true) H'
/-- the law's def, from its run over every script -/
theorem law_ok {P : Program} {w : World} {K : PySem.W.Frag} {mg : Str → Option Value} {base : Heap} {fd : FuncData} {a : Addr} {T : List Fn} {fu k f : Nat} {con : Nat → Option D} (F : FnG P w K mg base k a fd ["script"] (spF K (callF T fu con k f) 1))
    (h : ∀ ns : List Int, ns.length ≤ 63 → ∃ m, callF T fu con k f [.fl (ns.map D.int)] [] = .ok (.bl true) m) : FnG P w K mg base k a fd ["script"] (spLaw K) := by
  refine F.weak fun vs H Q E ⟨b, ns, e, ho, hs, hl, q⟩ => ?_
  subst e
  obtain ⟨m, hm⟩ := h ns hl
  have rel : Rel K H [] [] := ⟨rfl, List.nodup_nil, fun l o e => by simp at e⟩
  refine ⟨rfl, [], [], [.fl (ns.map D.int)], rel, RVs.cons ?_ RVs.nil, ?_⟩
  · simp only [RV]
    refine ⟨b, _, rfl, ?_, RVs.mapint ns⟩
    rcases hs with hs | hs
    · rcases ho b with z | ⟨o, xs, z⟩
      · rcases hs with hs | ⟨_, hs⟩ <;> (rw [z] at hs; cases hs)
      · rcases hs with hs | ⟨o2, hs⟩
        · rw [z] at hs; cases hs
        · exact .inl ⟨o2, hs⟩
    · exact .inr hs
  · rw [hm]
    intro H' ρ' v ext rel' rv
    obtain rfl := rv_bl rv
    exact q H'
end Mi

set_option linter.all false
set_option autoImplicit false
set_option Elab.async false
set_option maxRecDepth 100000
set_option maxHeartbeats 4000000
/-! Mi14: equations for reckoning. -/
namespace Mi
open PySem L2
theorem fin_nx (σ : Sl) (m : M) : (Out.nx σ m).fin = .ok .non m := (rfl)
theorem fin_rt (d : D) (m : M) : (Out.rt d m).fin = .ok d m := (rfl)
theorem fin_bad : Out.bad.fin = .bad := (rfl)
theorem fin_exc (c : Nat) (as : List D) (m : M) : (Out.exc c as m).fin = .exc c as m := (rfl)
theorem tru_bl (b : Bool) (m : M) : tru (.bl b) m = .ok b m := (rfl)
theorem tru_non (m : M) : tru .non m = .ok false m := (rfl)
theorem tru_int (i : Int) (m : M) : tru (.int i) m = .ok (decide (i ≠ 0)) m := by
  show R.ok (i != 0) m = _
  by_cases h : i = 0 <;> simp [h]
theorem tru_tup (xs : List D) (m : M) : tru (.tup xs) m = .ok (!xs.isEmpty) m := (rfl)
theorem tru_fl (xs : List D) (m : M) : tru (.fl xs) m = .ok (!xs.isEmpty) m := (rfl)
theorem chD_bl (b : Bool) (m : M) (k : M → R D) : chD (.bl b) m k = if b = true then k m else .ok (.bl false) m := by cases b <;> rfl
theorem add_int (i j : Int) (m : M) : binD .add (.int i) (.int j) m = .ok (.int (i + j)) m := (rfl)
theorem sub_int (i j : Int) (m : M) : binD .sub (.int i) (.int j) m = .ok (.int (i - j)) m := (rfl)
theorem mul_int (i j : Int) (m : M) (h : smallF i ∨ smallF j) : binD .mul (.int i) (.int j) m = .ok (.int (i * j)) m := if_pos h
theorem mulL (i j : Int) (m : M) (h : smallF i) : binD .mul (.int i) (.int j) m = .ok (.int (i * j)) m := if_pos (.inl h)
theorem mulR (i j : Int) (m : M) (h : smallF j) : binD .mul (.int i) (.int j) m = .ok (.int (i * j)) m := if_pos (.inr h)
theorem fdiv_int (i j : Int) (m : M) (h : 0 < j ∧ j < 1606938044258990275541962092341162602522202993782792835301376) : binD .fdiv (.int i) (.int j) m = .ok (.int (i / j)) m := if_pos h
theorem mod_int (i j : Int) (m : M) (h : 0 < j) : binD .mod (.int i) (.int j) m = .ok (.int (i % j)) m := if_pos h
theorem pow_int (i j : Int) (m : M) (h : 0 ≤ j ∧ j ≤ 1000000 ∧ smallF i) : binD .pow (.int i) (.int j) m = .ok (.int (i ^ j.toNat)) m := if_pos h
theorem add_tup (xs ys : List D) (m : M) (h : xs.length + ys.length ≤ line) : binD .add (.tup xs) (.tup ys) m = .ok (.tup (xs ++ ys)) m := if_pos h
theorem add_str (a b : Str) (m : M) (h : a.length + b.length ≤ line) : binD .add (.str a) (.str b) m = .ok (.str (a ++ b)) m := if_pos h
theorem add_lst (a b : Nat) (xs ys : List D) (m : M) (ha : m[a]? = some (.lst xs)) (hb : m[b]? = some (.lst ys)) (h : xs.length + ys.length ≤ line) : binD .add (.ref a) (.ref b) m = alloc (xs ++ ys) m := by
  unfold binD
  simp only [ha, hb]
  exact if_pos h
theorem aug_add (i j : Int) (m : M) : augD .add (.int i) (.int j) m = .ok (.int (i + j)) m := (rfl)
theorem aug_sub (i j : Int) (m : M) : augD .sub (.int i) (.int j) m = .ok (.int (i - j)) m := (rfl)
theorem lt_int (i j : Int) (m : M) : cmpD .lt (.int i) (.int j) m = .ok (.bl (decide (i < j))) m := (rfl)
theorem le_int (i j : Int) (m : M) : cmpD .le (.int i) (.int j) m = .ok (.bl (decide (i ≤ j))) m := (rfl)
theorem gt_int (i j : Int) (m : M) : cmpD .gt (.int i) (.int j) m = .ok (.bl (decide (j < i))) m := (rfl)
theorem ge_int (i j : Int) (m : M) : cmpD .ge (.int i) (.int j) m = .ok (.bl (decide (j ≤ i))) m := (rfl)
/-! ### == -/
theorem py_non (n : Nat) (m : M) : toPy (n + 1) m .non = some .none := (rfl)
theorem py_bl (n : Nat) (m : M) (b : Bool) : toPy (n + 1) m (.bl b) = some (.bool b) := (rfl)
theorem py_int (n : Nat) (m : M) (b : Int) : toPy (n + 1) m (.int b) = some (.int b) := (rfl)
theorem py_str (n : Nat) (m : M) (b : Str) : toPy (n + 1) m (.str b) = some (.str b) := (rfl)
theorem py_tup (n : Nat) (m : M) (xs : List D) : toPy (n + 1) m (.tup xs) = (mapO (toPy n m) xs).map .tuple := (rfl)
theorem py_fl (n : Nat) (m : M) (xs : List D) : toPy (n + 1) m (.fl xs) = (mapO (toPy n m) xs).map .list := (rfl)
theorem py_ref (n : Nat) (m : M) (l : Nat) (xs : List D) (h : m[l]? = some (.lst xs)) : toPy (n + 1) m (.ref l) = (mapO (toPy n m) xs).map .list := by
  unfold toPy
  simp only [h]
theorem mapO_nil {α β : Type} (f : α → Option β) : mapO f [] = some [] := (rfl)
theorem mapO_cons {α β : Type} (f : α → Option β) (a : α) (r : List α) (b : β) (bs : List β) (h : f a = some b) (hr : mapO f r = some bs) : mapO f (a :: r) = some (b :: bs) := by
  unfold mapO
  rw [h, hr]
theorem mapO_map {α β γ : Type} (f : α → Option β) (g : γ → α) (q : γ → β) (h : ∀ x, f (g x) = some (q x)) : ∀ xs : List γ, mapO f (xs.map g) = some (xs.map q)
  | [] => rfl
  | x :: xs => mapO_cons f _ _ _ _ (h x) (mapO_map f g q h xs)
theorem mapO_ints (n : Nat) (m : M) (xs : List Int) : mapO (toPy (n + 1) m) (xs.map D.int) = some (xs.map .int) := mapO_map _ _ _ (fun x => py_int n m x) xs
theorem eqvAll_ints : ∀ xs ys : List Int, PyData.eqvAll (xs.map .int) (ys.map .int) = decide (xs = ys)
  | [], [] => rfl
  | [], _ :: _ => by simp [PyData.eqvAll]
  | _ :: _, [] => by simp [PyData.eqvAll]
  | x :: xs, y :: ys => by
    rw [List.map_cons, List.map_cons, PyData.eqvAll, eqvAll_ints xs ys]
    simp [PyData.eqv, Bool.beq_eq_decide_eq]
theorem eq_of_py (m : M) (x y : D) (p q : PyData) (hx : toPy 60 m x = some p) (hy : toPy 60 m y = some q) : cmpD .eq x y m = .ok (.bl (PyData.eqv p q)) m := by
  show bO (eqD m x y) m = _
  unfold eqD
  rw [hx, hy]
  rfl
theorem ne_of_py (m : M) (x y : D) (p q : PyData) (hx : toPy 60 m x = some p) (hy : toPy 60 m y = some q) : cmpD .ne x y m = .ok (.bl (!PyData.eqv p q)) m := by
  show bO ((eqD m x y).map (!·)) m = _
  unfold eqD
  rw [hx, hy]
  rfl
theorem eq_int (i j : Int) (m : M) : cmpD .eq (.int i) (.int j) m = .ok (.bl (decide (i = j))) m := by
  rw [eq_of_py m _ _ _ _ (py_int 59 m i) (py_int 59 m j)]
  simp [PyData.eqv, Bool.beq_eq_decide_eq]
theorem ne_int (i j : Int) (m : M) : cmpD .ne (.int i) (.int j) m = .ok (.bl (decide (i ≠ j))) m := by
  rw [ne_of_py m _ _ _ _ (py_int 59 m i) (py_int 59 m j)]
  simp [PyData.eqv, Bool.beq_eq_decide_eq]
theorem eq_bl (i j : Bool) (m : M) : cmpD .eq (.bl i) (.bl j) m = .ok (.bl (decide (i = j))) m := by
  rw [eq_of_py m _ _ _ _ (py_bl 59 m i) (py_bl 59 m j)]
  cases i <;> cases j <;> rfl
theorem ne_bl (i j : Bool) (m : M) : cmpD .ne (.bl i) (.bl j) m = .ok (.bl (decide (i ≠ j))) m := by
  rw [ne_of_py m _ _ _ _ (py_bl 59 m i) (py_bl 59 m j)]
  cases i <;> cases j <;> rfl
theorem eq_str (i j : Str) (m : M) : cmpD .eq (.str i) (.str j) m = .ok (.bl (decide (i = j))) m := by
  rw [eq_of_py m _ _ _ _ (py_str 59 m i) (py_str 59 m j)]
  simp [PyData.eqv, Bool.beq_eq_decide_eq]
theorem ne_str (i j : Str) (m : M) : cmpD .ne (.str i) (.str j) m = .ok (.bl (decide (i ≠ j))) m := by
  rw [ne_of_py m _ _ _ _ (py_str 59 m i) (py_str 59 m j)]
  simp [PyData.eqv, Bool.beq_eq_decide_eq]
/-! ### is -/
def isNon : D → Bool
  | .non => true
  | _ => false
theorem is_non (x : D) (m : M) : cmpD .is x .non m = .ok (.bl (isNon x)) m := by cases x <;> rfl
theorem isn_non : isNon .non = true := (rfl)
theorem isn_bl (b : Bool) : isNon (.bl b) = false := (rfl)
theorem isn_int (b : Int) : isNon (.int b) = false := (rfl)
theorem isn_str (b : Str) : isNon (.str b) = false := (rfl)
theorem isn_tup (b : List D) : isNon (.tup b) = false := (rfl)
theorem isn_fl (b : List D) : isNon (.fl b) = false := (rfl)
theorem isn_ref (b : Nat) : isNon (.ref b) = false := (rfl)
theorem rng_ok (a b : Int) (m : M) (h : -4611686018427387904 ≤ a ∧ a < 4611686018427387904 ∧ -4611686018427387904 ≤ b ∧ b < 4611686018427387904 ∧ b - a ≤ 16777216) : rngD (.int a) (.int b) m = .ok (.free ((List.range (b - a).toNat).map fun k => .int (a + (k : Nat)))) m := if_pos h
theorem nis_non (x : D) (m : M) : cmpD .nis x .non m = .ok (.bl (!isNon x)) m := by cases x <;> rfl
theorem is_bl (a b : Bool) (m : M) : cmpD .is (.bl a) (.bl b) m = .ok (.bl (decide (a = b))) m := (rfl)
theorem nis_bl (a b : Bool) (m : M) : cmpD .nis (.bl a) (.bl b) m = .ok (.bl (!decide (a = b))) m := (rfl)
theorem asB_bl (b : Bool) (m : M) : asB (.bl b) m = .ok b m := (rfl)
/-! ### items, slices -/
theorem at_nat {α : Type} (xs : List α) (j : Nat) : atI xs (j : Int) = xs[j]? := by
  unfold atI ixN
  rw [if_pos (Int.natCast_nonneg j)]
  by_cases h : (j : Int) < xs.length
  · rw [if_pos h]
    simp
  · rw [if_neg h]
    rw [List.getElem?_eq_none (by omega)]
    rfl
theorem at_0 {α : Type} (a : α) (xs : List α) : atI (a :: xs) 0 = some a := at_nat (a :: xs) 0
theorem at_1 {α : Type} (a b : α) (xs : List α) : atI (a :: b :: xs) 1 = some b := at_nat (a :: b :: xs) 1
theorem at_of {α : Type} (xs : List α) (i : Int) (h0 : 0 ≤ i) (h : i < xs.length) : atI xs i = xs[i.toNat]? := by
  have := at_nat xs i.toNat
  rw [Int.toNat_of_nonneg h0] at this
  exact this
theorem ixN_of (n : Nat) (i : Int) (h0 : 0 ≤ i) (h : i < n) : ixN n i = some i.toNat := by
  unfold ixN
  rw [if_pos h0, if_pos h]
theorem ix_tup (xs : List D) (k : Int) (d : D) (m : M) (h : atI xs k = some d) : ixD (.tup xs) (.int k) m = .ok d m := by
  unfold ixD dicD ixS seqD
  simp only [h]
theorem ix_fl (xs : List D) (k : Int) (d : D) (m : M) (h : atI xs k = some d) : ixD (.fl xs) (.int k) m = .ok d m := by
  unfold ixD dicD ixS seqD
  simp only [h]
theorem ix_ref (l : Nat) (xs : List D) (k : Int) (d : D) (m : M) (hl : m[l]? = some (.lst xs)) (h : atI xs k = some d) : ixD (.ref l) (.int k) m = .ok d m := by
  unfold ixD dicD ixS seqD
  simp only [hl, h]
theorem set_ref (l : Nat) (xs : List D) (k : Int) (v : D) (m : M) (hl : m[l]? = some (.lst xs)) (h0 : 0 ≤ k) (h : k < xs.length) : setD (.ref l) (.int k) v m = some (m.set l (.lst (xs.set k.toNat v))) := by
  unfold setD setS
  simp only [hl, ixN_of _ _ h0 h]
/-! ### built-ins -/
theorem bi_len (d : D) (m : M) : biD .len [d] m = lenD d m := (rfl)
theorem bi_abs (i : Int) (m : M) : biD .abs [.int i] m = .ok (.int (if i < 0 then -i else i)) m := (rfl)
theorem bi_int (i : Int) (m : M) : biD .int [.int i] m = .ok (.int i) m := (rfl)
theorem bi_intb (k : Bool) (m : M) : biD .int [.bl k] m = .ok (.int (if k then 1 else 0)) m := (rfl)
theorem bi_min (i j : Int) (m : M) : biD .min [.int i, .int j] m = .ok (.int (if j < i then j else i)) m := (rfl)
theorem bi_max (i j : Int) (m : M) : biD .max [.int i, .int j] m = .ok (.int (if j > i then j else i)) m := (rfl)
theorem len_str (x : Str) (m : M) : lenD (.str x) m = .ok (.int x.length) m := (rfl)
theorem len_tup (xs : List D) (m : M) : lenD (.tup xs) m = .ok (.int xs.length) m := (rfl)
theorem len_fl (xs : List D) (m : M) : lenD (.fl xs) m = .ok (.int xs.length) m := (rfl)
theorem len_ref (l : Nat) (xs : List D) (m : M) (h : m[l]? = some (.lst xs)) : lenD (.ref l) m = .ok (.int xs.length) m := by
  unfold lenD
  simp only [h]
theorem lstT_nm (i : Nat) (d : D) (m : M) : lstT (.nm i) d m = d := (rfl)
theorem lstT_tup (is : List Nat) (ds : List D) (m : M) : lstT (.tp is) (.tup ds) m = .tup ds := (rfl)
theorem lstT_lst (is : List Nat) (ds : List D) (l : Nat) (m : M) (h : m[l]? = some (.lst ds)) : lstT (.tp is) (.ref l) m = .tup ds := by
  unfold lstT
  simp only [h]
theorem lstT_of {x : Tg} {d : D} {σ σ1 : Sl} (m : M) (h : setT x d σ = some σ1) : setT x (lstT x d m) σ = some σ1 := by
  cases x with
  | nm i => exact h
  | tp is =>
    cases d with
    | tup ds => exact h
    | _ => cases h
theorem setT_nm (i : Nat) (d : D) (σ : Sl) : setT (.nm i) d σ = some (σ.set i (some d)) := (rfl)
theorem blsD_mapB : ∀ bs : List Bool, blsD (bs.map D.bl) = some bs
  | [] => rfl
  | b :: bs => by
    rw [List.map_cons]
    unfold blsD
    rw [blsD_mapB bs]
theorem intsD_mapI : ∀ bs : List Int, intsD (bs.map D.int) = some bs
  | [] => rfl
  | b :: bs => by
    rw [List.map_cons]
    unfold intsD
    rw [intsD_mapI bs]
/-! ### types -/
theorem isi_int (i : Int) (ts : List Ty) (m : M) : isiD (.int i) ts m = .ok (.bl (ts.any (isTy .int))) m := (rfl)
theorem isi_bl (i : Bool) (ts : List Ty) (m : M) : isiD (.bl i) ts m = .ok (.bl (ts.any (isTy .bool))) m := (rfl)
theorem isi_str (i : Str) (ts : List Ty) (m : M) : isiD (.str i) ts m = .ok (.bl (ts.any (isTy .str))) m := (rfl)
theorem isi_non (ts : List Ty) (m : M) : isiD .non ts m = .ok (.bl false) m := (rfl)
theorem isi_tup (i : List D) (ts : List Ty) (m : M) : isiD (.tup i) ts m = .ok (.bl (ts.any (isTy .tuple))) m := (rfl)
theorem isi_fl (i : List D) (ts : List Ty) (m : M) : isiD (.fl i) ts m = .ok (.bl (ts.any (isTy .list))) m := (rfl)
theorem isi_ref (l : Nat) (xs : List D) (ts : List Ty) (m : M) (h : m[l]? = some (.lst xs)) : isiD (.ref l) ts m = .ok (.bl (ts.any (isTy .list))) m := by
  unfold isiD tyD
  simp only [h]
/-! ### loops -/
theorem lc_nil (set : D → Option Sl) (st : M → Prop) (ts : Sl → M → R Bool) (e : Sl → M → R D) (acc : List D) (m : M) (h : st m) : lcD set st ts e [] acc m = .ok acc m := by
  unfold lcD
  rw [if_pos h]
theorem lc_cons (set : D → Option Sl) (st : M → Prop) (ts : Sl → M → R Bool) (e : Sl → M → R D) (d : D) (ds acc : List D) (m : M) (h : st m) : lcD set st ts e (d :: ds) acc m = (match set d with
    | some σ => (match ts σ m with
      | .ok true m1 => (match e σ m1 with
        | .ok y m2 => lcD set st ts e ds (acc ++ [y]) m2
        | _ => .bad)
      | .ok false m1 => lcD set st ts e ds acc m1
      | _ => .bad)
    | none => .bad) := by
  conv => lhs; unfold lcD
  first | (rw [if_pos h]; done) | (rw [if_pos h]; rfl)
theorem for_nil (set : D → Sl → Option Sl) (st : M → Prop) (b : Sl → M → Out) (σ : Sl) (m : M) (h : st m) : forD set st b [] σ m = .nx σ m := by
  unfold forD
  rw [if_pos h]
theorem for_cons (set : D → Sl → Option Sl) (st : M → Prop) (b : Sl → M → Out) (d : D) (ds : List D) (σ : Sl) (m : M) (h : st m) : forD set st b (d :: ds) σ m = (match set d σ with
    | some σ1 => (match b σ1 m with
      | .nx σ2 m2 => forD set st b ds σ2 m2
      | .ct σ2 m2 => forD set st b ds σ2 m2
      | .bk σ2 m2 => .nx σ2 m2
      | o => o)
    | none => .bad) := by
  conv => lhs; unfold forD
  first | (rw [if_pos h]; done) | (rw [if_pos h]; rfl)
/-- a comprehension whose items come one by one by f, nothing changed -/
theorem lc_map {α : Type} (set : D → Option Sl) (st : M → Prop) (ts : Sl → M → R Bool) (e : Sl → M → R D) (g : α → D) (q : α → D) (m : M) (hst : st m) (hts : ∀ σ m, ts σ m = .ok true m) : ∀ (xs : List α) (acc : List D), (∀ x ∈ xs, ∃ σ, set (g x) = some σ ∧ e σ m = .ok (q x) m) → lcD set st ts e (xs.map g) acc m = .ok (acc ++ xs.map q) m
  | [], acc, _ => by rw [List.map_nil, lc_nil _ _ _ _ _ _ hst, List.map_nil, List.append_nil]
  | x :: xs, acc, h => by
    obtain ⟨σ, h1, h2⟩ := h x List.mem_cons_self
    rw [List.map_cons, lc_cons _ _ _ _ _ _ _ _ hst]
    simp only [h1, hts, h2]
    rw [lc_map set st ts e g q m hst hts xs _ fun y hy => h y (List.mem_cons_of_mem _ hy), List.map_cons, List.append_assoc]
    rfl
/-- .. by what holds between the turns: the items so far, the heap -/
theorem lc_inv {all : List D} (set : D → Option Sl) (st : M → Prop) (ts : Sl → M → R Bool) (e : Sl → M → R D) (P : List D → List D → M → Prop) (hst : ∀ pre acc m, P pre acc m → st m)
    (step : ∀ pre x post acc m, all = pre ++ x :: post → P pre acc m → ∃ σ, set x = some σ ∧ ((∃ m1 y m2, ts σ m = .ok true m1 ∧ e σ m1 = .ok y m2 ∧ P (pre ++ [x]) (acc ++ [y]) m2) ∨ ∃ m1, ts σ m = .ok false m1 ∧ P (pre ++ [x]) acc m1)) :
    ∀ (xs pre acc : List D) (m : M), all = pre ++ xs → P pre acc m → ∃ out m', lcD set st ts e xs acc m = .ok out m' ∧ P all out m'
  | [], pre, acc, m, ha, h => ⟨acc, m, lc_nil _ _ _ _ _ _ (hst _ _ _ h), by rw [ha, List.append_nil]; exact h⟩
  | x :: xs, pre, acc, m, ha, h => by
    obtain ⟨σ, h1, h2⟩ := step pre x xs acc m ha h
    rw [lc_cons _ _ _ _ _ _ _ _ (hst _ _ _ h)]
    simp only [h1]
    have ha2 : all = (pre ++ [x]) ++ xs := by rw [ha, List.append_assoc]; rfl
    rcases h2 with ⟨m1, y, m2, h2, h3, h4⟩ | ⟨m1, h2, h4⟩
    · simp only [h2, h3]
      exact lc_inv set st ts e P hst step xs (pre ++ [x]) (acc ++ [y]) m2 ha2 h4
    · simp only [h2]
      exact lc_inv set st ts e P hst step xs (pre ++ [x]) acc m1 ha2 h4
/-- a for by what holds between the turns; a turn goes on, or returns what Q wants -/
theorem for_inv {all : List D} (set : D → Sl → Option Sl) (st : M → Prop) (b : Sl → M → Out) (P : List D → Sl → M → Prop) (Q : D → M → Prop) (hst : ∀ pre σ m, P pre σ m → st m)
    (step : ∀ pre x post σ m, all = pre ++ x :: post → P pre σ m → ∃ σ1, set x σ = some σ1 ∧ ((∃ σ2 m2, (b σ1 m = .nx σ2 m2 ∨ b σ1 m = .ct σ2 m2) ∧ P (pre ++ [x]) σ2 m2) ∨ ∃ d m2, b σ1 m = .rt d m2 ∧ Q d m2)) :
    ∀ (xs pre : List D) (σ : Sl) (m : M), all = pre ++ xs → P pre σ m → (∃ σ' m', forD set st b xs σ m = .nx σ' m' ∧ P all σ' m') ∨ ∃ d m', forD set st b xs σ m = .rt d m' ∧ Q d m'
  | [], pre, σ, m, ha, h => .inl ⟨σ, m, for_nil _ _ _ _ _ (hst _ _ _ h), by rw [ha, List.append_nil]; exact h⟩
  | x :: xs, pre, σ, m, ha, h => by
    obtain ⟨σ1, h1, h2⟩ := step pre x xs σ m ha h
    rw [for_cons _ _ _ _ _ _ _ (hst _ _ _ h)]
    simp only [h1]
    have ha2 : all = (pre ++ [x]) ++ xs := by rw [ha, List.append_assoc]; rfl
    rcases h2 with ⟨σ2, m2, h2 | h2, h4⟩ | ⟨d, m2, h2, h4⟩
    · simp only [h2]
      exact for_inv set st b P Q hst step xs (pre ++ [x]) σ2 m2 ha2 h4
    · simp only [h2]
      exact for_inv set st b P Q hst step xs (pre ++ [x]) σ2 m2 ha2 h4
    · simp only [h2]
      exact .inr ⟨d, m2, rfl, h4⟩
/-- .. that always goes on -/
theorem for_all {all : List D} (set : D → Sl → Option Sl) (st : M → Prop) (b : Sl → M → Out) (P : List D → Sl → M → Prop) (hst : ∀ pre σ m, P pre σ m → st m)
    (step : ∀ pre x post σ m, all = pre ++ x :: post → P pre σ m → ∃ σ1, set x σ = some σ1 ∧ ∃ σ2 m2, (b σ1 m = .nx σ2 m2 ∨ b σ1 m = .ct σ2 m2) ∧ P (pre ++ [x]) σ2 m2)
    (σ : Sl) (m : M) (h : P [] σ m) : ∃ σ' m', forD set st b all σ m = .nx σ' m' ∧ P all σ' m' := by
  rcases for_inv set st b P (fun _ _ => False) hst (fun pre x post σ m ha h => let ⟨σ1, h1, h2⟩ := step pre x post σ m ha h; ⟨σ1, h1, .inl h2⟩) all [] σ m rfl h with h | ⟨_, _, _, h⟩
  · exact h
  · exact h.elim
end Mi

set_option linter.all false
set_option autoImplicit false
set_option Elab.async false
set_option maxRecDepth 100000
set_option maxHeartbeats 4000000
/-! Mi15: constants of the module, tuples too. -/
namespace Mi
open PySem PySem.Spec PyProof.Rows L2
inductive Cv where
  | non | bl (b : Bool) | int (i : Int) | str (x : Str) | tup (xs : List Cv)
mutual
def Cv.d : Cv → D
  | .non => .non
  | .bl b => .bl b
  | .int i => .int i
  | .str x => .str x
  | .tup xs => .tup (Cv.ds xs)
def Cv.ds : List Cv → List D
  | [] => []
  | c :: cs => c.d :: Cv.ds cs
end
def seqB (K : PySem.W.Frag) (u : Value) : Option (List Value) := match u with
  | .ref a => (match K.lookup a with
    | some o => (match o.data with
      | .seq its _ => if decide (o.cls = .type "tuple") && decide (its.size ≤ sizeLine) then some its.toList else none
      | _ => none)
    | none => none)
  | _ => none
theorem seqB_ok {K : PySem.W.Frag} {u : Value} {us : List Value} (h : seqB K u = some us) : ∃ a, u = .ref a ∧ ∃ (o : Obj) (its : Array Value) (n : Nat), K.lookup a = some o ∧ o.cls = .type "tuple" ∧ o.data = .seq its n ∧ its.size ≤ sizeLine ∧ us = its.toList := by
  unfold seqB at h
  split at h
  · rename_i a
    split at h
    · rename_i o ho
      split at h
      · rename_i its n hd
        split at h
        · rename_i c
          obtain ⟨c1, c2⟩ := b2 c
          cases h
          exact ⟨a, rfl, o, its, n, ho, of_decide_eq_true c1, hd, of_decide_eq_true c2, rfl⟩
        · cases h
      · cases h
    · cases h
  · cases h
mutual
def cvB (K : PySem.W.Frag) : Cv → Value → Bool
  | .non, u => (match u with
    | .none => true
    | _ => false)
  | .bl b, u => (match u with
    | .bool c => decide (c = b)
    | _ => false)
  | .int i, u => (match u with
    | .int j _ => decide (j = i)
    | _ => false)
  | .str x, u => (match u with
    | .str y _ => decide (y = x) && PyData.strOk x && decide (x.length ≤ sizeLine)
    | _ => false)
  | .tup xs, u => (match seqB K u with
    | some us => cvsB K xs us
    | none => false)
def cvsB (K : PySem.W.Frag) : List Cv → List Value → Bool
  | [], us => us.isEmpty
  | c :: cs, us => (match us with
    | u :: r => cvB K c u && cvsB K cs r
    | [] => false)
end
mutual
theorem cv_ok {K : PySem.W.Frag} : ∀ (c : Cv) (u : Value), cvB K c u = true → ∃ v, RelV v u ∧ ∀ H ρ, RV K H ρ c.d v
  | .non, u, h => by
    unfold cvB at h
    split at h
    · exact ⟨.non, rfl, fun _ _ => rvN⟩
    · cases h
  | .bl b, u, h => by
    unfold cvB at h
    split at h
    · obtain rfl := of_decide_eq_true h
      exact ⟨.bl _, rfl, fun _ _ => rvB _⟩
    · cases h
  | .int i, u, h => by
    unfold cvB at h
    split at h
    · rename_i j t
      obtain rfl := of_decide_eq_true h
      exact ⟨.int _, ⟨t, rfl⟩, fun _ _ => rvI _⟩
    · cases h
  | .str x, u, h => by
    unfold cvB at h
    split at h
    · rename_i y t
      obtain ⟨h, h3⟩ := b2 h
      obtain ⟨h1, h2⟩ := b2 h
      obtain rfl := of_decide_eq_true h1
      exact ⟨.str _, ⟨t, rfl⟩, fun _ _ => rvS ⟨h2, of_decide_eq_true h3⟩⟩
    · cases h
  | .tup xs, u, h => by
    unfold cvB at h
    cases e : seqB K u with
    | none => rw [e] at h; cases h
    | some us =>
      rw [e] at h
      obtain ⟨a, rfl, o, its, n, ho, hc, hd, hs, rfl⟩ := seqB_ok e
      obtain ⟨vs, r, q⟩ := cvs_ok xs _ h
      refine ⟨.ref a, rfl, fun H ρ => ?_⟩
      unfold Cv.d
      simp only [RV]
      exact ⟨a, vs, rfl, .inr ⟨o, its, n, ho, hc, hd, hs, r⟩, q H ρ⟩
theorem cvs_ok {K : PySem.W.Frag} : ∀ (cs : List Cv) (us : List Value), cvsB K cs us = true → ∃ vs, Vals vs us ∧ ∀ H ρ, RVs K H ρ (Cv.ds cs) vs
  | [], us, h => by
    cases us with
    | nil => exact ⟨[], .nil, fun _ _ => RVs.nil⟩
    | cons _ _ => unfold cvsB at h; exact Bool.noConfusion h
  | c :: cs, us, h => by
    cases us with
    | nil => unfold cvsB at h; exact Bool.noConfusion h
    | cons u r =>
      unfold cvsB at h
      obtain ⟨h1, h2⟩ := b2 h
      obtain ⟨v, r1, q1⟩ := cv_ok c u h1
      obtain ⟨vs, r2, q2⟩ := cvs_ok cs r h2
      exact ⟨v :: vs, .cons r1 r2, fun H ρ => RVs.cons (q1 H ρ) (q2 H ρ)⟩
end
def gcB (K : PySem.W.Frag) (c : Str × Cv) : Bool := match PySem.W.nsIn K mainGlobals c.1 with
  | some (some u) => cvB K c.2 u
  | _ => false
theorem gc_ok {K : PySem.W.Frag} {h : Heap} {mg : Str → Option Value} (X : K.In h) (G : h.Ns mainGlobals mg) {c : Str × Cv} (q : gcB K c = true) : ∃ u v, mg c.1 = some u ∧ RelV v u ∧ ∀ H ρ, RV K H ρ c.2.d v := by
  unfold gcB at q
  split at q
  · rename_i u e
    obtain ⟨v, r, hv⟩ := cv_ok _ _ q
    exact ⟨u, v, PySem.W.mg_of X G e, r, hv⟩
  · cases q
/-! ### written tables -/
abbrev Di : Type := Str × List (Str × Int)
def dcB (K : PySem.W.Frag) (c : Di) : Bool := He.eqO (PySem.W.nsIn K mainGlobals c.1) (some (some (.ref (He.ga K c.1)))) && He.valsB K (He.ga K c.1) (c.2.map fun q => (q.1, .int q.2))
def tabOf (c : Di) : He.Tab := (fun K => He.ga K c.1, c.2.map (·.1))
theorem ks_miss {P : Params} : ∀ {l : List DictEntry} {ks : List Str}, l.map He.keyOf = He.keysIn P ks → ∀ x, x ∉ ks → l.find? (·.key.isStr x) = none ∧ l.any (·.refKey) = false
  | [], _, _, _, _ => ⟨rfl, rfl⟩
  | e :: r, [], h, _, _ => by cases h
  | e :: r, k :: ks, h, x, nx => by
    have h1 : He.keyOf e :: r.map He.keyOf = some (k, PyData.keyHash P k) :: He.keysIn P ks := h
    injection h1 with h2 h3
    obtain ⟨i1, i2⟩ := ks_miss h3 x fun q => nx (List.mem_cons_of_mem _ q)
    unfold He.keyOf at h2
    split at h2
    · rename_i y t q
      have h4 := Option.some.inj h2
      obtain ⟨h5, h6⟩ := Prod.mk.inj h4
      have hn : e.key.isStr x = false := by
        rw [q]
        have ne : y ≠ x := fun z => nx (by rw [← z, h5]; exact List.mem_cons_self ..)
        have e0 : (Value.str y t).isStr x = decide (y = x) := by
          unfold Value.isStr
          first | rfl | simp | (by_cases z : y = x <;> simp [z])
        rw [e0]
        exact decide_eq_false ne
      refine ⟨?_, ?_⟩
      · rw [List.find?_cons, hn]; exact i1
      · rw [List.any_cons, i2]
        unfold DictEntry.refKey
        rw [q]
        rfl
    · cases h2
theorem dicW_all {K : PySem.W.Frag} {w : World} {a : Addr} {ks : List Str} (h : He.dicW K a = some (He.keysIn w.params ks)) : ∃ es n, L2.KDict K w a es n ∧ es.toList.map He.keyOf = He.keysIn w.params ks := by
  obtain ⟨es, n, D⟩ := He.dicW_ok h
  refine ⟨es, n, D, ?_⟩
  unfold He.dicW at h
  rw [D.at_] at h
  dsimp only at h
  split at h
  · exact Option.some.inj h
  · cases h
theorem tab_all {fa : List He.Fa} {fn : List He.DefD} {ts : List He.Tab} {w : World} {K : PySem.W.Frag} (c : He.SaysT fa fn ts w K) (i : Nat) {t : He.Tab} (h : ts[i]? = some t) : ∃ es n, L2.KDict K w (t.1 K) es n ∧ es.toList.map He.keyOf = He.keysIn w.params t.2 := by
  have e : ts.map (fun t => He.dicW K (t.1 K)) = ts.map fun t => some (He.keysIn w.params t.2) := congrArg (fun z : He.AlT => z.2) c
  have e2 : (ts.map fun t => He.dicW K (t.1 K))[i]? = (ts.map fun t => some (He.keysIn w.params t.2))[i]? := by rw [e]
  rw [List.getElem?_map, List.getElem?_map, h] at e2
  exact dicW_all (Option.some.inj e2)
/-! ### worlds by one row's text -/
theorem ft_split (f : String → Bool) (r : String) : ∃ b : Bool, f = fun s => bif decide (s = r) then b else f s := ⟨f r, funext fun s => by
  by_cases h : s = r
  · rw [decide_eq_true h, h]; rfl
  · rw [decide_eq_false h]; rfl⟩
def withFt (w : World) (f : String → Bool) : World := { w with params := { w.params with followText := f } }
theorem withFt_self (w : World) : withFt w w.params.followText = w := rfl
theorem by_ft {P : World → Prop} (w : World) (h1 : ∀ f : String → Bool, P (withFt w fun s => bif decide (s = "special-get-raises") then true else f s)) (h0 : ∀ f : String → Bool, P (withFt w fun s => bif decide (s = "special-get-raises") then false else f s)) : P w := by
  obtain ⟨b, e⟩ := ft_split w.params.followText "special-get-raises"
  rw [← withFt_self w, e]
  cases b
  · exact h0 _
  · exact h1 _
/-! ### the Hook, constants with it -/
abbrev AlM : Type := He.AlT × Bool
def obsM (fa : List He.Fa) (fn : List He.DefD) (cs : List (Str × Cv)) (ds : List Di) (K : PySem.W.Frag) : AlM := (He.obsT fa fn (ds.map tabOf) K, cs.all (gcB K) && ds.all (dcB K))
def valM (fn : List He.DefD) (ds : List Di) (w : World) : AlM := (He.valT fn (ds.map tabOf) w, true)
def SaysM (fa : List He.Fa) (fn : List He.DefD) (cs : List (Str × Cv)) (ds : List Di) (w : World) (K : PySem.W.Frag) : Prop := obsM fa fn cs ds K = valM fn ds w
def obsMG (n : Nat) (fa : List He.Fa) (fn : List He.DefD) (cs : List (Str × Cv)) (ds : List Di) (g : Addr → Option Obj) : AlM := obsM fa fn cs ds (He.frG g (He.asD g n))
def hookM (n : Nat) (fa : List He.Fa) (fn : List He.DefD) (cs : List (Str × Cv)) (ds : List Di) : PySem.W.Hook where
  α := AlM
  obs := fun s => obsMG n fa fn cs ds s.heap.get?
  val := fun w => valM fn ds w
  says := fun w h => ∃ K : PySem.W.Frag, K.In h ∧ SaysM fa fn cs ds w K
  of := fun _ _ e => ⟨_, He.frG_in, e⟩
  keeps := fun _ _ _ ⟨K, hK, c⟩ k => ⟨K, PySem.W.Frag.In.keeps hK k, c⟩
theorem obsMG_eq {n : Nat} {fa : List He.Fa} {fn : List He.DefD} {cs : List (Str × Cv)} {ds : List Di} {g : Addr → Option Obj} {s : Shared} (h : ∀ a, g a = s.heap.get? a) : obsMG n fa fn cs ds g = (hookM n fa fn cs ds).obs s := by
  obtain rfl : g = s.heap.get? := funext h
  rfl
section
variable {fa : List He.Fa} {fn : List He.DefD} {cs : List (Str × Cv)} {ds : List Di} {w : World} {K : PySem.W.Frag}
theorem SaysM.t (c : SaysM fa fn cs ds w K) : He.SaysT fa fn (ds.map tabOf) w K := congrArg Prod.fst c
theorem SaysM.d (c : SaysM fa fn cs ds w K) : He.SaysD fa fn K := c.t.d
theorem SaysM.con (c : SaysM fa fn cs ds w K) {p : Str × Cv} (h : p ∈ cs) : gcB K p = true := List.all_eq_true.mp (b2 (congrArg Prod.snd c : (cs.all (gcB K) && ds.all (dcB K)) = true)).1 p h
theorem SaysM.dic (c : SaysM fa fn cs ds w K) {h : Heap} {mg : Str → Option Value} (X : K.In h) (G : h.Ns mainGlobals mg) {y : Str} {kvs : List (Str × Int)} (hm : (y, kvs) ∈ ds) : ∃ a, mg y = some (.ref a) ∧ KDic K w a kvs := by
  have h2 := List.all_eq_true.mp (b2 (congrArg Prod.snd c : (cs.all (gcB K) && ds.all (dcB K)) = true)).2 _ hm
  obtain ⟨q1, q2⟩ := b2 h2
  obtain ⟨i, hi⟩ := List.mem_iff_getElem?.mp hm
  obtain ⟨es, n, D, hk⟩ := tab_all c.t i (t := tabOf (y, kvs)) (by rw [List.getElem?_map, hi]; rfl)
  refine ⟨He.ga K y, PySem.W.mg_of X G (He.eqO_ok q1), es, n, D, fun k j hk => ?_, fun k nk => ?_⟩
  · obtain ⟨u, e, r⟩ := He.valsB_ok q2 (q := (k, .int j)) (List.mem_map.mpr ⟨(k, j), hk, rfl⟩)
    exact ⟨u, e, r⟩
  · obtain ⟨m1, m2⟩ := ks_miss hk k nk
    unfold PySem.W.nsIn
    rw [show K.lookup (He.ga K y) = _ from D.at_]
    dsimp only
    rw [m1]
    dsimp only
    rw [m2]
    rfl
end
end Mi

set_option linter.all false
set_option autoImplicit false
set_option Elab.async false
set_option maxRecDepth 100000
set_option maxHeartbeats 4000000
/-! Dr1: what the laws draw by. -/
namespace Dr
noncomputable section
open PySem L2 Mi
def B_state : Ss :=
(.cons (.set (.nm 1) (.lc [2] (.nm 2) (.seq (.sl (.var 0) .no (.so (.cst (.int 63))))) .nil (.bi .abs (.cons (.var 2) .nil))))
 (.cons (.ife (.cmp .eq (.bi .len (.cons (.var 1) .nil)) (.cst (.int 0))) (.cons (.set (.nm 1) (.lst (.cons (.cst (.int 0)) .nil)))
 .nil) .nil)
 (.cons (.ret (.lst (.cons (.cst (.int 0)) (.cons (.var 1) .nil))))
 .nil)))
def B_take : Ss :=
(.cons (.ife (.cmp .lt (.var 1) (.cst (.int 2))) (.cons (.ret (.cst (.int 0)))
 .nil) .nil)
 (.cons (.set (.nm 2) (.ix (.var 0) (.cst (.int 1))))
 (.cons (.set (.nm 3) (.bin .mod (.bi .int (.cons (.ix (.var 0) (.cst (.int 0))) .nil)) (.bi .len (.cons (.var 2) .nil))))
 (.cons (.set (.nm 4) (.ix (.var 2) (.var 3)))
 (.cons (.ife (.cmp .ge (.var 4) (.cst (.int 1000000000000000000))) (.cons (.six (.var 2) (.var 3) (.bin .fdiv (.var 4) (.var 1)))
 (.cons (.ret (.bin .mod (.bi .int (.cons (.var 4) .nil)) (.var 1)))
 .nil)) .nil)
 (.cons (.six (.var 0) (.cst (.int 0)) (.bin .add (.ix (.var 0) (.cst (.int 0))) (.cst (.int 1))))
 (.cons (.set (.nm 5) (.bin .mod (.bi .int (.cons (.bin .add (.bin .mul (.var 4) (.cst (.int 48271))) (.bin .mul (.ix (.var 0) (.cst (.int 0))) (.cst (.int 69621)))) .nil)) (.cst (.int 2147483647))))
 (.cons (.set (.nm 5) (.bin .mod (.bi .int (.cons (.bin .add (.bin .mul (.var 5) (.cst (.int 16807))) (.bin .mul (.ix (.var 0) (.cst (.int 0))) (.cst (.int 7919)))) .nil)) (.cst (.int 1000000007))))
 (.cons (.ret (.bin .mod (.bi .int (.cons (.bin .fdiv (.var 5) (.cst (.int 7))) .nil)) (.var 1)))
 .nil)))))))))
/-- the drawn state: at s, its cells at c -/
structure St (m : M) (s c : Nat) : Prop where
  ex : ∃ (pos : Int) (cells : List Int), m[s]? = some (.lst [.int pos, .ref c]) ∧ m[c]? = some (.lst (cells.map D.int)) ∧ cells ≠ [] ∧ cells.length ≤ 63 ∧ (∀ x ∈ cells, 0 ≤ x) ∧ 0 ≤ pos
  ne : s ≠ c
/-- all but s and c stand -/
structure Kp (s c : Nat) (m m' : M) : Prop where
  len : m.length ≤ m'.length
  at_ : ∀ (l : Nat) (o : O), l ≠ s → l ≠ c → m[l]? = some o → m'[l]? = some o
theorem Kp.refl (s c : Nat) (m : M) : Kp s c m m := ⟨Nat.le_refl _, fun _ _ _ _ h => h⟩
theorem Kp.trans {s c : Nat} {m m1 m2 : M} (a : Kp s c m m1) (b : Kp s c m1 m2) : Kp s c m m2 := ⟨Nat.le_trans a.len b.len, fun l o h1 h2 h => b.at_ l o h1 h2 (a.at_ l o h1 h2 h)⟩
theorem Kp.app (s c : Nat) (m g : M) : Kp s c m (m ++ g) := ⟨by simp, fun l o _ _ h => by rw [List.getElem?_append_left (List.getElem?_eq_some_iff.mp h).1]; exact h⟩
theorem St.app {m : M} {s c : Nat} (h : St m s c) (g : M) : St (m ++ g) s c := by
  obtain ⟨⟨pos, cells, h1, h2, h3⟩, ne⟩ := h
  exact ⟨⟨pos, cells, by rw [List.getElem?_append_left (List.getElem?_eq_some_iff.mp h1).1]; exact h1, by rw [List.getElem?_append_left (List.getElem?_eq_some_iff.mp h2).1]; exact h2, h3⟩, ne⟩
def IsTake (g : List D → M → R D) : Prop := ∀ (s c : Nat) (most : Int) (m : M), St m s c → most < 1606938044258990275541962092341162602522202993782792835301376 →
  ∃ (r : Int) (m' : M), g [.ref s, .int most] m = .ok (.int r) m' ∧ 0 ≤ r ∧ (r < most ∨ (most < 2 ∧ r = 0)) ∧ St m' s c ∧ Kp s c m m'
theorem sm (i : Int) (h : -18446744073709551616 < i ∧ i < 18446744073709551616) : smallF i := h
theorem take_s (C : Mi.Cx) (s c : Nat) (most : Int) (m : M) (h : St m s c) (hm : most < 1606938044258990275541962092341162602522202993782792835301376) :
    ∃ (r : Int) (m' : M), (evSs C B_take [some (.ref s), some (.int most), none, none, none, none] m).fin = .ok (.int r) m' ∧ 0 ≤ r ∧ (r < most ∨ (most < 2 ∧ r = 0)) ∧ St m' s c ∧ Kp s c m m' := by
  obtain ⟨⟨pos, cells, h1, h2, h3, h4, h5, h6⟩, ne⟩ := id h
  unfold B_take
  by_cases hs : most < 2
  · refine ⟨0, m, ?_, Int.le_refl _, .inr ⟨hs, rfl⟩, h, Kp.refl _ _ _⟩
    simp only [evSs, evS, ev, evs, evL, evTs, evo, evI, evT, bind_ok, bind_bad, out_ok, out_bad, obind_nx, obind_rt, obind_bk, obind_ct, obind_bad, fin_nx, fin_rt, fin_bad, tru_bl, tru_non, tru_int, chD_bl, Mi.add_int, Mi.sub_int, Mi.lt_int, Mi.le_int, Mi.gt_int, Mi.ge_int, Mi.eq_int, Mi.ne_int, Mi.eq_bl, Mi.ne_bl, Mi.eq_str, Mi.ne_str, Mi.is_non, Mi.nis_non, Mi.is_bl, Mi.nis_bl, isn_non, isn_bl, isn_int, isn_str, isn_tup, isn_fl, isn_ref, Mi.bi_len, Mi.bi_abs, Mi.bi_int, Mi.bi_intb, Mi.bi_min, Mi.bi_max, Mi.len_str, Mi.len_tup, Mi.len_fl, isi_int, isi_bl, isi_str, isi_non, isi_tup, isi_fl, isTy, List.any_cons, List.any_nil, setT_nm, Mi.lstT_nm, Mi.lstT_tup, List.getElem?_cons_zero, List.getElem?_cons_succ, List.set_cons_zero, List.set_cons_succ, decide_eq_true_eq, Bool.or_false, Bool.or_true, Bool.false_or, Bool.true_or, Bool.not_true, Bool.not_false, Bool.false_eq_true, if_true, if_false, reduceIte, negD, optD, ne_eq, not_true_eq_false, not_false_eq_true, decide_true, decide_false, hs]
  · have hl : 0 < (cells.length : Int) := by
      have : cells.length ≠ 0 := fun q => h3 (List.eq_nil_of_length_eq_zero q)
      omega
    have a0 := Int.emod_nonneg pos (show (cells.length : Int) ≠ 0 by omega)
    have a1 := Int.emod_lt_of_pos pos hl
    -- the cell
    have hc : (pos % (cells.length : Int)).toNat < cells.length := by omega
    have hcell : atI (cells.map D.int) (pos % (cells.length : Int)) = some (.int cells[(pos % (cells.length : Int)).toNat]) := by
      rw [at_of _ _ a0 (by rw [List.length_map]; exact a1), List.getElem?_map, List.getElem?_eq_getElem hc]
      rfl
    have hnn := h5 _ (List.getElem_mem hc)
    generalize cells[(pos % (cells.length : Int)).toNat] = cell at hcell hnn
    simp only [evSs, evS, ev, evs, evL, evTs, evo, evI, evT, bind_ok, bind_bad, out_ok, out_bad, obind_nx, obind_rt, obind_bk, obind_ct, obind_bad, fin_nx, fin_rt, fin_bad, tru_bl, tru_non, tru_int, chD_bl, Mi.add_int, Mi.sub_int, Mi.lt_int, Mi.le_int, Mi.gt_int, Mi.ge_int, Mi.eq_int, Mi.ne_int, Mi.eq_bl, Mi.ne_bl, Mi.eq_str, Mi.ne_str, Mi.is_non, Mi.nis_non, Mi.is_bl, Mi.nis_bl, isn_non, isn_bl, isn_int, isn_str, isn_tup, isn_fl, isn_ref, Mi.bi_len, Mi.bi_abs, Mi.bi_int, Mi.bi_intb, Mi.bi_min, Mi.bi_max, Mi.len_str, Mi.len_tup, Mi.len_fl, isi_int, isi_bl, isi_str, isi_non, isi_tup, isi_fl, isTy, List.any_cons, List.any_nil, setT_nm, Mi.lstT_nm, Mi.lstT_tup, List.getElem?_cons_zero, List.getElem?_cons_succ, List.set_cons_zero, List.set_cons_succ, decide_eq_true_eq, Bool.or_false, Bool.or_true, Bool.false_or, Bool.true_or, Bool.not_true, Bool.not_false, Bool.false_eq_true, if_true, if_false, reduceIte, negD, optD, ne_eq, not_true_eq_false, not_false_eq_true, decide_true, decide_false, hs, ix_ref _ _ _ _ _ h1 (at_1 _ _ _), ix_ref _ _ _ _ _ h1 (at_0 _ _), Mi.len_ref _ _ _ h2, List.length_map, Mi.mod_int _ _ _ hl, ix_ref _ _ _ _ _ h2 hcell]
    have hset : ∀ v, setD (.ref c) (.int (pos % (cells.length : Int))) v m = some (m.set c (.lst ((cells.map D.int).set (pos % (cells.length : Int)).toNat v))) := fun v => set_ref c _ _ v m h2 a0 (by rw [List.length_map]; exact a1)
    have h0m : (0 : Int) < most := by omega
    have b0 := Int.emod_nonneg cell (show most ≠ 0 by omega)
    have b1 := Int.emod_lt_of_pos cell h0m
    have hslt := (List.getElem?_eq_some_iff.mp h1).1
    have hclt := (List.getElem?_eq_some_iff.mp h2).1
    by_cases hb : 1000000000000000000 ≤ cell
    · refine ⟨cell % most, m.set c (.lst ((cells.set (pos % (cells.length : Int)).toNat (cell / most)).map D.int)), ?_, b0, .inl b1, ⟨⟨pos, cells.set (pos % (cells.length : Int)).toNat (cell / most), ?_, ?_, ?_, by rw [List.length_set]; exact h4, fun x hx => ?_, h6⟩, ne⟩, ?_⟩
      · simp only [evSs, evS, ev, evs, evL, evTs, evo, evI, evT, bind_ok, bind_bad, out_ok, out_bad, obind_nx, obind_rt, obind_bk, obind_ct, obind_bad, fin_nx, fin_rt, fin_bad, tru_bl, tru_non, tru_int, chD_bl, Mi.add_int, Mi.sub_int, Mi.lt_int, Mi.le_int, Mi.gt_int, Mi.ge_int, Mi.eq_int, Mi.ne_int, Mi.eq_bl, Mi.ne_bl, Mi.eq_str, Mi.ne_str, Mi.is_non, Mi.nis_non, Mi.is_bl, Mi.nis_bl, isn_non, isn_bl, isn_int, isn_str, isn_tup, isn_fl, isn_ref, Mi.bi_len, Mi.bi_abs, Mi.bi_int, Mi.bi_intb, Mi.bi_min, Mi.bi_max, Mi.len_str, Mi.len_tup, Mi.len_fl, isi_int, isi_bl, isi_str, isi_non, isi_tup, isi_fl, isTy, List.any_cons, List.any_nil, setT_nm, Mi.lstT_nm, Mi.lstT_tup, List.getElem?_cons_zero, List.getElem?_cons_succ, List.set_cons_zero, List.set_cons_succ, decide_eq_true_eq, Bool.or_false, Bool.or_true, Bool.false_or, Bool.true_or, Bool.not_true, Bool.not_false, Bool.false_eq_true, if_true, if_false, reduceIte, negD, optD, ne_eq, not_true_eq_false, not_false_eq_true, decide_true, decide_false, hb, Mi.fdiv_int _ _ _ ⟨h0m, hm⟩, hset, Mi.mod_int _ _ _ h0m, List.map_set]
      · rw [List.getElem?_set_ne (Ne.symm ne)]; exact h1
      · rw [List.getElem?_set_self hclt]
      · intro q
        exact h3 (by simpa using q)
      · rcases List.mem_or_eq_of_mem_set hx with q | q
        · exact h5 x q
        · rw [q]; exact Int.ediv_nonneg hnn (by omega)
      · exact ⟨by simp, fun l o _ n2 e => by rw [List.getElem?_set_ne (Ne.symm n2)]; exact e⟩
    · have hs0 : setD (.ref s) (.int 0) (.int (pos + 1)) m = some (m.set s (.lst [.int (pos + 1), .ref c])) := set_ref s _ 0 _ m h1 (by omega) (by simp)
      have h1' : (m.set s (.lst [.int (pos + 1), .ref c]))[s]? = some (.lst [.int (pos + 1), .ref c]) := List.getElem?_set_self hslt
      have ix0 := ix_ref s _ 0 _ _ h1' (at_0 _ _)
      have f0 : ∀ (x : Int), 0 ≤ x % most ∧ x % most < most := fun x => ⟨Int.emod_nonneg x (by omega), Int.emod_lt_of_pos x h0m⟩
      refine ⟨_, m.set s (.lst [.int (pos + 1), .ref c]), ?_, (f0 ((((cell * 48271 + (pos + 1) * 69621) % 2147483647 * 16807 + (pos + 1) * 7919) % 1000000007) / 7)).1, .inl (f0 _).2, ⟨⟨pos + 1, cells, h1', by rw [List.getElem?_set_ne ne]; exact h2, h3, h4, h5, by omega⟩, ne⟩, ⟨by simp, fun l o n1 _ e => by rw [List.getElem?_set_ne (Ne.symm n1)]; exact e⟩⟩
      simp only [evSs, evS, ev, evs, evL, evTs, evo, evI, evT, bind_ok, bind_bad, out_ok, out_bad, obind_nx, obind_rt, obind_bk, obind_ct, obind_bad, fin_nx, fin_rt, fin_bad, tru_bl, tru_non, tru_int, chD_bl, Mi.add_int, Mi.sub_int, Mi.lt_int, Mi.le_int, Mi.gt_int, Mi.ge_int, Mi.eq_int, Mi.ne_int, Mi.eq_bl, Mi.ne_bl, Mi.eq_str, Mi.ne_str, Mi.is_non, Mi.nis_non, Mi.is_bl, Mi.nis_bl, isn_non, isn_bl, isn_int, isn_str, isn_tup, isn_fl, isn_ref, Mi.bi_len, Mi.bi_abs, Mi.bi_int, Mi.bi_intb, Mi.bi_min, Mi.bi_max, Mi.len_str, Mi.len_tup, Mi.len_fl, isi_int, isi_bl, isi_str, isi_non, isi_tup, isi_fl, isTy, List.any_cons, List.any_nil, setT_nm, Mi.lstT_nm, Mi.lstT_tup, List.getElem?_cons_zero, List.getElem?_cons_succ, List.set_cons_zero, List.set_cons_succ, decide_eq_true_eq, Bool.or_false, Bool.or_true, Bool.false_or, Bool.true_or, Bool.not_true, Bool.not_false, Bool.false_eq_true, if_true, if_false, reduceIte, negD, optD, ne_eq, not_true_eq_false, not_false_eq_true, decide_true, decide_false, hb, ix_ref _ _ _ _ _ h1 (at_0 _ _), hs0, ix0, mulR _ 48271 _ (sm _ (by decide)), mulR _ 69621 _ (sm _ (by decide)), mulR _ 16807 _ (sm _ (by decide)), mulR _ 7919 _ (sm _ (by decide)), Mi.mod_int _ 2147483647 _ (by decide), Mi.mod_int _ 1000000007 _ (by decide), Mi.fdiv_int _ 7 _ (by decide), Mi.mod_int _ _ _ h0m]
theorem app_last (m : M) (o : O) : (m ++ [o])[m.length]? = some o := by simp
theorem app_old {m : M} {l : Nat} {o : O} (h : m[l]? = some o) (g : M) : (m ++ g)[l]? = some o := by
  rw [List.getElem?_append_left (List.getElem?_eq_some_iff.mp h).1]
  exact h
theorem cut63 (xs : List D) (h : xs.length ≤ 63) : cutD xs none (some 63) = xs := by
  unfold cutD
  have e : HT.sIx xs.length xs.length (some 63) = xs.length := by
    show (if (63 : Int) < 0 then ((63 : Int) + (xs.length : Int)).toNat else min (63 : Int).toNat xs.length) = xs.length
    rw [if_neg (by decide)]
    have : (63 : Int).toNat = 63 := rfl
    omega
  rw [e]
  show (xs.drop 0).take (xs.length - 0) = xs
  rw [List.drop_zero, Nat.sub_zero, List.take_length]
def absI (i : Int) : Int := if i < 0 then -i else i
theorem absI_nn (i : Int) : 0 ≤ absI i := by unfold absI; split <;> omega
theorem run_cons (C : Mi.Cx) (s : S) (r : Ss) (σ : Sl) (m : M) : evSs C (.cons s r) σ m = (evS C s σ m).bind fun σ1 m1 => evSs C r σ1 m1 := by rw [evSs]
theorem run_set (C : Mi.Cx) (x : Tg) (e : E) (σ : Sl) (m : M) (d : D) (m1 : M) (h : ev C e σ m = .ok d m1) : evS C (.set x e) σ m = (match setT x (lstT x d m1) σ with
    | some σ1 => .nx σ1 m1
    | none => .bad) := by
  rw [evS, h]
  rfl
theorem run_lc (C : Mi.Cx) (vs : List Nat) (x : Tg) (it : Mi.It) (ts : Es) (e : E) (σ : Sl) (m m1 m2 : M) (v : IV) (ds : List D) (h1 : evI C it σ m = .ok v m1) (h2 : lcD (fun d => setT x d (wipeM σ vs)) v.stands (evTs C ts) (ev C e) v.xs [] m1 = .ok ds m2) : ev C (.lc vs x it ts e) σ m = .ok (.ref m2.length) (m2 ++ [.lst ds]) := by
  rw [ev, h1]
  show (lcD _ _ _ _ _ _ _).bind _ = _
  rw [h2]
  rfl
theorem state_s (C : Mi.Cx) (ns : List Int) (m : M) (h : ns.length ≤ 63) :
    ∃ (s c : Nat) (m' : M), (evSs C B_state [some (.fl (ns.map D.int)), none, none] m).fin = .ok (.ref s) m' ∧ St m' s c ∧ m.length ≤ s ∧ m.length ≤ c ∧ ∃ g, m' = m ++ g := by
  have e1 : slD (.fl (ns.map D.int)) none (some 63) m = .ok (.ref m.length) (m ++ [.lst (ns.map D.int)]) := by
    show alloc (cutD (ns.map D.int) none (some 63)) m = _
    rw [cut63 _ (by simpa using h)]
    rfl
  have e2 : iterD (.ref m.length) (m ++ [.lst (ns.map D.int)]) = .ok (.held m.length (ns.map D.int)) (m ++ [.lst (ns.map D.int)]) := by
    unfold iterD
    simp only [app_last]
  have e3 := lc_map (fun d => setT (.nm 2) d (wipeM [some (.fl (ns.map D.int)), none, none] [2])) (IV.held m.length (ns.map D.int)).stands (evTs C .nil) (ev C (.bi .abs (.cons (.var 2) .nil))) D.int (fun i => D.int (absI i)) (m ++ [O.lst (ns.map D.int)]) (show (m ++ [O.lst (ns.map D.int)])[m.length]? = some (.lst (ns.map D.int)) from app_last m (.lst (ns.map D.int))) (fun _ _ => by rw [evTs]) ns [] (fun x _ => ⟨_, rfl, by simp only [evSs, evS, ev, evs, evL, evTs, evo, evI, evT, bind_ok, bind_bad, out_ok, out_bad, obind_nx, obind_rt, obind_bk, obind_ct, obind_bad, fin_nx, fin_rt, fin_bad, tru_bl, tru_non, tru_int, chD_bl, Mi.add_int, Mi.sub_int, Mi.lt_int, Mi.le_int, Mi.gt_int, Mi.ge_int, Mi.eq_int, Mi.ne_int, Mi.eq_bl, Mi.ne_bl, Mi.eq_str, Mi.ne_str, Mi.is_non, Mi.nis_non, Mi.is_bl, Mi.nis_bl, isn_non, isn_bl, isn_int, isn_str, isn_tup, isn_fl, isn_ref, Mi.bi_len, Mi.bi_abs, Mi.bi_int, Mi.bi_intb, Mi.bi_min, Mi.bi_max, Mi.len_str, Mi.len_tup, Mi.len_fl, isi_int, isi_bl, isi_str, isi_non, isi_tup, isi_fl, isTy, List.any_cons, List.any_nil, setT_nm, Mi.lstT_nm, Mi.lstT_tup, List.getElem?_cons_zero, List.getElem?_cons_succ, List.set_cons_zero, List.set_cons_succ, decide_eq_true_eq, Bool.or_false, Bool.or_true, Bool.false_or, Bool.true_or, Bool.not_true, Bool.not_false, Bool.false_eq_true, if_true, if_false, reduceIte, negD, optD, ne_eq, not_true_eq_false, not_false_eq_true, decide_true, decide_false, wipeM]; rfl⟩)
  rw [List.nil_append] at e3
  have e4 : evI C (.seq (.sl (.var 0) .no (.so (.cst (.int 63))))) [some (.fl (ns.map D.int)), none, none] m = .ok (.held m.length (ns.map D.int)) (m ++ [.lst (ns.map D.int)]) := by
    simp only [evSs, evS, ev, evs, evL, evTs, evo, evI, evT, bind_ok, bind_bad, out_ok, out_bad, obind_nx, obind_rt, obind_bk, obind_ct, obind_bad, fin_nx, fin_rt, fin_bad, tru_bl, tru_non, tru_int, chD_bl, Mi.add_int, Mi.sub_int, Mi.lt_int, Mi.le_int, Mi.gt_int, Mi.ge_int, Mi.eq_int, Mi.ne_int, Mi.eq_bl, Mi.ne_bl, Mi.eq_str, Mi.ne_str, Mi.is_non, Mi.nis_non, Mi.is_bl, Mi.nis_bl, isn_non, isn_bl, isn_int, isn_str, isn_tup, isn_fl, isn_ref, Mi.bi_len, Mi.bi_abs, Mi.bi_int, Mi.bi_intb, Mi.bi_min, Mi.bi_max, Mi.len_str, Mi.len_tup, Mi.len_fl, isi_int, isi_bl, isi_str, isi_non, isi_tup, isi_fl, isTy, List.any_cons, List.any_nil, setT_nm, Mi.lstT_nm, Mi.lstT_tup, List.getElem?_cons_zero, List.getElem?_cons_succ, List.set_cons_zero, List.set_cons_succ, decide_eq_true_eq, Bool.or_false, Bool.or_true, Bool.false_or, Bool.true_or, Bool.not_true, Bool.not_false, Bool.false_eq_true, if_true, if_false, reduceIte, negD, optD, ne_eq, not_true_eq_false, not_false_eq_true, decide_true, decide_false, e1, e2]
  have e5 := run_set C (.nm 1) _ _ _ _ _ (run_lc C [2] (.nm 2) _ .nil _ _ m _ _ _ _ e4 e3)
  unfold B_state
  rw [run_cons, e5]
  generalize hm1 : m ++ [O.lst (ns.map D.int)] = m1 at *
  have hcs : (ns.map fun i => D.int (absI i)) = (ns.map absI).map D.int := by rw [List.map_map]; rfl
  rw [hcs]
  generalize hc : ns.map absI = cs
  have l1 : m1.length = m.length + 1 := by rw [← hm1]; simp
  have nn : ∀ x ∈ cs, 0 ≤ x := by
    rw [← hc]
    intro x hx
    obtain ⟨y, _, rfl⟩ := List.mem_map.mp hx
    exact absI_nn y
  have h63 : cs.length ≤ 63 := by rw [← hc, List.length_map]; exact h
  by_cases hz : cs = []
  · subst hz
    refine ⟨m.length + 3, m.length + 2, m ++ [.lst (ns.map D.int), .lst [], .lst [.int 0], .lst [.int 0, .ref (m.length + 2)]], ?_, ⟨⟨0, [0], by simp, by simp, by simp, by simp, by simp, by decide⟩, by omega⟩, by omega, by omega, _, rfl⟩
    have f1 : (m1 ++ [O.lst ([].map D.int)])[m1.length]? = some (.lst []) := app_last _ _
    have := Mi.len_ref _ _ _ f1
    simp only [evSs, evS, ev, evs, evL, evTs, evo, evI, evT, bind_ok, bind_bad, out_ok, out_bad, obind_nx, obind_rt, obind_bk, obind_ct, obind_bad, fin_nx, fin_rt, fin_bad, tru_bl, tru_non, tru_int, chD_bl, Mi.add_int, Mi.sub_int, Mi.lt_int, Mi.le_int, Mi.gt_int, Mi.ge_int, Mi.eq_int, Mi.ne_int, Mi.eq_bl, Mi.ne_bl, Mi.eq_str, Mi.ne_str, Mi.is_non, Mi.nis_non, Mi.is_bl, Mi.nis_bl, isn_non, isn_bl, isn_int, isn_str, isn_tup, isn_fl, isn_ref, Mi.bi_len, Mi.bi_abs, Mi.bi_int, Mi.bi_intb, Mi.bi_min, Mi.bi_max, Mi.len_str, Mi.len_tup, Mi.len_fl, isi_int, isi_bl, isi_str, isi_non, isi_tup, isi_fl, isTy, List.any_cons, List.any_nil, setT_nm, Mi.lstT_nm, Mi.lstT_tup, List.getElem?_cons_zero, List.getElem?_cons_succ, List.set_cons_zero, List.set_cons_succ, decide_eq_true_eq, Bool.or_false, Bool.or_true, Bool.false_or, Bool.true_or, Bool.not_true, Bool.not_false, Bool.false_eq_true, if_true, if_false, reduceIte, negD, optD, ne_eq, not_true_eq_false, not_false_eq_true, decide_true, decide_false, this, Mi.alloc, List.length_nil, Int.ofNat_eq_natCast, Int.cast_ofNat_Int, Int.natCast_zero]
    simp [← hm1]
  · refine ⟨m.length + 2, m.length + 1, m ++ [.lst (ns.map D.int), .lst (cs.map D.int), .lst [.int 0, .ref (m.length + 1)]], ?_, ⟨⟨0, cs, by simp, by simp, hz, h63, nn, by decide⟩, by omega⟩, by omega, by omega, _, rfl⟩
    have f1 : (m1 ++ [O.lst (cs.map D.int)])[m1.length]? = some (.lst (cs.map D.int)) := app_last _ _
    have := Mi.len_ref _ _ _ f1
    have hl : ((cs.map D.int).length : Int) ≠ 0 := by
      rw [List.length_map]
      have : cs.length ≠ 0 := fun q => hz (List.eq_nil_of_length_eq_zero q)
      omega
    simp only [evSs, evS, ev, evs, evL, evTs, evo, evI, evT, bind_ok, bind_bad, out_ok, out_bad, obind_nx, obind_rt, obind_bk, obind_ct, obind_bad, fin_nx, fin_rt, fin_bad, tru_bl, tru_non, tru_int, chD_bl, Mi.add_int, Mi.sub_int, Mi.lt_int, Mi.le_int, Mi.gt_int, Mi.ge_int, Mi.eq_int, Mi.ne_int, Mi.eq_bl, Mi.ne_bl, Mi.eq_str, Mi.ne_str, Mi.is_non, Mi.nis_non, Mi.is_bl, Mi.nis_bl, isn_non, isn_bl, isn_int, isn_str, isn_tup, isn_fl, isn_ref, Mi.bi_len, Mi.bi_abs, Mi.bi_int, Mi.bi_intb, Mi.bi_min, Mi.bi_max, Mi.len_str, Mi.len_tup, Mi.len_fl, isi_int, isi_bl, isi_str, isi_non, isi_tup, isi_fl, isTy, List.any_cons, List.any_nil, setT_nm, Mi.lstT_nm, Mi.lstT_tup, List.getElem?_cons_zero, List.getElem?_cons_succ, List.set_cons_zero, List.set_cons_succ, decide_eq_true_eq, Bool.or_false, Bool.or_true, Bool.false_or, Bool.true_or, Bool.not_true, Bool.not_false, Bool.false_eq_true, if_true, if_false, reduceIte, negD, optD, ne_eq, not_true_eq_false, not_false_eq_true, decide_true, decide_false, this, Mi.alloc, hl]
    simp [← hm1]
end
end Dr

set_option linter.all false
set_option autoImplicit false
set_option Elab.async false
set_option maxRecDepth 100000
set_option maxHeartbeats 4000000
/-! Dr2: pick, number, same. -/
namespace Dr
noncomputable section
open PySem L2 Mi
def B_pick (ft : Nat) : Ss :=
(.cons (.ret (.ix (.var 1) (.fn "_law_take" ft (.cons (.var 0) (.cons (.bi .len (.cons (.var 1) .nil)) .nil)))))
 .nil)
def B_same (f : Nat) : Ss :=
(.cons (.ife (.cmp .is (.var 1) (.cst .non)) (.cons (.ret (.cmp .is (.var 0) (.cst .non)))
 .nil) .nil)
 (.cons (.ife (.isi (.var 1) false [.bool, .str]) (.cons (.ret (.and (.cmp .eq (.isi (.var 0) true [.bool]) (.isi (.var 1) true [.bool])) (.and (.cmp .eq (.isi (.var 0) true [.str]) (.isi (.var 1) true [.str])) (.cmp .eq (.var 0) (.var 1)))))
 .nil) .nil)
 (.cons (.ife (.isi (.var 1) true [.int]) (.cons (.ret (.and (.isi (.var 0) true [.int]) (.and (.nt (.isi (.var 0) true [.bool])) (.cmp .eq (.var 0) (.var 1)))))
 .nil) .nil)
 (.cons (.ife (.isi (.var 1) true [.dict]) (.cons (.ife (.or (.nt (.isi (.var 0) true [.dict])) (.cmp .ne (.bi .len (.cons (.var 0) .nil)) (.bi .len (.cons (.var 1) .nil)))) (.cons (.ret (.cst (.bl false)))
 .nil) .nil)
 (.cons (.ret (.bt .all (.lc [2] (.nm 2) (.seq (.var 1)) .nil (.and (.cmp .mem (.var 2) (.var 0)) (.fn "_law_same" f (.cons (.ix (.var 0) (.var 2)) (.cons (.ix (.var 1) (.var 2)) .nil)))))))
 .nil)) .nil)
 (.cons (.ife (.or (.cmp .ne (.isi (.var 0) true [.tuple]) (.isi (.var 1) true [.tuple])) (.or (.nt (.isi (.var 0) false [.tuple, .list])) (.cmp .ne (.bi .len (.cons (.var 0) .nil)) (.bi .len (.cons (.var 1) .nil))))) (.cons (.ret (.cst (.bl false)))
 .nil) .nil)
 (.cons (.ret (.bt .all (.lc [3] (.nm 3) (.rng1 (.bi .len (.cons (.var 1) .nil))) .nil (.fn "_law_same" f (.cons (.ix (.var 0) (.var 3)) (.cons (.ix (.var 1) (.var 3)) .nil))))))
 .nil))))))
def B_number (ft : Nat) : Ss :=
(.cons (.set (.nm 3) (.fn "_law_take" ft (.cons (.var 0) (.cons (.cst (.int 6)) .nil))))
 (.cons (.ife (.cmp .eq (.var 3) (.cst (.int 0))) (.cons (.ret (.var 1))
 .nil) .nil)
 (.cons (.ife (.cmp .eq (.var 3) (.cst (.int 1))) (.cons (.ret (.var 2))
 .nil) .nil)
 (.cons (.ife (.cmp .eq (.var 3) (.cst (.int 2))) (.cons (.ret (.bi .min (.cons (.var 2) (.cons (.bin .add (.bin .add (.var 1) (.cst (.int 1))) (.fn "_law_take" ft (.cons (.var 0) (.cons (.cst (.int 3)) .nil)))) .nil))))
 .nil) .nil)
 (.cons (.ife (.cmp .eq (.var 3) (.cst (.int 3))) (.cons (.ret (.bi .max (.cons (.var 1) (.cons (.bin .sub (.bin .sub (.var 2) (.cst (.int 1))) (.fn "_law_take" ft (.cons (.var 0) (.cons (.cst (.int 3)) .nil)))) .nil))))
 .nil) .nil)
 (.cons (.set (.nm 4) (.bin .add (.bin .sub (.var 2) (.var 1)) (.cst (.int 1))))
 (.cons (.ret (.bin .add (.var 1) (.bin .mod (.bi .int (.cons (.bin .add (.bin .mul (.fn "_law_take" ft (.cons (.var 0) (.cons (.cst (.int 65536)) .nil))) (.cst (.int 65536))) (.fn "_law_take" ft (.cons (.var 0) (.cons (.cst (.int 65536)) .nil)))) .nil)) (.var 4))))
 .nil)))))))
/-- a tuple (true) or list (false) of these items -/
inductive Sq (m : M) : Bool → D → List D → Prop where
  | tup (xs : List D) : Sq m true (.tup xs) xs
  | fl (xs : List D) : Sq m false (.fl xs) xs
  | ref (l : Nat) (xs : List D) (h : m[l]? = some (.lst xs)) : Sq m false (.ref l) xs
theorem Sq.len {m : M} {b : Bool} {d : D} {xs : List D} (h : Sq m b d xs) : lenD d m = .ok (.int xs.length) m := by
  cases h with
  | tup => rfl
  | fl => rfl
  | ref l _ h => exact Mi.len_ref l _ m h
theorem Sq.ix {m : M} {b : Bool} {d : D} {xs : List D} (h : Sq m b d xs) (k : Int) (x : D) (hx : atI xs k = some x) : ixD d (.int k) m = .ok x m := by
  cases h with
  | tup => exact ix_tup _ _ _ _ hx
  | fl => exact ix_fl _ _ _ _ hx
  | ref l _ h => exact ix_ref l _ _ _ m h hx
theorem Sq.isi {m : M} {b : Bool} {d : D} {xs : List D} (h : Sq m b d xs) (ts : List Ty) : isiD d ts m = .ok (.bl (ts.any (isTy (if b = true then .tuple else .list)))) m := by
  cases h with
  | tup => rfl
  | fl => rfl
  | ref l _ h => exact isi_ref l _ ts m h
theorem Sq.non {m : M} {b : Bool} {d : D} {xs : List D} (h : Sq m b d xs) : Mi.isNon d = false := by
  cases h <;> rfl
theorem Sq.app {m : M} {b : Bool} {d : D} {xs : List D} (h : Sq m b d xs) (g : M) : Sq (m ++ g) b d xs := by
  cases h with
  | tup => exact .tup _
  | fl => exact .fl _
  | ref l _ h => exact .ref l _ (app_old h g)
theorem Sq.kp {m m' : M} {b : Bool} {d : D} {xs : List D} {s c : Nat} (h : Sq m b d xs) (hk : Kp s c m m') (hd : ∀ l, d = .ref l → l ≠ s ∧ l ≠ c) : Sq m' b d xs := by
  cases h with
  | tup => exact .tup _
  | fl => exact .fl _
  | ref l _ h => exact .ref l _ (hk.at_ l _ (hd l rfl).1 (hd l rfl).2 h)
theorem pick_s (C : Mi.Cx) (ft : Nat) (ht : IsTake (C.call ft)) (s c : Nat) (b : Bool) (row : D) (xs : List D) (m : M) (h : St m s c) (hr : Sq m b row xs) (hx : xs ≠ []) (hl : xs.length < 1606938044258990275541962092341162602522202993782792835301376) (hn : ∀ l, row = .ref l → l ≠ s ∧ l ≠ c) :
    ∃ (x : D) (m' : M), (evSs C (B_pick ft) [some (.ref s), some row] m).fin = .ok x m' ∧ x ∈ xs ∧ St m' s c ∧ Kp s c m m' := by
  obtain ⟨r, m', e, h0, h1, h2, h3⟩ := ht s c xs.length m h (by omega)
  have hp : 0 < xs.length := List.length_pos_iff.mpr hx
  have hlt : r.toNat < xs.length := by omega
  refine ⟨xs[r.toNat], m', ?_, List.getElem_mem hlt, h2, h3⟩
  have i1 := (hr.kp h3 hn).ix r (xs[r.toNat]) (by rw [at_of _ _ h0 (by omega), List.getElem?_eq_getElem hlt])
  unfold B_pick
  simp only [evSs, evS, ev, evs, evL, evTs, evo, evI, evT, bind_ok, bind_bad, out_ok, out_bad, obind_nx, obind_rt, obind_bk, obind_ct, obind_bad, fin_nx, fin_rt, fin_bad, tru_bl, tru_non, tru_int, chD_bl, Mi.add_int, Mi.sub_int, Mi.lt_int, Mi.le_int, Mi.gt_int, Mi.ge_int, Mi.eq_int, Mi.ne_int, Mi.eq_bl, Mi.ne_bl, Mi.eq_str, Mi.ne_str, Mi.is_non, Mi.nis_non, Mi.is_bl, Mi.nis_bl, isn_non, isn_bl, isn_int, isn_str, isn_tup, isn_fl, isn_ref, Mi.bi_len, Mi.bi_abs, Mi.bi_int, Mi.bi_intb, Mi.bi_min, Mi.bi_max, Mi.len_str, Mi.len_tup, Mi.len_fl, isi_int, isi_bl, isi_str, isi_non, isi_tup, isi_fl, isTy, List.any_cons, List.any_nil, setT_nm, Mi.lstT_nm, Mi.lstT_tup, List.getElem?_cons_zero, List.getElem?_cons_succ, List.set_cons_zero, List.set_cons_succ, decide_eq_true_eq, Bool.or_false, Bool.or_true, Bool.false_or, Bool.true_or, Bool.not_true, Bool.not_false, Bool.false_eq_true, if_true, if_false, reduceIte, negD, optD, ne_eq, not_true_eq_false, not_false_eq_true, decide_true, decide_false, hr.len, e, i1]
def IsPick (g : List D → M → R D) : Prop := ∀ (s c : Nat) (b : Bool) (row : D) (xs : List D) (m : M), St m s c → Sq m b row xs → xs ≠ [] → xs.length < 1606938044258990275541962092341162602522202993782792835301376 → (∀ l, row = .ref l → l ≠ s ∧ l ≠ c) →
    ∃ (x : D) (m' : M), g [.ref s, row] m = .ok x m' ∧ x ∈ xs ∧ St m' s c ∧ Kp s c m m'
def IsNum (g : List D → M → R D) : Prop := ∀ (s c : Nat) (lo hi : Int) (m : M), St m s c → lo ≤ hi →
    ∃ (r : Int) (m' : M), g [.ref s, .int lo, .int hi] m = .ok (.int r) m' ∧ lo ≤ r ∧ r ≤ hi ∧ St m' s c ∧ Kp s c m m'
theorem number_s (C : Mi.Cx) (ft : Nat) (ht : IsTake (C.call ft)) (s c : Nat) (lo hi : Int) (m : M) (h : St m s c) (hh : lo ≤ hi) :
    ∃ (r : Int) (m' : M), (evSs C (B_number ft) [some (.ref s), some (.int lo), some (.int hi), none, none] m).fin = .ok (.int r) m' ∧ lo ≤ r ∧ r ≤ hi ∧ St m' s c ∧ Kp s c m m' := by
  obtain ⟨k, m1, e1, k0, k1, s1, p1⟩ := ht s c 6 m h (by decide)
  unfold B_number
  by_cases a0 : k = 0
  · exact ⟨lo, m1, by simp only [evSs, evS, ev, evs, evL, evTs, evo, evI, evT, bind_ok, bind_bad, out_ok, out_bad, obind_nx, obind_rt, obind_bk, obind_ct, obind_bad, fin_nx, fin_rt, fin_bad, tru_bl, tru_non, tru_int, chD_bl, Mi.add_int, Mi.sub_int, Mi.lt_int, Mi.le_int, Mi.gt_int, Mi.ge_int, Mi.eq_int, Mi.ne_int, Mi.eq_bl, Mi.ne_bl, Mi.eq_str, Mi.ne_str, Mi.is_non, Mi.nis_non, Mi.is_bl, Mi.nis_bl, isn_non, isn_bl, isn_int, isn_str, isn_tup, isn_fl, isn_ref, Mi.bi_len, Mi.bi_abs, Mi.bi_int, Mi.bi_intb, Mi.bi_min, Mi.bi_max, Mi.len_str, Mi.len_tup, Mi.len_fl, isi_int, isi_bl, isi_str, isi_non, isi_tup, isi_fl, isTy, List.any_cons, List.any_nil, setT_nm, Mi.lstT_nm, Mi.lstT_tup, List.getElem?_cons_zero, List.getElem?_cons_succ, List.set_cons_zero, List.set_cons_succ, decide_eq_true_eq, Bool.or_false, Bool.or_true, Bool.false_or, Bool.true_or, Bool.not_true, Bool.not_false, Bool.false_eq_true, if_true, if_false, reduceIte, negD, optD, ne_eq, not_true_eq_false, not_false_eq_true, decide_true, decide_false, e1, a0], by omega, by omega, s1, p1⟩
  by_cases a1 : k = 1
  · exact ⟨hi, m1, by simp only [evSs, evS, ev, evs, evL, evTs, evo, evI, evT, bind_ok, bind_bad, out_ok, out_bad, obind_nx, obind_rt, obind_bk, obind_ct, obind_bad, fin_nx, fin_rt, fin_bad, tru_bl, tru_non, tru_int, chD_bl, Mi.add_int, Mi.sub_int, Mi.lt_int, Mi.le_int, Mi.gt_int, Mi.ge_int, Mi.eq_int, Mi.ne_int, Mi.eq_bl, Mi.ne_bl, Mi.eq_str, Mi.ne_str, Mi.is_non, Mi.nis_non, Mi.is_bl, Mi.nis_bl, isn_non, isn_bl, isn_int, isn_str, isn_tup, isn_fl, isn_ref, Mi.bi_len, Mi.bi_abs, Mi.bi_int, Mi.bi_intb, Mi.bi_min, Mi.bi_max, Mi.len_str, Mi.len_tup, Mi.len_fl, isi_int, isi_bl, isi_str, isi_non, isi_tup, isi_fl, isTy, List.any_cons, List.any_nil, setT_nm, Mi.lstT_nm, Mi.lstT_tup, List.getElem?_cons_zero, List.getElem?_cons_succ, List.set_cons_zero, List.set_cons_succ, decide_eq_true_eq, Bool.or_false, Bool.or_true, Bool.false_or, Bool.true_or, Bool.not_true, Bool.not_false, Bool.false_eq_true, if_true, if_false, reduceIte, negD, optD, ne_eq, not_true_eq_false, not_false_eq_true, decide_true, decide_false, e1, a1, show ¬ (1 : Int) = 0 by decide], by omega, by omega, s1, p1⟩
  by_cases a2 : k = 2
  · obtain ⟨j, m2, e2, j0, j1, s2, p2⟩ := ht s c 3 m1 s1 (by decide)
    refine ⟨if lo + 1 + j < hi then lo + 1 + j else hi, m2, by simp only [evSs, evS, ev, evs, evL, evTs, evo, evI, evT, bind_ok, bind_bad, out_ok, out_bad, obind_nx, obind_rt, obind_bk, obind_ct, obind_bad, fin_nx, fin_rt, fin_bad, tru_bl, tru_non, tru_int, chD_bl, Mi.add_int, Mi.sub_int, Mi.lt_int, Mi.le_int, Mi.gt_int, Mi.ge_int, Mi.eq_int, Mi.ne_int, Mi.eq_bl, Mi.ne_bl, Mi.eq_str, Mi.ne_str, Mi.is_non, Mi.nis_non, Mi.is_bl, Mi.nis_bl, isn_non, isn_bl, isn_int, isn_str, isn_tup, isn_fl, isn_ref, Mi.bi_len, Mi.bi_abs, Mi.bi_int, Mi.bi_intb, Mi.bi_min, Mi.bi_max, Mi.len_str, Mi.len_tup, Mi.len_fl, isi_int, isi_bl, isi_str, isi_non, isi_tup, isi_fl, isTy, List.any_cons, List.any_nil, setT_nm, Mi.lstT_nm, Mi.lstT_tup, List.getElem?_cons_zero, List.getElem?_cons_succ, List.set_cons_zero, List.set_cons_succ, decide_eq_true_eq, Bool.or_false, Bool.or_true, Bool.false_or, Bool.true_or, Bool.not_true, Bool.not_false, Bool.false_eq_true, if_true, if_false, reduceIte, negD, optD, ne_eq, not_true_eq_false, not_false_eq_true, decide_true, decide_false, e1, a2, e2, show ¬ (2 : Int) = 0 by decide, show ¬ (2 : Int) = 1 by decide], ?_, ?_, s2, p1.trans p2⟩
    · split <;> omega
    · split <;> omega
  by_cases a3 : k = 3
  · obtain ⟨j, m2, e2, j0, j1, s2, p2⟩ := ht s c 3 m1 s1 (by decide)
    refine ⟨if hi - 1 - j > lo then hi - 1 - j else lo, m2, by simp only [evSs, evS, ev, evs, evL, evTs, evo, evI, evT, bind_ok, bind_bad, out_ok, out_bad, obind_nx, obind_rt, obind_bk, obind_ct, obind_bad, fin_nx, fin_rt, fin_bad, tru_bl, tru_non, tru_int, chD_bl, Mi.add_int, Mi.sub_int, Mi.lt_int, Mi.le_int, Mi.gt_int, Mi.ge_int, Mi.eq_int, Mi.ne_int, Mi.eq_bl, Mi.ne_bl, Mi.eq_str, Mi.ne_str, Mi.is_non, Mi.nis_non, Mi.is_bl, Mi.nis_bl, isn_non, isn_bl, isn_int, isn_str, isn_tup, isn_fl, isn_ref, Mi.bi_len, Mi.bi_abs, Mi.bi_int, Mi.bi_intb, Mi.bi_min, Mi.bi_max, Mi.len_str, Mi.len_tup, Mi.len_fl, isi_int, isi_bl, isi_str, isi_non, isi_tup, isi_fl, isTy, List.any_cons, List.any_nil, setT_nm, Mi.lstT_nm, Mi.lstT_tup, List.getElem?_cons_zero, List.getElem?_cons_succ, List.set_cons_zero, List.set_cons_succ, decide_eq_true_eq, Bool.or_false, Bool.or_true, Bool.false_or, Bool.true_or, Bool.not_true, Bool.not_false, Bool.false_eq_true, if_true, if_false, reduceIte, negD, optD, ne_eq, not_true_eq_false, not_false_eq_true, decide_true, decide_false, e1, a3, e2, show ¬ (3 : Int) = 0 by decide, show ¬ (3 : Int) = 1 by decide, show ¬ (3 : Int) = 2 by decide], ?_, ?_, s2, p1.trans p2⟩
    · split <;> omega
    · split <;> omega
  obtain ⟨j, m2, e2, j0, j1, s2, p2⟩ := ht s c 65536 m1 s1 (by decide)
  obtain ⟨i, m3, e3, i0, i1, s3, p3⟩ := ht s c 65536 m2 s2 (by decide)
  have hpos : 0 < hi - lo + 1 := by omega
  have b0 := Int.emod_nonneg (j * 65536 + i) (show hi - lo + 1 ≠ 0 by omega)
  have b1 := Int.emod_lt_of_pos (j * 65536 + i) hpos
  refine ⟨lo + (j * 65536 + i) % (hi - lo + 1), m3, by simp only [evSs, evS, ev, evs, evL, evTs, evo, evI, evT, bind_ok, bind_bad, out_ok, out_bad, obind_nx, obind_rt, obind_bk, obind_ct, obind_bad, fin_nx, fin_rt, fin_bad, tru_bl, tru_non, tru_int, chD_bl, Mi.add_int, Mi.sub_int, Mi.lt_int, Mi.le_int, Mi.gt_int, Mi.ge_int, Mi.eq_int, Mi.ne_int, Mi.eq_bl, Mi.ne_bl, Mi.eq_str, Mi.ne_str, Mi.is_non, Mi.nis_non, Mi.is_bl, Mi.nis_bl, isn_non, isn_bl, isn_int, isn_str, isn_tup, isn_fl, isn_ref, Mi.bi_len, Mi.bi_abs, Mi.bi_int, Mi.bi_intb, Mi.bi_min, Mi.bi_max, Mi.len_str, Mi.len_tup, Mi.len_fl, isi_int, isi_bl, isi_str, isi_non, isi_tup, isi_fl, isTy, List.any_cons, List.any_nil, setT_nm, Mi.lstT_nm, Mi.lstT_tup, List.getElem?_cons_zero, List.getElem?_cons_succ, List.set_cons_zero, List.set_cons_succ, decide_eq_true_eq, Bool.or_false, Bool.or_true, Bool.false_or, Bool.true_or, Bool.not_true, Bool.not_false, Bool.false_eq_true, if_true, if_false, reduceIte, negD, optD, ne_eq, not_true_eq_false, not_false_eq_true, decide_true, decide_false, e1, e2, e3, a0, a1, a2, a3, mulR _ 65536 _ (sm _ (by decide)), Mi.mod_int _ _ _ hpos], by omega, by omega, s3, (p1.trans p2).trans p3⟩
/-- the same value, so deep at most -/
def Sm : Nat → M → D → D → Prop
  | 0, _, _, _ => False
  | n + 1, m, t, d => (t = .non ∧ d = .non) ∨ (∃ b, t = .bl b ∧ d = .bl b) ∨ (∃ i, t = .int i ∧ d = .int i) ∨ (∃ x, t = .str x ∧ d = .str x) ∨
    ∃ (b : Bool) (xs ys : List D), Sq m b t xs ∧ Sq m b d ys ∧ xs.length = ys.length ∧ ys.length ≤ line ∧ ∀ (i : Nat) (x y : D), xs[i]? = some x → ys[i]? = some y → Sm n m x y
theorem all_true (n : Nat) : ((List.replicate n true).all id) = true := by
  rw [List.all_eq_true]
  intro x hx
  rw [(List.mem_replicate.mp hx).2]
  rfl
theorem Sm.mono {m : M} : ∀ {n k : Nat} {t d : D}, Sm n m t d → n ≤ k → Sm k m t d
  | 0, _, _, _, h, _ => h.elim
  | n + 1, 0, _, _, _, h => absurd h (by omega)
  | n + 1, k + 1, t, d, h, hk => by
    unfold Sm at h ⊢
    rcases h with h | h | h | h | ⟨b, xs, ys, h1, h2, h3, h4, h5⟩
    · exact .inl h
    · exact .inr (.inl h)
    · exact .inr (.inr (.inl h))
    · exact .inr (.inr (.inr (.inl h)))
    · exact .inr (.inr (.inr (.inr ⟨b, xs, ys, h1, h2, h3, h4, fun i x y e1 e2 => (h5 i x y e1 e2).mono (by omega)⟩)))
theorem sm_int (n : Nat) (m : M) (i : Int) : Sm (n + 1) m (.int i) (.int i) := .inr (.inr (.inl ⟨i, rfl, rfl⟩))
theorem sm_bl (n : Nat) (m : M) (i : Bool) : Sm (n + 1) m (.bl i) (.bl i) := .inr (.inl ⟨i, rfl, rfl⟩)
theorem sm_str (n : Nat) (m : M) (i : Str) : Sm (n + 1) m (.str i) (.str i) := .inr (.inr (.inr (.inl ⟨i, rfl, rfl⟩)))
theorem sm_non (n : Nat) (m : M) : Sm (n + 1) m .non .non := .inl ⟨rfl, rfl⟩
/-- alike pointwise -/
inductive Sms (n : Nat) (m : M) : List D → List D → Prop where
  | nil : Sms n m [] []
  | cons (x y : D) (xs ys : List D) (h : Sm n m x y) (r : Sms n m xs ys) : Sms n m (x :: xs) (y :: ys)
theorem Sms.len {n : Nat} {m : M} {xs ys : List D} (h : Sms n m xs ys) : xs.length = ys.length := by
  induction h with
  | nil => rfl
  | cons x y xs ys h r ih => simp [ih]
theorem Sms.at_ {n : Nat} {m : M} {xs ys : List D} (h : Sms n m xs ys) : ∀ (i : Nat) (x y : D), xs[i]? = some x → ys[i]? = some y → Sm n m x y := by
  induction h with
  | nil => intro i x y e; simp at e
  | cons x y xs ys h r ih =>
    intro i x' y' e1 e2
    cases i with
    | zero => simp at e1 e2; subst e1; subst e2; exact h
    | succ i => simp at e1 e2; exact ih i _ _ e1 e2
theorem Sms.map {α : Type} (n : Nat) (m : M) (f g : α → D) : ∀ (xs : List α), (∀ x ∈ xs, Sm n m (f x) (g x)) → Sms n m (xs.map f) (xs.map g)
  | [], _ => .nil
  | x :: xs, h => .cons _ _ _ _ (h x List.mem_cons_self) (Sms.map n m f g xs fun y hy => h y (List.mem_cons_of_mem _ hy))
theorem sm_sq (n : Nat) (m : M) (b : Bool) (t d : D) (xs ys : List D) (h1 : Sq m b t xs) (h2 : Sq m b d ys) (hl : ys.length ≤ line) (h : Sms n m xs ys) : Sm (n + 1) m t d := .inr (.inr (.inr (.inr ⟨b, xs, ys, h1, h2, h.len, hl, h.at_⟩)))
theorem rng_len (n : Nat) (m : M) (h : n ≤ line) : rngD (.int 0) (.int n) m = .ok (.free ((List.range n).map fun k => .int (k : Nat))) m := by
  unfold line at h
  rw [rng_ok _ _ _ ⟨by omega, by omega, by omega, by omega, by omega⟩]
  have e1 : ((n : Int) - 0).toNat = n := by omega
  rw [e1]
  have e2 : (fun k : Nat => D.int (0 + (k : Int))) = fun k : Nat => D.int k := by
    funext k
    rw [Int.zero_add]
  rw [e2]
theorem same_step (C : Mi.Cx) (f : Nat) (n : Nat) (ih : ∀ (t d : D) (m : M), Sm n m t d → C.call f [t, d] m = .ok (.bl true) m) (t d : D) (m : M) (h : Sm (n + 1) m t d) :
    (evSs C (B_same f) [some t, some d, none, none] m).fin = .ok (.bl true) m := by
    unfold B_same
    rcases h with ⟨rfl, rfl⟩ | ⟨b, rfl, rfl⟩ | ⟨i, rfl, rfl⟩ | ⟨x, rfl, rfl⟩ | ⟨b, xs, ys, h1, h2, h3, h4, h5⟩
    · simp only [evSs, evS, ev, evs, evL, evTs, evo, evI, evT, bind_ok, bind_bad, out_ok, out_bad, obind_nx, obind_rt, obind_bk, obind_ct, obind_bad, fin_nx, fin_rt, fin_bad, tru_bl, tru_non, tru_int, chD_bl, Mi.add_int, Mi.sub_int, Mi.lt_int, Mi.le_int, Mi.gt_int, Mi.ge_int, Mi.eq_int, Mi.ne_int, Mi.eq_bl, Mi.ne_bl, Mi.eq_str, Mi.ne_str, Mi.is_non, Mi.nis_non, Mi.is_bl, Mi.nis_bl, isn_non, isn_bl, isn_int, isn_str, isn_tup, isn_fl, isn_ref, Mi.bi_len, Mi.bi_abs, Mi.bi_int, Mi.bi_intb, Mi.bi_min, Mi.bi_max, Mi.len_str, Mi.len_tup, Mi.len_fl, isi_int, isi_bl, isi_str, isi_non, isi_tup, isi_fl, isTy, List.any_cons, List.any_nil, setT_nm, Mi.lstT_nm, Mi.lstT_tup, List.getElem?_cons_zero, List.getElem?_cons_succ, List.set_cons_zero, List.set_cons_succ, decide_eq_true_eq, Bool.or_false, Bool.or_true, Bool.false_or, Bool.true_or, Bool.not_true, Bool.not_false, Bool.false_eq_true, if_true, if_false, reduceIte, negD, optD, ne_eq, not_true_eq_false, not_false_eq_true, decide_true, decide_false]
    · simp only [evSs, evS, ev, evs, evL, evTs, evo, evI, evT, bind_ok, bind_bad, out_ok, out_bad, obind_nx, obind_rt, obind_bk, obind_ct, obind_bad, fin_nx, fin_rt, fin_bad, tru_bl, tru_non, tru_int, chD_bl, Mi.add_int, Mi.sub_int, Mi.lt_int, Mi.le_int, Mi.gt_int, Mi.ge_int, Mi.eq_int, Mi.ne_int, Mi.eq_bl, Mi.ne_bl, Mi.eq_str, Mi.ne_str, Mi.is_non, Mi.nis_non, Mi.is_bl, Mi.nis_bl, isn_non, isn_bl, isn_int, isn_str, isn_tup, isn_fl, isn_ref, Mi.bi_len, Mi.bi_abs, Mi.bi_int, Mi.bi_intb, Mi.bi_min, Mi.bi_max, Mi.len_str, Mi.len_tup, Mi.len_fl, isi_int, isi_bl, isi_str, isi_non, isi_tup, isi_fl, isTy, List.any_cons, List.any_nil, setT_nm, Mi.lstT_nm, Mi.lstT_tup, List.getElem?_cons_zero, List.getElem?_cons_succ, List.set_cons_zero, List.set_cons_succ, decide_eq_true_eq, Bool.or_false, Bool.or_true, Bool.false_or, Bool.true_or, Bool.not_true, Bool.not_false, Bool.false_eq_true, if_true, if_false, reduceIte, negD, optD, ne_eq, not_true_eq_false, not_false_eq_true, decide_true, decide_false]
    · simp only [evSs, evS, ev, evs, evL, evTs, evo, evI, evT, bind_ok, bind_bad, out_ok, out_bad, obind_nx, obind_rt, obind_bk, obind_ct, obind_bad, fin_nx, fin_rt, fin_bad, tru_bl, tru_non, tru_int, chD_bl, Mi.add_int, Mi.sub_int, Mi.lt_int, Mi.le_int, Mi.gt_int, Mi.ge_int, Mi.eq_int, Mi.ne_int, Mi.eq_bl, Mi.ne_bl, Mi.eq_str, Mi.ne_str, Mi.is_non, Mi.nis_non, Mi.is_bl, Mi.nis_bl, isn_non, isn_bl, isn_int, isn_str, isn_tup, isn_fl, isn_ref, Mi.bi_len, Mi.bi_abs, Mi.bi_int, Mi.bi_intb, Mi.bi_min, Mi.bi_max, Mi.len_str, Mi.len_tup, Mi.len_fl, isi_int, isi_bl, isi_str, isi_non, isi_tup, isi_fl, isTy, List.any_cons, List.any_nil, setT_nm, Mi.lstT_nm, Mi.lstT_tup, List.getElem?_cons_zero, List.getElem?_cons_succ, List.set_cons_zero, List.set_cons_succ, decide_eq_true_eq, Bool.or_false, Bool.or_true, Bool.false_or, Bool.true_or, Bool.not_true, Bool.not_false, Bool.false_eq_true, if_true, if_false, reduceIte, negD, optD, ne_eq, not_true_eq_false, not_false_eq_true, decide_true, decide_false]
    · simp only [evSs, evS, ev, evs, evL, evTs, evo, evI, evT, bind_ok, bind_bad, out_ok, out_bad, obind_nx, obind_rt, obind_bk, obind_ct, obind_bad, fin_nx, fin_rt, fin_bad, tru_bl, tru_non, tru_int, chD_bl, Mi.add_int, Mi.sub_int, Mi.lt_int, Mi.le_int, Mi.gt_int, Mi.ge_int, Mi.eq_int, Mi.ne_int, Mi.eq_bl, Mi.ne_bl, Mi.eq_str, Mi.ne_str, Mi.is_non, Mi.nis_non, Mi.is_bl, Mi.nis_bl, isn_non, isn_bl, isn_int, isn_str, isn_tup, isn_fl, isn_ref, Mi.bi_len, Mi.bi_abs, Mi.bi_int, Mi.bi_intb, Mi.bi_min, Mi.bi_max, Mi.len_str, Mi.len_tup, Mi.len_fl, isi_int, isi_bl, isi_str, isi_non, isi_tup, isi_fl, isTy, List.any_cons, List.any_nil, setT_nm, Mi.lstT_nm, Mi.lstT_tup, List.getElem?_cons_zero, List.getElem?_cons_succ, List.set_cons_zero, List.set_cons_succ, decide_eq_true_eq, Bool.or_false, Bool.or_true, Bool.false_or, Bool.true_or, Bool.not_true, Bool.not_false, Bool.false_eq_true, if_true, if_false, reduceIte, negD, optD, ne_eq, not_true_eq_false, not_false_eq_true, decide_true, decide_false]
    · have hr := rng_len ys.length m h4
      have e3 := lc_map (fun d' => setT (.nm 3) d' (wipeM [some t, some d, none, none] [3])) (IV.free ((List.range ys.length).map fun k => .int (k : Nat))).stands (evTs C .nil) (ev C (.fn "_law_same" f (.cons (.ix (.var 0) (.var 3)) (.cons (.ix (.var 1) (.var 3)) .nil)))) (fun k : Nat => D.int k) (fun _ => D.bl true) m trivial (fun _ _ => by rw [evTs]) (List.range ys.length) [] (fun i hi => ⟨_, rfl, by
          have hi' := List.mem_range.mp hi
          obtain ⟨y, hy⟩ : ∃ y, ys[i]? = some y := ⟨_, List.getElem?_eq_getElem hi'⟩
          obtain ⟨x, hx⟩ : ∃ x, xs[i]? = some x := ⟨_, List.getElem?_eq_getElem (h3 ▸ hi')⟩
          have a1 := h1.ix (i : Int) x ((at_nat xs i).trans hx)
          have a2 := h2.ix (i : Int) y ((at_nat ys i).trans hy)
          have a3 := ih _ _ m (h5 i x y hx hy)
          simp only [evSs, evS, ev, evs, evL, evTs, evo, evI, evT, bind_ok, bind_bad, out_ok, out_bad, obind_nx, obind_rt, obind_bk, obind_ct, obind_bad, fin_nx, fin_rt, fin_bad, tru_bl, tru_non, tru_int, chD_bl, Mi.add_int, Mi.sub_int, Mi.lt_int, Mi.le_int, Mi.gt_int, Mi.ge_int, Mi.eq_int, Mi.ne_int, Mi.eq_bl, Mi.ne_bl, Mi.eq_str, Mi.ne_str, Mi.is_non, Mi.nis_non, Mi.is_bl, Mi.nis_bl, isn_non, isn_bl, isn_int, isn_str, isn_tup, isn_fl, isn_ref, Mi.bi_len, Mi.bi_abs, Mi.bi_int, Mi.bi_intb, Mi.bi_min, Mi.bi_max, Mi.len_str, Mi.len_tup, Mi.len_fl, isi_int, isi_bl, isi_str, isi_non, isi_tup, isi_fl, isTy, List.any_cons, List.any_nil, setT_nm, Mi.lstT_nm, Mi.lstT_tup, List.getElem?_cons_zero, List.getElem?_cons_succ, List.set_cons_zero, List.set_cons_succ, decide_eq_true_eq, Bool.or_false, Bool.or_true, Bool.false_or, Bool.true_or, Bool.not_true, Bool.not_false, Bool.false_eq_true, if_true, if_false, reduceIte, negD, optD, ne_eq, not_true_eq_false, not_false_eq_true, decide_true, decide_false, wipeM, a1, a2, a3]⟩)
      rw [List.nil_append] at e3
      have e4 : evL C (.lc [3] (.nm 3) (.rng1 (.bi .len (.cons (.var 1) .nil))) .nil (.fn "_law_same" f (.cons (.ix (.var 0) (.var 3)) (.cons (.ix (.var 1) (.var 3)) .nil)))) [some t, some d, none, none] m = .ok ((List.range ys.length).map fun _ => D.bl true) m := by
        rw [evL]
        rw [show evI C (.rng1 (.bi .len (.cons (.var 1) .nil))) [some t, some d, none, none] m = .ok (.free ((List.range ys.length).map fun k => .int (k : Nat))) m by rw [evI, show ev C (.bi .len (.cons (.var 1) .nil)) [some t, some d, none, none] m = .ok (.int ys.length) m by simp only [evSs, evS, ev, evs, evL, evTs, evo, evI, evT, bind_ok, bind_bad, out_ok, out_bad, obind_nx, obind_rt, obind_bk, obind_ct, obind_bad, fin_nx, fin_rt, fin_bad, tru_bl, tru_non, tru_int, chD_bl, Mi.add_int, Mi.sub_int, Mi.lt_int, Mi.le_int, Mi.gt_int, Mi.ge_int, Mi.eq_int, Mi.ne_int, Mi.eq_bl, Mi.ne_bl, Mi.eq_str, Mi.ne_str, Mi.is_non, Mi.nis_non, Mi.is_bl, Mi.nis_bl, isn_non, isn_bl, isn_int, isn_str, isn_tup, isn_fl, isn_ref, Mi.bi_len, Mi.bi_abs, Mi.bi_int, Mi.bi_intb, Mi.bi_min, Mi.bi_max, Mi.len_str, Mi.len_tup, Mi.len_fl, isi_int, isi_bl, isi_str, isi_non, isi_tup, isi_fl, isTy, List.any_cons, List.any_nil, setT_nm, Mi.lstT_nm, Mi.lstT_tup, List.getElem?_cons_zero, List.getElem?_cons_succ, List.set_cons_zero, List.set_cons_succ, decide_eq_true_eq, Bool.or_false, Bool.or_true, Bool.false_or, Bool.true_or, Bool.not_true, Bool.not_false, Bool.false_eq_true, if_true, if_false, reduceIte, negD, optD, ne_eq, not_true_eq_false, not_false_eq_true, decide_true, decide_false, h2.len], bind_ok, hr]]
        rw [bind_ok]
        exact e3
      have e5 : evSs C (.cons (.ret (.bt .all (.lc [3] (.nm 3) (.rng1 (.bi .len (.cons (.var 1) .nil))) .nil (.fn "_law_same" f (.cons (.ix (.var 0) (.var 3)) (.cons (.ix (.var 1) (.var 3)) .nil)))))) .nil) [some t, some d, none, none] m = .rt (.bl true) m := by
        rw [run_cons, evS, ev, e4]
        have : blsD ((List.range ys.length).map fun _ => D.bl true) = some (List.replicate ys.length true) := by
          rw [show ((List.range ys.length).map fun _ => D.bl true) = (List.replicate ys.length true).map D.bl by rw [List.map_replicate, List.map_const', List.length_range]]
          exact blsD_mapB _
        show ((biL .all _ m).out fun d m1 => Out.rt d m1).bind _ = _
        unfold biL
        simp only [this, all_true]
        rfl
      generalize (Ss.cons (.ret (.bt .all (.lc [3] (.nm 3) (.rng1 (.bi .len (.cons (.var 1) .nil))) .nil (.fn "_law_same" f (.cons (.ix (.var 0) (.var 3)) (.cons (.ix (.var 1) (.var 3)) .nil)))))) .nil) = last at e5 ⊢
      cases b <;> simp only [evSs, evS, ev, evs, evL, evTs, evo, evI, evT, bind_ok, bind_bad, out_ok, out_bad, obind_nx, obind_rt, obind_bk, obind_ct, obind_bad, fin_nx, fin_rt, fin_bad, tru_bl, tru_non, tru_int, chD_bl, Mi.add_int, Mi.sub_int, Mi.lt_int, Mi.le_int, Mi.gt_int, Mi.ge_int, Mi.eq_int, Mi.ne_int, Mi.eq_bl, Mi.ne_bl, Mi.eq_str, Mi.ne_str, Mi.is_non, Mi.nis_non, Mi.is_bl, Mi.nis_bl, isn_non, isn_bl, isn_int, isn_str, isn_tup, isn_fl, isn_ref, Mi.bi_len, Mi.bi_abs, Mi.bi_int, Mi.bi_intb, Mi.bi_min, Mi.bi_max, Mi.len_str, Mi.len_tup, Mi.len_fl, isi_int, isi_bl, isi_str, isi_non, isi_tup, isi_fl, isTy, List.any_cons, List.any_nil, setT_nm, Mi.lstT_nm, Mi.lstT_tup, List.getElem?_cons_zero, List.getElem?_cons_succ, List.set_cons_zero, List.set_cons_succ, decide_eq_true_eq, Bool.or_false, Bool.or_true, Bool.false_or, Bool.true_or, Bool.not_true, Bool.not_false, Bool.false_eq_true, if_true, if_false, reduceIte, negD, optD, ne_eq, not_true_eq_false, not_false_eq_true, decide_true, decide_false, h2.non, h2.isi, h1.isi, h1.len, h2.len, h3, e5]
theorem same_s (cx : Nat → Mi.Cx) (f : Nat) (hc : ∀ k t d m, (cx (k + 1)).call f [t, d] m = (evSs (cx k) (B_same f) [some t, some d, none, none] m).fin) (n : Nat) :
    ∀ (k : Nat) (t d : D) (m : M), Sm n m t d → (cx (k + n)).call f [t, d] m = .ok (.bl true) m := by
  induction n with
  | zero => exact fun _ _ _ _ h => h.elim
  | succ n ih =>
    intro k t d m h
    exact (hc (k + n) t d m).trans (same_step (cx (k + n)) f n (fun t d m h => ih k t d m h) t d m h)
def IsSame (cx : Nat → Mi.Cx) (f : Nat) : Prop := ∀ (n k : Nat) (t d : D) (m : M), Sm n m t d → (cx (k + n)).call f [t, d] m = .ok (.bl true) m
end
end Dr

set_option linter.all false
set_option autoImplicit false
set_option Elab.async false
set_option maxRecDepth 100000
set_option maxHeartbeats 4000000
/-! Dr3: statements by what is wanted of them. -/
namespace Dr
noncomputable section
open PySem L2 Mi
/-- goes on, with this -/
def NC (P : Sl → M → Prop) (o : Out) : Prop := ∃ σ m, (o = .nx σ m ∨ o = .ct σ m) ∧ P σ m
/-- answers true -/
def Yes (o : Out) : Prop := ∃ m, o.fin = .ok (.bl true) m
theorem wp_nil {Post : Out → Prop} {C : Mi.Cx} {σ : Sl} {m : M} (h : Post (.nx σ m)) : Post (evSs C .nil σ m) := by
  rw [evSs]
  exact h
theorem nc_nil {P : Sl → M → Prop} {C : Mi.Cx} {σ : Sl} {m : M} (h : P σ m) : NC P (evSs C .nil σ m) := wp_nil ⟨σ, m, .inl rfl, h⟩
theorem wp_set {Post : Out → Prop} {C : Mi.Cx} {x : Tg} {e : E} {r : Ss} {σ σ1 : Sl} {m m1 : M} {d : D} (h : ev C e σ m = .ok d m1) (hs : setT x d σ = some σ1) (k : Post (evSs C r σ1 m1)) : Post (evSs C (.cons (.set x e) r) σ m) := by
  rw [run_cons, run_set C x e σ m d m1 h, lstT_of m1 hs]
  exact k
theorem wp_no {Post : Out → Prop} {C : Mi.Cx} {e : E} {a : Ss} {r : Ss} {σ : Sl} {m m1 : M} (h : evT C e σ m = .ok false m1) (k : Post (evSs C r σ m1)) : Post (evSs C (.cons (.ife e a .nil) r) σ m) := by
  rw [run_cons, evS, h]
  show Post (((if false = true then evSs C a σ m1 else evSs C .nil σ m1)).bind _)
  rw [if_neg (by decide), evSs]
  exact k
theorem wp_if {Post : Out → Prop} {C : Mi.Cx} {e : E} {a b : Ss} {r : Ss} {σ : Sl} {m m1 : M} {t : Bool} (h : evT C e σ m = .ok t m1) (k : Post (((if t = true then evSs C a σ m1 else evSs C b σ m1)).bind fun σ m => evSs C r σ m)) : Post (evSs C (.cons (.ife e a b) r) σ m) := by
  rw [run_cons, evS, h]
  exact k
theorem wp_exp {Post : Out → Prop} {C : Mi.Cx} {e : E} {r : Ss} {σ : Sl} {m m1 : M} {d : D} (h : ev C e σ m = .ok d m1) (k : Post (evSs C r σ m1)) : Post (evSs C (.cons (.exp e) r) σ m) := by
  rw [run_cons, evS, h]
  exact k
theorem wp_st {Post : Out → Prop} {C : Mi.Cx} {s : S} {r : Ss} {σ σ1 : Sl} {m m1 : M} (h : evS C s σ m = .nx σ1 m1) (k : Post (evSs C r σ1 m1)) : Post (evSs C (.cons s r) σ m) := by
  rw [run_cons, h]
  exact k
theorem yes_ret {C : Mi.Cx} {e : E} {r : Ss} {σ : Sl} {m m1 : M} (h : ev C e σ m = .ok (.bl true) m1) : Yes (evSs C (.cons (.ret e) r) σ m) := by
  rw [run_cons, evS, h]
  exact ⟨m1, rfl⟩
theorem for_nc {all : List D} (set : D → Sl → Option Sl) (b : Sl → M → Out) (st : M → Prop) (P : List D → Sl → M → Prop) (hst : ∀ pre σ m, P pre σ m → st m)
    (step : ∀ pre x post σ m, all = pre ++ x :: post → P pre σ m → ∃ σ1, set x σ = some σ1 ∧ NC (P (pre ++ [x])) (b σ1 m))
    (σ : Sl) (m : M) (h : P [] σ m) : ∃ σ' m', forD set st b all σ m = .nx σ' m' ∧ P all σ' m' :=
  for_all set st b P hst (fun pre x post σ m ha h => let ⟨σ1, h1, σ2, m2, h2, h3⟩ := step pre x post σ m ha h; ⟨σ1, h1, σ2, m2, h2, h3⟩) σ m h
theorem wp_for {Post : Out → Prop} {C : Mi.Cx} {x : Tg} {it : Mi.It} {b r : Ss} {σ : Sl} {m m1 : M} {xs : List D} (P : List D → Sl → M → Prop) (h : evI C it σ m = .ok (.free xs) m1) (h0 : P [] σ m1)
    (step : ∀ pre y post σ m, xs = pre ++ y :: post → P pre σ m → ∃ σ1, setT x y σ = some σ1 ∧ NC (P (pre ++ [y])) (evSs C b σ1 m))
    (k : ∀ σ m, P xs σ m → Post (evSs C r σ m)) : Post (evSs C (.cons (.for x it b) r) σ m) := by
  obtain ⟨σ', m', e, hp⟩ := for_nc (setT x) (evSs C b) (IV.free xs).stands P (fun _ _ _ _ => trivial) step σ m1 h0
  rw [run_cons, evS, h]
  show Post ((forD (setT x) (IV.free xs).stands (evSs C b) xs σ m1).bind _)
  rw [e]
  exact k σ' m' hp
/-- over a list of the heap that stands -/
theorem wp_forh {Post : Out → Prop} {C : Mi.Cx} {x : Tg} {it : Mi.It} {b r : Ss} {σ : Sl} {m m1 : M} {l : Nat} {xs : List D} (P : List D → Sl → M → Prop) (h : evI C it σ m = .ok (.held l xs) m1) (h0 : P [] σ m1)
    (hst : ∀ pre σ m, P pre σ m → m[l]? = some (.lst xs))
    (step : ∀ pre y post σ m, xs = pre ++ y :: post → P pre σ m → ∃ σ1, setT x y σ = some σ1 ∧ NC (P (pre ++ [y])) (evSs C b σ1 m))
    (k : ∀ σ m, P xs σ m → Post (evSs C r σ m)) : Post (evSs C (.cons (.for x it b) r) σ m) := by
  obtain ⟨σ', m', e, hp⟩ := for_nc (setT x) (evSs C b) (IV.held l xs).stands P hst step σ m1 h0
  rw [run_cons, evS, h]
  show Post ((forD (setT x) (IV.held l xs).stands (evSs C b) xs σ m1).bind _)
  rw [e]
  exact k σ' m' hp
theorem evI_rng1 {C : Mi.Cx} {e : E} {σ : Sl} {m m1 : M} {n : Nat} (h : ev C e σ m = .ok (.int n) m1) (hn : n ≤ line) : evI C (.rng1 e) σ m = .ok (.free ((List.range n).map fun k => .int (k : Nat))) m1 := by
  rw [evI, h, bind_ok]
  exact rng_len n m1 hn
theorem St.lt {m : M} {s c : Nat} (h : St m s c) : s < m.length ∧ c < m.length := by
  obtain ⟨pos, cells, q1, q2, _⟩ := h.ex
  exact ⟨(List.getElem?_eq_some_iff.mp q1).1, (List.getElem?_eq_some_iff.mp q2).1⟩
theorem St.row {m : M} {s c : Nat} (h : St m s c) (xs : List D) : ∀ l, D.ref m.length = .ref l → l ≠ s ∧ l ≠ c := by
  intro l hl
  have := h.lt
  cases hl
  omega
/-- drawn items: each by a run that keeps the state -/
theorem lc_draw {C : Mi.Cx} {vs : List Nat} {x : Tg} {it : Mi.It} {e : E} {σ : Sl} {m m1 : M} {xs : List D} {s c : Nat} (P : D → Prop) (h : evI C it σ m = .ok (.free xs) m1) (h1 : St m1 s c)
    (step : ∀ y ∈ xs, ∀ m', St m' s c → Kp s c m1 m' → ∃ σ', setT x y (wipeM σ vs) = some σ' ∧ ∃ d m'', ev C e σ' m' = .ok d m'' ∧ P d ∧ St m'' s c ∧ Kp s c m' m'') :
    ∃ ds m2, ev C (.lc vs x it .nil e) σ m = .ok (.ref m2.length) (m2 ++ [.lst ds]) ∧ ds.length = xs.length ∧ (∀ d ∈ ds, P d) ∧ St m2 s c ∧ Kp s c m1 m2 := by
  obtain ⟨ds, m2, e1, p1, p2, p3, p4⟩ := lc_inv (all := xs) (fun d => setT x d (wipeM σ vs)) (IV.free xs).stands (evTs C .nil) (ev C e) (fun pre acc m' => acc.length = pre.length ∧ (∀ d ∈ acc, P d) ∧ St m' s c ∧ Kp s c m1 m') (fun _ _ _ _ => trivial)
    (fun pre y post acc m' ha hp => by
      obtain ⟨q1, q2, q3, q4⟩ := hp
      obtain ⟨σ', s1, d, m'', s2, s3, s4, s5⟩ := step y (by rw [ha]; simp) m' q3 q4
      exact ⟨σ', s1, .inl ⟨m', d, m'', by rw [evTs], s2, by simp [q1], fun z hz => by
        rcases List.mem_append.mp hz with hz | hz
        · exact q2 z hz
        · rw [List.mem_singleton.mp hz]; exact s3, s4, q4.trans s5⟩⟩) xs [] [] m1 rfl ⟨rfl, fun _ h => (by cases h), h1, Kp.refl _ _ _⟩
  exact ⟨ds, m2, run_lc C vs x it .nil e σ m m1 m2 _ ds h e1, p1, p2, p3, p4⟩
theorem ints_of {P : Int → Prop} : ∀ ds : List D, (∀ d ∈ ds, ∃ i, d = .int i ∧ P i) → ∃ is : List Int, ds = is.map D.int ∧ ∀ i ∈ is, P i
  | [], _ => ⟨[], rfl, fun _ h => (by cases h)⟩
  | d :: ds, h => by
    obtain ⟨i, rfl, hi⟩ := h d List.mem_cons_self
    obtain ⟨is, rfl, his⟩ := ints_of ds fun d hd => h d (List.mem_cons_of_mem _ hd)
    exact ⟨i :: is, rfl, fun j hj => by
      rcases List.mem_cons.mp hj with rfl | hj
      · exact hi
      · exact his j hj⟩
/-- one of a row of numbers -/
theorem pick_ints {g : List D → M → R D} (hg : IsPick g) {s c : Nat} {m : M} (h : St m s c) (is : List Int) (hn : is ≠ []) (hl : is.length < 1606938044258990275541962092341162602522202993782792835301376) :
    ∃ (i : Int) (m' : M), g [.ref s, .ref m.length] (m ++ [.lst (is.map D.int)]) = .ok (.int i) m' ∧ i ∈ is ∧ St m' s c ∧ Kp s c m m' := by
  obtain ⟨x, m', e, hx, h1, h2⟩ := hg s c false (.ref m.length) (is.map D.int) (m ++ [.lst (is.map D.int)]) (h.app _) (.ref _ _ (app_last _ _)) (by simpa using hn) (by simpa using hl) (h.row [])
  obtain ⟨i, hi, rfl⟩ := List.mem_map.mp hx
  exact ⟨i, m', e, hi, h1, (Kp.app s c m _).trans h2⟩
/-- a list of numbers at l, besides the state -/
structure Lz (s c : Nat) (m : M) (l : Nat) (is : List Int) : Prop where
  at_ : m[l]? = some (.lst (is.map D.int))
  ns : l ≠ s
  nc : l ≠ c
theorem Lz.kp {s c : Nat} {m m' : M} {l : Nat} {is : List Int} (h : Lz s c m l is) (k : Kp s c m m') : Lz s c m' l is := ⟨k.at_ l _ h.ns h.nc h.at_, h.ns, h.nc⟩
theorem Lz.new {s c : Nat} {m : M} (h : St m s c) (is : List Int) : Lz s c (m ++ [.lst (is.map D.int)]) m.length is := ⟨app_last _ _, by have := h.lt; omega, by have := h.lt; omega⟩
theorem whl_no {c : Sl → M → R Bool} {b : Sl → M → Out} {n : Nat} {σ : Sl} {m m1 : M} (h : c σ m = .ok false m1) : whlD c b (n + 1) σ m = .nx σ m1 := by
  unfold whlD
  rw [h]
theorem whl_rt {c : Sl → M → R Bool} {b : Sl → M → Out} {n : Nat} {σ : Sl} {m m1 m2 : M} {d : D} (h : c σ m = .ok true m1) (hb : b σ m1 = .rt d m2) : whlD c b (n + 1) σ m = .rt d m2 := by
  unfold whlD
  rw [h]
  simp only [hb]
theorem whl_nx {c : Sl → M → R Bool} {b : Sl → M → Out} {n : Nat} {σ σ2 : Sl} {m m1 m2 : M} (h : c σ m = .ok true m1) (hb : b σ m1 = .nx σ2 m2) : whlD c b (n + 1) σ m = whlD c b n σ2 m2 := by
  conv => lhs; unfold whlD
  rw [h]
  simp only [hb]
theorem for_rt {set : D → Sl → Option Sl} {b : Sl → M → Out} {ys : List D} {d x : D} {ds : List D} {σ σ1 : Sl} {m m2 : M} (hs : set x σ = some σ1) (hb : b σ1 m = .rt d m2) : forD set (IV.free ys).stands b (x :: ds) σ m = .rt d m2 := by
  rw [for_cons _ _ _ _ _ _ _ trivial]
  simp only [hs, hb]
theorem for_nx {set : D → Sl → Option Sl} {b : Sl → M → Out} {ys : List D} {x : D} {ds : List D} {σ σ1 σ2 : Sl} {m m2 : M} (hs : set x σ = some σ1) (hb : b σ1 m = .nx σ2 m2) : forD set (IV.free ys).stands b (x :: ds) σ m = forD set (IV.free ys).stands b ds σ2 m2 := by
  rw [for_cons _ _ _ _ _ _ _ trivial]
  simp only [hs, hb]
theorem ev_fn1 {C : Mi.Cx} {x : Str} {f : Nat} {a : E} {σ : Sl} {m m1 : M} {u : D} (h1 : ev C a σ m = .ok u m1) : ev C (.fn x f (.cons a .nil)) σ m = C.call f [u] m1 := by
  rw [ev, evs, h1, bind_ok, evs, bind_ok, bind_ok]
theorem ev_fn2 {C : Mi.Cx} {x : Str} {f : Nat} {a b : E} {σ : Sl} {m m1 m2 : M} {u v : D} (h1 : ev C a σ m = .ok u m1) (h2 : ev C b σ m1 = .ok v m2) : ev C (.fn x f (.cons a (.cons b .nil))) σ m = C.call f [u, v] m2 := by
  rw [ev, evs, h1, bind_ok, evs, h2, bind_ok, evs, bind_ok, bind_ok, bind_ok]
theorem rng3_ok (a b c : Int) (m : M) (h : -4611686018427387904 ≤ a ∧ a < 4611686018427387904 ∧ -4611686018427387904 ≤ b ∧ b < 4611686018427387904 ∧ b - a ≤ 16777216 ∧ 0 < c ∧ c < 1073741824) :
    rng3D (.int a) (.int b) (.int c) m = .ok (.free ((List.range (stepN a b c)).map fun k => .int (a + (k : Nat) * c))) m := if_pos h
/-- the items of a walk over a mapped range -/
theorem rng_get {n : Nat} {f : Nat → D} {pre post : List D} {x : D} (h : (List.range n).map f = pre ++ x :: post) : x = f pre.length ∧ pre.length < n := by
  have h1 := congrArg (fun l => l[pre.length]?) h
  have h2 := congrArg List.length h
  simp at h1 h2
  have hl : pre.length < n := by omega
  simp [hl] at h1
  exact ⟨h1.symm, hl⟩
/-- an item of a list of numbers in the heap -/
theorem ixl (l : Nat) (o : List Int) (p : Nat) (a : Int) (m : M) (hl : m[l]? = some (.lst (o.map D.int))) (h : o[p]? = some a) : ixD (.ref l) (.int (p : Nat)) m = .ok (.int a) m :=
  ix_ref l _ _ _ m hl (by rw [at_nat, List.getElem?_map, h]; rfl)
end
end Dr

set_option linter.all false
set_option autoImplicit false
set_option Elab.async false
set_option maxRecDepth 100000
set_option maxHeartbeats 4000000
/-! Dr4: the drawing of k60..k87: a number below most, most at least 1. -/
namespace Dr
noncomputable section
open PySem L2 Mi
def B_take2 : Ss :=
(.cons (.set (.nm 2) (.ix (.var 0) (.cst (.int 1))))
 (.cons (.set (.nm 3) (.bin .mod (.bi .int (.cons (.ix (.var 0) (.cst (.int 0))) .nil)) (.bi .len (.cons (.var 2) .nil))))
 (.cons (.set (.nm 4) (.ix (.var 2) (.var 3)))
 (.cons (.ife (.cmp .ge (.var 4) (.cst (.int 1000000000000000000))) (.cons (.six (.var 2) (.var 3) (.bin .fdiv (.var 4) (.var 1)))
 (.cons (.ret (.bin .mod (.bi .int (.cons (.var 4) .nil)) (.var 1)))
 .nil)) .nil)
 (.cons (.six (.var 0) (.cst (.int 0)) (.bin .add (.ix (.var 0) (.cst (.int 0))) (.cst (.int 1))))
 (.cons (.set (.nm 5) (.bin .mod (.bi .int (.cons (.bin .add (.bin .mul (.var 4) (.cst (.int 48271))) (.bin .mul (.ix (.var 0) (.cst (.int 0))) (.cst (.int 69621)))) .nil)) (.cst (.int 2147483647))))
 (.cons (.set (.nm 5) (.bin .mod (.bi .int (.cons (.bin .add (.bin .mul (.var 5) (.cst (.int 16807))) (.bin .mul (.ix (.var 0) (.cst (.int 0))) (.cst (.int 7919)))) .nil)) (.cst (.int 1000000007))))
 (.cons (.ret (.bin .mod (.bi .int (.cons (.bin .fdiv (.var 5) (.cst (.int 7))) .nil)) (.var 1)))
 .nil))))))))
def IsTake2 (g : List D → M → R D) : Prop := ∀ (s c : Nat) (most : Int) (m : M), St m s c → 0 < most ∧ most < 1606938044258990275541962092341162602522202993782792835301376 →
  ∃ (r : Int) (m' : M), g [.ref s, .int most] m = .ok (.int r) m' ∧ 0 ≤ r ∧ r < most ∧ St m' s c ∧ Kp s c m m'
theorem take2_s (C : Mi.Cx) (s c : Nat) (most : Int) (m : M) (h : St m s c) (h0m : 0 < most) (hm : most < 1606938044258990275541962092341162602522202993782792835301376) :
    ∃ (r : Int) (m' : M), (evSs C B_take2 [some (.ref s), some (.int most), none, none, none, none] m).fin = .ok (.int r) m' ∧ 0 ≤ r ∧ r < most ∧ St m' s c ∧ Kp s c m m' := by
  obtain ⟨⟨pos, cells, h1, h2, h3, h4, h5, h6⟩, ne⟩ := id h
  unfold B_take2
  have hl : 0 < (cells.length : Int) := by
    have : cells.length ≠ 0 := fun q => h3 (List.eq_nil_of_length_eq_zero q)
    omega
  have a0 := Int.emod_nonneg pos (show (cells.length : Int) ≠ 0 by omega)
  have a1 := Int.emod_lt_of_pos pos hl
  have hc : (pos % (cells.length : Int)).toNat < cells.length := by omega
  have hcell : atI (cells.map D.int) (pos % (cells.length : Int)) = some (.int cells[(pos % (cells.length : Int)).toNat]) := by
    rw [at_of _ _ a0 (by rw [List.length_map]; exact a1), List.getElem?_map, List.getElem?_eq_getElem hc]
    rfl
  have hnn := h5 _ (List.getElem_mem hc)
  generalize cells[(pos % (cells.length : Int)).toNat] = cell at hcell hnn
  simp only [evSs, evS, ev, evs, evL, evTs, evo, evI, evT, bind_ok, bind_bad, out_ok, out_bad, obind_nx, obind_rt, obind_bk, obind_ct, obind_bad, fin_nx, fin_rt, fin_bad, tru_bl, tru_non, tru_int, chD_bl, Mi.add_int, Mi.sub_int, Mi.lt_int, Mi.le_int, Mi.gt_int, Mi.ge_int, Mi.eq_int, Mi.ne_int, Mi.eq_bl, Mi.ne_bl, Mi.eq_str, Mi.ne_str, Mi.is_non, Mi.nis_non, Mi.is_bl, Mi.nis_bl, isn_non, isn_bl, isn_int, isn_str, isn_tup, isn_fl, isn_ref, Mi.bi_len, Mi.bi_abs, Mi.bi_int, Mi.bi_intb, Mi.bi_min, Mi.bi_max, Mi.len_str, Mi.len_tup, Mi.len_fl, isi_int, isi_bl, isi_str, isi_non, isi_tup, isi_fl, isTy, List.any_cons, List.any_nil, setT_nm, Mi.lstT_nm, Mi.lstT_tup, List.getElem?_cons_zero, List.getElem?_cons_succ, List.set_cons_zero, List.set_cons_succ, decide_eq_true_eq, Bool.or_false, Bool.or_true, Bool.false_or, Bool.true_or, Bool.not_true, Bool.not_false, Bool.false_eq_true, if_true, if_false, reduceIte, negD, optD, ne_eq, not_true_eq_false, not_false_eq_true, decide_true, decide_false, ix_ref _ _ _ _ _ h1 (at_1 _ _ _), ix_ref _ _ _ _ _ h1 (at_0 _ _), Mi.len_ref _ _ _ h2, List.length_map, Mi.mod_int _ _ _ hl, ix_ref _ _ _ _ _ h2 hcell]
  have hset : ∀ v, setD (.ref c) (.int (pos % (cells.length : Int))) v m = some (m.set c (.lst ((cells.map D.int).set (pos % (cells.length : Int)).toNat v))) := fun v => set_ref c _ _ v m h2 a0 (by rw [List.length_map]; exact a1)
  have b0 := Int.emod_nonneg cell (show most ≠ 0 by omega)
  have b1 := Int.emod_lt_of_pos cell h0m
  have hslt := (List.getElem?_eq_some_iff.mp h1).1
  have hclt := (List.getElem?_eq_some_iff.mp h2).1
  by_cases hb : 1000000000000000000 ≤ cell
  · refine ⟨cell % most, m.set c (.lst ((cells.set (pos % (cells.length : Int)).toNat (cell / most)).map D.int)), ?_, b0, b1, ⟨⟨pos, cells.set (pos % (cells.length : Int)).toNat (cell / most), ?_, ?_, ?_, by rw [List.length_set]; exact h4, fun x hx => ?_, h6⟩, ne⟩, ?_⟩
    · simp only [evSs, evS, ev, evs, evL, evTs, evo, evI, evT, bind_ok, bind_bad, out_ok, out_bad, obind_nx, obind_rt, obind_bk, obind_ct, obind_bad, fin_nx, fin_rt, fin_bad, tru_bl, tru_non, tru_int, chD_bl, Mi.add_int, Mi.sub_int, Mi.lt_int, Mi.le_int, Mi.gt_int, Mi.ge_int, Mi.eq_int, Mi.ne_int, Mi.eq_bl, Mi.ne_bl, Mi.eq_str, Mi.ne_str, Mi.is_non, Mi.nis_non, Mi.is_bl, Mi.nis_bl, isn_non, isn_bl, isn_int, isn_str, isn_tup, isn_fl, isn_ref, Mi.bi_len, Mi.bi_abs, Mi.bi_int, Mi.bi_intb, Mi.bi_min, Mi.bi_max, Mi.len_str, Mi.len_tup, Mi.len_fl, isi_int, isi_bl, isi_str, isi_non, isi_tup, isi_fl, isTy, List.any_cons, List.any_nil, setT_nm, Mi.lstT_nm, Mi.lstT_tup, List.getElem?_cons_zero, List.getElem?_cons_succ, List.set_cons_zero, List.set_cons_succ, decide_eq_true_eq, Bool.or_false, Bool.or_true, Bool.false_or, Bool.true_or, Bool.not_true, Bool.not_false, Bool.false_eq_true, if_true, if_false, reduceIte, negD, optD, ne_eq, not_true_eq_false, not_false_eq_true, decide_true, decide_false, hb, Mi.fdiv_int _ _ _ ⟨h0m, hm⟩, hset, Mi.mod_int _ _ _ h0m, List.map_set]
    · rw [List.getElem?_set_ne (Ne.symm ne)]; exact h1
    · rw [List.getElem?_set_self hclt]
    · intro q
      exact h3 (by simpa using q)
    · rcases List.mem_or_eq_of_mem_set hx with q | q
      · exact h5 x q
      · rw [q]; exact Int.ediv_nonneg hnn (by omega)
    · exact ⟨by simp, fun l o _ n2 e => by rw [List.getElem?_set_ne (Ne.symm n2)]; exact e⟩
  · have hs0 : setD (.ref s) (.int 0) (.int (pos + 1)) m = some (m.set s (.lst [.int (pos + 1), .ref c])) := set_ref s _ 0 _ m h1 (by omega) (by simp)
    have h1' : (m.set s (.lst [.int (pos + 1), .ref c]))[s]? = some (.lst [.int (pos + 1), .ref c]) := List.getElem?_set_self hslt
    have ix0 := ix_ref s _ 0 _ _ h1' (at_0 _ _)
    have f0 : ∀ (x : Int), 0 ≤ x % most ∧ x % most < most := fun x => ⟨Int.emod_nonneg x (by omega), Int.emod_lt_of_pos x h0m⟩
    refine ⟨_, m.set s (.lst [.int (pos + 1), .ref c]), ?_, (f0 ((((cell * 48271 + (pos + 1) * 69621) % 2147483647 * 16807 + (pos + 1) * 7919) % 1000000007) / 7)).1, (f0 _).2, ⟨⟨pos + 1, cells, h1', by rw [List.getElem?_set_ne ne]; exact h2, h3, h4, h5, by omega⟩, ne⟩, ⟨by simp, fun l o n1 _ e => by rw [List.getElem?_set_ne (Ne.symm n1)]; exact e⟩⟩
    simp only [evSs, evS, ev, evs, evL, evTs, evo, evI, evT, bind_ok, bind_bad, out_ok, out_bad, obind_nx, obind_rt, obind_bk, obind_ct, obind_bad, fin_nx, fin_rt, fin_bad, tru_bl, tru_non, tru_int, chD_bl, Mi.add_int, Mi.sub_int, Mi.lt_int, Mi.le_int, Mi.gt_int, Mi.ge_int, Mi.eq_int, Mi.ne_int, Mi.eq_bl, Mi.ne_bl, Mi.eq_str, Mi.ne_str, Mi.is_non, Mi.nis_non, Mi.is_bl, Mi.nis_bl, isn_non, isn_bl, isn_int, isn_str, isn_tup, isn_fl, isn_ref, Mi.bi_len, Mi.bi_abs, Mi.bi_int, Mi.bi_intb, Mi.bi_min, Mi.bi_max, Mi.len_str, Mi.len_tup, Mi.len_fl, isi_int, isi_bl, isi_str, isi_non, isi_tup, isi_fl, isTy, List.any_cons, List.any_nil, setT_nm, Mi.lstT_nm, Mi.lstT_tup, List.getElem?_cons_zero, List.getElem?_cons_succ, List.set_cons_zero, List.set_cons_succ, decide_eq_true_eq, Bool.or_false, Bool.or_true, Bool.false_or, Bool.true_or, Bool.not_true, Bool.not_false, Bool.false_eq_true, if_true, if_false, reduceIte, negD, optD, ne_eq, not_true_eq_false, not_false_eq_true, decide_true, decide_false, hb, ix_ref _ _ _ _ _ h1 (at_0 _ _), hs0, ix0, mulR _ 48271 _ (sm _ (by decide)), mulR _ 69621 _ (sm _ (by decide)), mulR _ 16807 _ (sm _ (by decide)), mulR _ 7919 _ (sm _ (by decide)), Mi.mod_int _ 2147483647 _ (by decide), Mi.mod_int _ 1000000007 _ (by decide), Mi.fdiv_int _ 7 _ (by decide), Mi.mod_int _ _ _ h0m]
end
end Dr

set_option linter.all false
set_option autoImplicit false
set_option Elab.async false
set_option maxRecDepth 100000
set_option maxHeartbeats 4000000
/-! Dr5: texts of displays fit. -/
namespace Mi
open PySem PyProof.Rows
theorem ok_str {x : Str} : PyData.strOk x = true ↔ ∀ c ∈ x.cps.toList, c < 0x110000 := by
  unfold PyData.strOk
  rw [← Array.all_toList, List.all_eq_true]
  simp only [decide_eq_true_eq]
theorem ok_append {a b : Str} (h : PyData.strOk a = true) (k : PyData.strOk b = true) : PyData.strOk (a ++ b) = true := by
  rw [ok_str] at *
  intro c hc
  rw [mem_cps_append] at hc
  rcases hc with q | q
  · exact h c q
  · exact k c q
theorem ok_join {sep : Str} {ts : List Str} (h : PyData.strOk sep = true) (k : ∀ t ∈ ts, PyData.strOk t = true) : PyData.strOk (Str.join sep ts) = true := by
  rw [ok_str] at *
  intro c hc
  rw [mem_join] at hc
  rcases hc with ⟨t, ht, q⟩ | ⟨_, q⟩
  · exact ok_str.mp (k t ht) c q
  · exact h c q
theorem ok_int (i : Int) : PyData.strOk ((toString i : String) : Str) = true := by
  rw [ok_str]
  intro c hc
  refine Classical.byContradiction fun n => ?_
  exact int_text_free' c ⟨by omega, .inr (by omega)⟩ i hc
theorem ok_from : ∀ (ts : List Str) (k : Nat) (acc : Str), PyData.strOk acc = true → (∀ t ∈ ts, PyData.strOk t = true) → PyData.strOk (textFrom k acc ts) = true
  | [], k, acc, h, _ => h
  | t :: r, k, acc, h, q => by
    refine ok_from r (k + 1) _ (ok_append (ok_append h ?_) (q t (List.mem_cons_self ..))) fun u hu => q u (List.mem_cons_of_mem _ hu)
    split <;> decide +kernel
/-! what the leaves must be: short ints, texts that fit -/
mutual
def okP : PyData → Bool
  | .none => true
  | .bool _ => true
  | .int i => decide (-18446744073709551616 < i ∧ i < 18446744073709551616)
  | .str x => PyData.strOk (reprText x) && decide ((reprText x).length ≤ 100)
  | .list xs => okPs xs
  | .tuple xs => okPs xs
  | .dict _ => false
def okPs : List PyData → Bool
  | [] => true
  | p :: ps => okP p && okPs ps
def sizeP : PyData → Nat
  | .list xs => 3 + sizePs xs
  | .tuple xs => 3 + sizePs xs
  | _ => 100
def sizePs : List PyData → Nat
  | [] => 0
  | p :: ps => sizeP p + 2 + sizePs ps
end
theorem int_len {i : Int} (h : -18446744073709551616 < i ∧ i < 18446744073709551616) : ((toString i : String) : Str).length ≤ 100 := by
  show (Str.ofString (toString i)).length ≤ 100
  rw [PySem.ofString_length]
  exact Nat.le_trans (int_text_length_le10 (k := 20) (by decide) (by omega)) (by decide)
mutual
theorem ok_shown : ∀ p : PyData, okP p = true → p.showable = true ∧ PyData.strOk p.shown = true ∧ p.shown.length ≤ sizeP p
  | .none, _ => ⟨by decide +kernel, by decide +kernel, by decide +kernel⟩
  | .bool b, _ => by cases b <;> exact ⟨by decide +kernel, by decide +kernel, by decide +kernel⟩
  | .int i, h => by
    have h : -18446744073709551616 < i ∧ i < 18446744073709551616 := by simpa [okP] using h
    refine ⟨?_, ?_, ?_⟩
    · simp only [PyData.showable, decide_eq_true_eq]
      have : i.natAbs < 2 ^ 64 := by omega
      by_cases z : i.natAbs = 0
      · rw [z]; decide +kernel
      · exact Nat.lt_of_lt_of_le ((Nat.log2_lt z).mpr this) (by decide)
    · simp only [PyData.shown]; exact ok_int i
    · simp only [PyData.shown, sizeP]; exact int_len h
  | .str x, h => by
    have h : PyData.strOk (reprText x) = true ∧ (reprText x).length ≤ 100 := by simpa [okP] using h
    exact ⟨by simp only [PyData.showable], by simp only [PyData.shown]; exact h.1, by simp only [PyData.shown, sizeP]; exact h.2⟩
  | .list xs, h => by
    have h : okPs xs = true := by simpa [okP] using h
    obtain ⟨k1, k2, k3⟩ := ok_shownAll xs h
    refine ⟨by simpa only [PyData.showable] using k1, ?_, ?_⟩
    · simp only [PyData.shown, listText]
      exact ok_append (ok_from _ _ _ (by decide +kernel) k2) (by decide +kernel)
    · simp only [PyData.shown, sizeP]
      have := listText_len_le (PyData.shownAll xs)
      have := PyData.shownAll_length xs
      omega
  | .tuple xs, h => by
    have h : okPs xs = true := by simpa [okP] using h
    obtain ⟨k1, k2, k3⟩ := ok_shownAll xs h
    refine ⟨by simpa only [PyData.showable] using k1, ?_, ?_⟩
    · simp only [PyData.shown, tupleText]
      refine ok_append (ok_append (by decide +kernel) (ok_join (by decide +kernel) k2)) ?_
      split <;> decide +kernel
    · simp only [PyData.shown, sizeP]
      have := tupleText_len_le (PyData.shownAll xs)
      have := PyData.shownAll_length xs
      omega
  | .dict _, h => by simp [okP] at h
theorem ok_shownAll : ∀ ps : List PyData, okPs ps = true → PyData.showableAll ps = true ∧ (∀ t ∈ PyData.shownAll ps, PyData.strOk t = true) ∧ ((PyData.shownAll ps).map (·.length)).sum + 2 * ps.length ≤ sizePs ps
  | [], _ => ⟨by simp only [PyData.showableAll], by simp [PyData.shownAll], by simp [PyData.shownAll, sizePs]⟩
  | p :: ps, h => by
    have h : okP p = true ∧ okPs ps = true := by simpa [okPs] using h
    obtain ⟨h1, h2, h3⟩ := ok_shown p h.1
    obtain ⟨k1, k2, k3⟩ := ok_shownAll ps h.2
    refine ⟨by simp only [PyData.showableAll, h1, k1, Bool.and_self], ?_, ?_⟩
    · intro t ht
      simp only [PyData.shownAll, List.mem_cons] at ht
      rcases ht with rfl | ht
      · exact h2
      · exact k2 t ht
    · simp only [PyData.shownAll, List.map_cons, List.sum_cons, List.length_cons, sizePs]
      omega
end
theorem show_ok {d : D} {m : M} {p : PyData} (e : toPy 60 m d = some p) (h : okP p = true) (hs : sizeP p ≤ line) : showR d m = .ok (.str p.shown) m := by
  obtain ⟨h1, h2, h3⟩ := ok_shown p h
  unfold showR
  rw [e]
  dsimp only
  rw [if_pos h1]
  unfold strR
  rw [if_pos]
  unfold okS
  rw [h2]
  exact decide_eq_true (Nat.le_trans h3 hs)
end Mi

set_option linter.all false
set_option autoImplicit false
set_option Elab.async false
set_option maxRecDepth 100000
set_option maxHeartbeats 4000000
/-! Dr6: steps that several laws share. -/
namespace Dr
noncomputable section
open PySem L2 Mi
/-- a comprehension whose items come one by one, the list not laid -/
theorem run_lcL {α : Type} {C : Mi.Cx} {vs : List Nat} {x : Tg} {it : Mi.It} {e : E} {σ : Sl} {m m1 : M} {g q : α → D} {xs : List α} (h1 : evI C it σ m = .ok (.free (xs.map g)) m1)
    (h : ∀ a ∈ xs, ∃ σ', setT x (g a) (wipeM σ vs) = some σ' ∧ ev C e σ' m1 = .ok (q a) m1) : evL C (.lc vs x it .nil e) σ m = .ok (xs.map q) m1 := by
  rw [evL, h1, bind_ok]
  have := lc_map (fun d => setT x d (wipeM σ vs)) (IV.free (xs.map g)).stands (evTs C .nil) (ev C e) g q m1 trivial (fun _ _ => by rw [evTs]) xs [] h
  rw [List.nil_append] at this
  exact this
/-- drawn items, the list not laid -/
theorem lc_drawL {C : Mi.Cx} {vs : List Nat} {x : Tg} {it : Mi.It} {e : E} {σ : Sl} {m m1 : M} {xs : List D} {s c : Nat} (P : D → Prop) (h : evI C it σ m = .ok (.free xs) m1) (h1 : St m1 s c)
    (step : ∀ y ∈ xs, ∀ m', St m' s c → Kp s c m1 m' → ∃ σ', setT x y (wipeM σ vs) = some σ' ∧ ∃ d m'', ev C e σ' m' = .ok d m'' ∧ P d ∧ St m'' s c ∧ Kp s c m' m'') :
    ∃ ds m2, evL C (.lc vs x it .nil e) σ m = .ok ds m2 ∧ ds.length = xs.length ∧ (∀ d ∈ ds, P d) ∧ St m2 s c ∧ Kp s c m1 m2 := by
  obtain ⟨ds, m2, e1, p1, p2, p3, p4⟩ := lc_inv (all := xs) (fun d => setT x d (wipeM σ vs)) (IV.free xs).stands (evTs C .nil) (ev C e) (fun pre acc m' => acc.length = pre.length ∧ (∀ d ∈ acc, P d) ∧ St m' s c ∧ Kp s c m1 m') (fun _ _ _ _ => trivial)
    (fun pre y post acc m' ha hp => by
      obtain ⟨q1, q2, q3, q4⟩ := hp
      obtain ⟨σ', s1, d, m'', s2, s3, s4, s5⟩ := step y (by rw [ha]; simp) m' q3 q4
      exact ⟨σ', s1, .inl ⟨m', d, m'', by rw [evTs], s2, by simp [q1], fun z hz => by
        rcases List.mem_append.mp hz with hz | hz
        · exact q2 z hz
        · rw [List.mem_singleton.mp hz]; exact s3, s4, q4.trans s5⟩⟩) xs [] [] m1 rfl ⟨rfl, fun _ h => (by cases h), h1, Kp.refl _ _ _⟩
  refine ⟨ds, m2, ?_, p1, p2, p3, p4⟩
  rw [evL, h, bind_ok]
  exact e1
/-- [a, b, c][a number below 3] -/
theorem ix_draw {C : Mi.Cx} {ft : Nat} (ht : IsTake2 (C.call ft)) {x : Str} {j : Nat} {σ : Sl} {m m1 : M} {s c : Nat} {es : Es} {ds : List D} {n : Int} (he : evs C es σ m = .ok ds m1) (hS : St m1 s c) (hj : σ[j]? = some (some (.ref s))) (hn : (ds.length : Int) = n) (h0 : 0 < n) (h1 : n < 1000) :
    ∃ (d : D) (m' : M), ev C (.ix (.lst es) (.fn x ft (.cons (.var j) (.cons (.cst (.int n)) .nil)))) σ m = .ok d m' ∧ d ∈ ds ∧ St m' s c ∧ Kp s c m1 m' := by
  obtain ⟨r, m', e, r0, r1, s1, k1⟩ := ht s c n (m1 ++ [.lst ds]) (hS.app _) ⟨by omega, by omega⟩
  have hr : r.toNat < ds.length := by omega
  have hl := k1.at_ m1.length _ (hS.row [] _ rfl).1 (hS.row [] _ rfl).2 (app_last m1 (.lst ds))
  refine ⟨ds[r.toNat], m', ?_, List.getElem_mem hr, s1, (Kp.app s c m1 _).trans k1⟩
  have ix := ix_ref m1.length ds r ds[r.toNat] m' hl (by rw [at_of _ _ r0 (by omega), List.getElem?_eq_getElem hr])
  have ea : ev C (.lst es) σ m = .ok (.ref m1.length) (m1 ++ [.lst ds]) := by
    rw [ev, he, bind_ok]
    rfl
  have ev0 : ev C (.var j) σ (m1 ++ [.lst ds]) = .ok (.ref s) (m1 ++ [.lst ds]) := by
    rw [ev, hj]
  have eb := (ev_fn2 (C := C) (x := x) (f := ft) ev0 (show ev C (.cst (.int n)) σ _ = .ok (.int n) _ by rw [ev])).trans e
  rw [ev, ea, bind_ok, eb, bind_ok]
  exact ix
theorem cutL {α : Type} (g : α → D) (o : List α) (a : Nat) (h : a ≤ o.length) : cutD (o.map g) none (some (a : Int)) = (o.take a).map g := by
  unfold cutD
  have e : HT.sIx (o.map g).length (o.map g).length (some (a : Int)) = a := by
    show (if (a : Int) < 0 then ((a : Int) + ((o.map g).length : Int)).toNat else min (a : Int).toNat (o.map g).length) = a
    rw [if_neg (by omega), List.length_map]
    omega
  rw [e]
  show ((o.map g).drop 0).take (a - 0) = _
  rw [List.drop_zero, Nat.sub_zero, List.map_take]
theorem cutH {α : Type} (g : α → D) (o : List α) (a : Nat) (h : a ≤ o.length) : cutD (o.map g) (some (a : Int)) none = (o.drop a).map g := by
  unfold cutD
  have e : HT.sIx (o.map g).length 0 (some (a : Int)) = a := by
    show (if (a : Int) < 0 then ((a : Int) + ((o.map g).length : Int)).toNat else min (a : Int).toNat (o.map g).length) = a
    rw [if_neg (by omega), List.length_map]
    omega
  rw [e]
  show ((o.map g).drop a).take ((o.map g).length - a) = _
  rw [List.take_of_length_le (by simp), List.map_drop]
theorem set_cut {α : Type} (o : List α) (f : Nat) (x : α) (h : f < o.length) : o.take f ++ [x] ++ o.drop (f + 1) = o.set f x := by
  rw [List.append_assoc, List.set_eq_take_append_cons_drop, if_pos h]
  rfl
/-! ### what equals itself -/
theorem eqv_int (i : Int) : PyData.eqv (.int i) (.int i) = true := by simp [PyData.eqv]
theorem eqv_str (i : Str) : PyData.eqv (.str i) (.str i) = true := by simp [PyData.eqv]
mutual
theorem eqv_self : ∀ p : PyData, okP p = true → PyData.eqv p p = true
  | .none, _ => by simp [PyData.eqv]
  | .bool b, _ => by simp [PyData.eqv]
  | .int i, _ => by simp [PyData.eqv]
  | .str x, _ => by simp [PyData.eqv]
  | .list xs, h => by
    rw [PyData.eqv]
    exact eqv_selfs xs (by simpa [okP] using h)
  | .tuple xs, h => by
    rw [PyData.eqv]
    exact eqv_selfs xs (by simpa [okP] using h)
  | .dict _, h => by simp [okP] at h
theorem eqv_selfs : ∀ ps : List PyData, okPs ps = true → PyData.eqvAll ps ps = true
  | [], _ => by simp [PyData.eqvAll]
  | p :: ps, h => by
    have h : okP p = true ∧ okPs ps = true := by simpa [okPs] using h
    rw [PyData.eqvAll, eqv_self p h.1, eqv_selfs ps h.2]
    rfl
end
theorem eq_self {m : M} {d : D} {p : PyData} (e : toPy 60 m d = some p) (h : okP p = true) : cmpD .eq d d m = .ok (.bl true) m := by
  rw [eq_of_py m d d p p e e, eqv_self p h]
theorem ne_self {m : M} {d : D} {p : PyData} (e : toPy 60 m d = some p) (h : okP p = true) : cmpD .ne d d m = .ok (.bl false) m := by
  rw [ne_of_py m d d p p e e, eqv_self p h]
  rfl
theorem okPs_ints : ∀ is : List Int, (∀ i ∈ is, -18446744073709551616 < i ∧ i < 18446744073709551616) → okPs (is.map .int) = true
  | [], _ => by simp [okPs]
  | i :: is, h => by
    rw [List.map_cons, okPs, okPs_ints is fun j hj => h j (List.mem_cons_of_mem _ hj)]
    simp [okP, h i (List.mem_cons_self ..)]
theorem sizePs_ints : ∀ is : List Int, sizePs (is.map .int) = 102 * is.length
  | [] => by simp [sizePs]
  | i :: is => by
    rw [List.map_cons, sizePs, sizePs_ints is, List.length_cons]
    simp [sizeP]
    omega
theorem bi_repr (d : D) (m : M) : biD .repr [d] m = reprD d m := (rfl)
theorem repr_tup (xs : List D) (m : M) : reprD (.tup xs) m = showR (.tup xs) m := (rfl)
theorem bi_tuple_tup (xs : List D) (m : M) : biD .tuple [.tup xs] m = .ok (.tup xs) m := (rfl)
theorem ix_t (xs : List D) (k : Int) (m : M) : ixD (.tup xs) (.int k) m = (match atI xs k with
    | some d => .ok d m
    | none => .bad) := (rfl)
theorem at_2 {α : Type} (a b c : α) (xs : List α) : atI (a :: b :: c :: xs) 2 = some c := at_nat (a :: b :: c :: xs) 2
theorem at_3 {α : Type} (a b c d : α) (xs : List α) : atI (a :: b :: c :: d :: xs) 3 = some d := at_nat (a :: b :: c :: d :: xs) 3
theorem at_4 {α : Type} (a b c d e : α) (xs : List α) : atI (a :: b :: c :: d :: e :: xs) 4 = some e := at_nat (a :: b :: c :: d :: e :: xs) 4
theorem at_5 {α : Type} (a b c d e f : α) (xs : List α) : atI (a :: b :: c :: d :: e :: f :: xs) 5 = some f := at_nat (a :: b :: c :: d :: e :: f :: xs) 5
theorem at_6 {α : Type} (a b c d e f g : α) (xs : List α) : atI (a :: b :: c :: d :: e :: f :: g :: xs) 6 = some g := at_nat (a :: b :: c :: d :: e :: f :: g :: xs) 6
theorem at_7 {α : Type} (a b c d e f g h : α) (xs : List α) : atI (a :: b :: c :: d :: e :: f :: g :: h :: xs) 7 = some h := at_nat (a :: b :: c :: d :: e :: f :: g :: h :: xs) 7
theorem at_8 {α : Type} (a b c d e f g h i : α) (xs : List α) : atI (a :: b :: c :: d :: e :: f :: g :: h :: i :: xs) 8 = some i := at_nat (a :: b :: c :: d :: e :: f :: g :: h :: i :: xs) 8
theorem at_9 {α : Type} (a b c d e f g h i j : α) (xs : List α) : atI (a :: b :: c :: d :: e :: f :: g :: h :: i :: j :: xs) 9 = some j := at_nat (a :: b :: c :: d :: e :: f :: g :: h :: i :: j :: xs) 9
theorem okP_tup (xs : List PyData) : okP (.tuple xs) = okPs xs := by rw [okP]
theorem okP_lst (xs : List PyData) : okP (.list xs) = okPs xs := by rw [okP]
theorem okPs_nil : okPs [] = true := by rw [okPs]
theorem okPs_cons (p : PyData) (ps : List PyData) : okPs (p :: ps) = (okP p && okPs ps) := by rw [okPs]
theorem word_ok (w : Str) (h : (PyData.strOk (reprText w) && decide ((reprText w).length ≤ 100)) = true) : okP (.str w) = true := by rw [okP]; exact h
theorem int_ok (i : Int) (h : 0 ≤ i ∧ i ≤ 4294967296) : okP (.int i) = true := by rw [okP]; exact decide_eq_true (by omega)
theorem mapO_get {α β : Type} (f : α → Option β) (g : α → β) : ∀ xs : List α, (∀ x ∈ xs, f x = some (g x)) → mapO f xs = some (xs.map g)
  | [], _ => rfl
  | x :: xs, h => mapO_cons f _ _ _ _ (h x (List.mem_cons_self ..)) (mapO_get f g xs fun y hy => h y (List.mem_cons_of_mem _ hy))
theorem okPs_of : ∀ ps : List PyData, (∀ p ∈ ps, okP p = true) → okPs ps = true
  | [], _ => okPs_nil
  | p :: ps, h => by rw [okPs_cons, h p (List.mem_cons_self ..), okPs_of ps fun q hq => h q (List.mem_cons_of_mem _ hq)]; rfl
theorem sizePs_le (n : Nat) : ∀ ps : List PyData, (∀ p ∈ ps, sizeP p ≤ n) → sizePs ps ≤ (n + 2) * ps.length
  | [], _ => by simp [sizePs]
  | p :: ps, h => by
    have h1 := h p (List.mem_cons_self ..)
    have h2 := sizePs_le n ps fun q hq => h q (List.mem_cons_of_mem _ hq)
    rw [sizePs, List.length_cons, Nat.mul_add]
    omega
end
end Dr

set_option linter.all false
set_option autoImplicit false
set_option Elab.async false
set_option maxRecDepth 100000
set_option maxHeartbeats 4000000
/-! Dr7: loops that change nothing in the heap: the first that answers, folds, filters. -/
namespace Dr
noncomputable section
open PySem L2 Mi
section
variable {α : Type} {C : Mi.Cx} {x : Tg} {b : Ss} {m : M}
/-- the first item that answers -/
theorem for_find {Fam : Sl → Prop} {ys : List D} (g : α → D) (p : α → Option D) : ∀ (xs : List α), (∀ a ∈ xs, ∀ σ, Fam σ → ∃ σ1, setT x (g a) σ = some σ1 ∧ ((p a = none ∧ ∃ σ2, evSs C b σ1 m = .nx σ2 m ∧ Fam σ2) ∨ ∃ d, p a = some d ∧ evSs C b σ1 m = .rt d m)) → ∀ σ, Fam σ →
    (xs.findSome? p = none ∧ ∃ σ', forD (setT x) (IV.free ys).stands (evSs C b) (xs.map g) σ m = .nx σ' m ∧ Fam σ') ∨ ∃ d, xs.findSome? p = some d ∧ forD (setT x) (IV.free ys).stands (evSs C b) (xs.map g) σ m = .rt d m
  | [], _, σ, hf => .inl ⟨rfl, σ, for_nil _ _ _ _ _ trivial, hf⟩
  | a :: xs, h, σ, hf => by
    obtain ⟨σ1, h1, ⟨h2, σ2, h3, h4⟩ | ⟨d, h2, h3⟩⟩ := h a (List.mem_cons_self ..) σ hf
    · rw [List.map_cons, for_nx h1 h3, List.findSome?_cons, h2]
      exact for_find g p xs (fun a ha => h a (List.mem_cons_of_mem _ ha)) σ2 h4
    · rw [List.map_cons, for_rt h1 h3, List.findSome?_cons, h2]
      exact .inr ⟨d, rfl, rfl⟩
theorem wp_find {Post : Out → Prop} {Fam : Sl → Prop} {it : Mi.It} {r : Ss} {σ : Sl} {xs : List α} (g : α → D) (p : α → Option D) (hi : evI C it σ m = .ok (.free (xs.map g)) m) (h0 : Fam σ)
    (h : ∀ a ∈ xs, ∀ σ, Fam σ → ∃ σ1, setT x (g a) σ = some σ1 ∧ ((p a = none ∧ ∃ σ2, evSs C b σ1 m = .nx σ2 m ∧ Fam σ2) ∨ ∃ d, p a = some d ∧ evSs C b σ1 m = .rt d m))
    (k1 : xs.findSome? p = none → ∀ σ', Fam σ' → Post (evSs C r σ' m)) (k2 : ∀ d, xs.findSome? p = some d → Post (.rt d m)) : Post (evSs C (.cons (.for x it b) r) σ m) := by
  rw [run_cons, evS, hi]
  show Post (Out.bind (forD (setT x) (IV.free (xs.map g)).stands (evSs C b) (xs.map g) σ m) _)
  rcases for_find (ys := xs.map g) g p xs h σ h0 with ⟨e, σ', e2, hf⟩ | ⟨d, e, e2⟩
  · rw [e2]
    exact k1 e σ' hf
  · rw [e2]
    exact k2 d e
theorem for_fold {β : Type} {Fam : β → Sl → Prop} {ys : List D} (g : α → D) (F : β → α → β) : ∀ (xs : List α), (∀ a ∈ xs, ∀ v σ, Fam v σ → ∃ σ1, setT x (g a) σ = some σ1 ∧ ∃ σ2, evSs C b σ1 m = .nx σ2 m ∧ Fam (F v a) σ2) → ∀ v σ, Fam v σ →
    ∃ σ', forD (setT x) (IV.free ys).stands (evSs C b) (xs.map g) σ m = .nx σ' m ∧ Fam (xs.foldl F v) σ'
  | [], _, v, σ, hf => ⟨σ, for_nil _ _ _ _ _ trivial, hf⟩
  | a :: xs, h, v, σ, hf => by
    obtain ⟨σ1, h1, σ2, h3, h4⟩ := h a (List.mem_cons_self ..) v σ hf
    rw [List.map_cons, for_nx h1 h3]
    exact for_fold g F xs (fun a ha => h a (List.mem_cons_of_mem _ ha)) (F v a) σ2 h4
theorem wp_fold {β : Type} {Post : Out → Prop} {Fam : β → Sl → Prop} {it : Mi.It} {r : Ss} {σ : Sl} {xs : List α} (g : α → D) (F : β → α → β) (v : β) (hi : evI C it σ m = .ok (.free (xs.map g)) m) (h0 : Fam v σ)
    (h : ∀ a ∈ xs, ∀ v σ, Fam v σ → ∃ σ1, setT x (g a) σ = some σ1 ∧ ∃ σ2, evSs C b σ1 m = .nx σ2 m ∧ Fam (F v a) σ2)
    (k : ∀ σ', Fam (xs.foldl F v) σ' → Post (evSs C r σ' m)) : Post (evSs C (.cons (.for x it b) r) σ m) := by
  rw [run_cons, evS, hi]
  show Post (Out.bind (forD (setT x) (IV.free (xs.map g)).stands (evSs C b) (xs.map g) σ m) _)
  obtain ⟨σ', e2, hf⟩ := for_fold (ys := xs.map g) g F xs h v σ h0
  rw [e2]
  exact k σ' hf
/-- a filter -/
theorem lc_filter (set : D → Option Sl) (st : M → Prop) (ts : Sl → M → R Bool) (e : Sl → M → R D) (g : α → D) (p : α → Bool) (q : α → D) (m : M) (hst : st m) : ∀ (xs : List α) (acc : List D), (∀ a ∈ xs, ∃ σ, set (g a) = some σ ∧ ts σ m = .ok (p a) m ∧ (p a = true → e σ m = .ok (q a) m)) → lcD set st ts e (xs.map g) acc m = .ok (acc ++ (xs.filter p).map q) m
  | [], acc, _ => by rw [List.map_nil, lc_nil _ _ _ _ _ _ hst, List.filter_nil, List.map_nil, List.append_nil]
  | a :: xs, acc, h => by
    obtain ⟨σ, h1, h2, h3⟩ := h a (List.mem_cons_self ..)
    rw [List.map_cons, lc_cons _ _ _ _ _ _ _ _ hst]
    have ih := fun acc => lc_filter set st ts e g p q m hst xs acc fun y hy => h y (List.mem_cons_of_mem _ hy)
    cases hp : p a with
    | false =>
      rw [hp] at h2
      simp only [h1, h2]
      rw [ih, List.filter_cons_of_neg (by rw [hp]; decide)]
    | true =>
      rw [hp] at h2
      simp only [h1, h2, h3 hp]
      rw [ih, List.filter_cons_of_pos hp, List.map_cons, List.append_assoc]
      rfl
end
section
variable {α : Type} {C : Mi.Cx} {vs : List Nat} {x : Tg} {it : Mi.It} {e t : E} {σ : Sl} {m m1 : M}
theorem run_lcF {g q : α → D} {p : α → Bool} {xs : List α} (h1 : evI C it σ m = .ok (.free (xs.map g)) m1)
    (h : ∀ a ∈ xs, ∃ σ', setT x (g a) (wipeM σ vs) = some σ' ∧ evT C t σ' m1 = .ok (p a) m1 ∧ (p a = true → ev C e σ' m1 = .ok (q a) m1)) : evL C (.lc vs x it (.cons t .nil) e) σ m = .ok ((xs.filter p).map q) m1 := by
  rw [evL, h1, bind_ok]
  have := lc_filter (fun d => setT x d (wipeM σ vs)) (IV.free (xs.map g)).stands (evTs C (.cons t .nil)) (ev C e) g p q m1 trivial xs [] fun a ha => by
    obtain ⟨σ', h1, h2, h3⟩ := h a ha
    refine ⟨σ', h1, ?_, h3⟩
    rw [evTs]
    show ((evT C t σ' m1).bind _) = _
    rw [h2, bind_ok]
    cases p a with
    | false => rfl
    | true =>
      rw [if_pos rfl, evTs]
  rw [List.nil_append] at this
  exact this
theorem ev_any {xs : List α} {p : α → Bool} (h : evL C e σ m = .ok (xs.map fun a => .bl (p a)) m1) : ev C (.bt .any e) σ m = .ok (.bl (xs.any p)) m1 := by
  rw [ev, h, bind_ok]
  have : (xs.map fun a => D.bl (p a)) = (xs.map p).map D.bl := by rw [List.map_map]; rfl
  unfold biL
  rw [this]
  simp only [blsD_mapB]
  rw [List.any_map]
  rfl
theorem ev_all {xs : List α} {p : α → Bool} (h : evL C e σ m = .ok (xs.map fun a => .bl (p a)) m1) : ev C (.bt .all e) σ m = .ok (.bl (xs.all p)) m1 := by
  rw [ev, h, bind_ok]
  have : (xs.map fun a => D.bl (p a)) = (xs.map p).map D.bl := by rw [List.map_map]; rfl
  unfold biL
  rw [this]
  simp only [blsD_mapB]
  rw [List.all_map]
  rfl
theorem ev_lenL {ds : List D} (h : evL C e σ m = .ok ds m1) : ev C (.bt .len e) σ m = .ok (.int ds.length) m1 := by
  rw [ev, h, bind_ok]
  rfl
theorem ev_tupL {ds : List D} (h : evL C e σ m = .ok ds m1) : ev C (.bt .tuple e) σ m = .ok (.tup ds) m1 := by
  rw [ev, h, bind_ok]
  rfl
end
theorem ev_bin_ {C : Mi.Cx} {o : Bop} {a b : E} {σ : Sl} {m m1 m2 : M} {x y : D} (h1 : ev C a σ m = .ok x m1) (h2 : ev C b σ m1 = .ok y m2) : ev C (.bin o a b) σ m = binD o x y m2 := by rw [ev, h1, bind_ok, h2, bind_ok]
theorem ev_cmp_ {C : Mi.Cx} {o : Cop} {a b : E} {σ : Sl} {m m1 m2 : M} {x y : D} (h1 : ev C a σ m = .ok x m1) (h2 : ev C b σ m1 = .ok y m2) : ev C (.cmp o a b) σ m = cmpD o x y m2 := by rw [ev, h1, bind_ok, h2, bind_ok]
theorem ev_ix_ {C : Mi.Cx} {a b : E} {σ : Sl} {m m1 m2 : M} {x y : D} (h1 : ev C a σ m = .ok x m1) (h2 : ev C b σ m1 = .ok y m2) : ev C (.ix a b) σ m = ixD x y m2 := by rw [ev, h1, bind_ok, h2, bind_ok]
theorem ev_bi_ {C : Mi.Cx} {f : Bi} {a : E} {σ : Sl} {m m1 : M} {x : D} (h1 : ev C a σ m = .ok x m1) : ev C (.bi f (.cons a .nil)) σ m = biD f [x] m1 := by rw [ev, evs, h1, bind_ok, evs, bind_ok, bind_ok]
theorem ev_var_ {C : Mi.Cx} {i : Nat} {σ : Sl} {m : M} {x : D} (h : σ[i]? = some (some x)) : ev C (.var i) σ m = .ok x m := by rw [ev, h]
theorem ev_cst_ {C : Mi.Cx} {d : D} {σ : Sl} {m : M} : ev C (.cst d) σ m = .ok d m := by rw [ev]
theorem ev_nt_ {C : Mi.Cx} {a : E} {σ : Sl} {m m1 : M} {b : Bool} (h1 : ev C a σ m = .ok (.bl b) m1) : ev C (.nt a) σ m = .ok (.bl (!b)) m1 := by
  rw [ev, h1]
  rfl
/-! ### ranges, boxes, matches -/
abbrev Bx := List (Int × Int)
def pr (p : Int × Int) : D := .tup [.int p.1, .int p.2]
def bx (ps : Bx) : D := .tup (ps.map pr)
theorem at_bx (ps : Bx) (f : Nat) (p : Int × Int) (m : M) (h : ps[f]? = some p) : ixD (bx ps) (.int (f : Nat)) m = .ok (pr p) m :=
  Mi.ix_tup _ _ _ _ (by rw [at_nat, List.getElem?_map, h]; rfl)
theorem at_pr0 (p : Int × Int) (m : M) : ixD (pr p) (.int 0) m = .ok (.int p.1) m := Mi.ix_tup _ _ _ _ (at_0 _ _)
theorem at_pr1 (p : Int × Int) (m : M) : ixD (pr p) (.int 1) m = .ok (.int p.2) m := Mi.ix_tup _ _ _ _ (at_1 _ _ _)
theorem set_pr (i j : Nat) (p : Int × Int) (σ : Sl) : setT (.tp [i, j]) (pr p) σ = some ((σ.set i (some (.int p.1))).set j (some (.int p.2))) := (rfl)
abbrev Mt := List Bx
def mtD (mt : Mt) : D := .tup (mt.map bx)
def hitB (row : Bx) (span : Int × Int) : Bool := row.any fun p => decide (p.1 ≤ span.2) && decide (span.1 ≤ p.2)
def hasB (row : Bx) (span : Int × Int) : Bool := row.any fun p => decide (p.1 ≤ span.1) && decide (span.2 ≤ p.2)
def meetsB (mt : Mt) (b : Bx) : Bool := (mt.zip b).all fun z => hitB z.1 z.2
def containsB (mt : Mt) (b : Bx) : Bool := (mt.zip b).all fun z => hasB z.1 z.2
def B_meets_e (l h : Int) : E := (.and (.cmp .le (.var 4) (.ix (.var 3) (.cst (.int h)))) (.cmp .le (.ix (.var 3) (.cst (.int l))) (.var 5)))
def B_meets : Ss :=
(.cons (.for (.tp [2, 3]) (.zip (.var 0) (.var 1)) (.cons (.ife (.nt (.bt .any (.lc [4, 5] (.tp [4, 5]) (.seq (.var 2)) .nil (.and (.cmp .le (.var 4) (.ix (.var 3) (.cst (.int 1)))) (.cmp .le (.ix (.var 3) (.cst (.int 0))) (.var 5)))))) (.cons (.ret (.cst (.bl false)))
 .nil) .nil)
 .nil))
 (.cons (.ret (.cst (.bl true)))
 .nil))
def B_contains : Ss :=
(.cons (.for (.tp [2, 3]) (.zip (.var 0) (.var 1)) (.cons (.ife (.nt (.bt .any (.lc [4, 5] (.tp [4, 5]) (.seq (.var 2)) .nil (.and (.cmp .le (.var 4) (.ix (.var 3) (.cst (.int 0)))) (.cmp .le (.ix (.var 3) (.cst (.int 1))) (.var 5)))))) (.cons (.ret (.cst (.bl false)))
 .nil) .nil)
 .nil))
 (.cons (.ret (.cst (.bl true)))
 .nil))
theorem zip_items (mt : Mt) (b : Bx) : List.zipWith (fun a b => D.tup [a, b]) (mt.map bx) (b.map pr) = (mt.zip b).map fun z => .tup [bx z.1, pr z.2] := by
  induction mt generalizing b with
  | nil => rfl
  | cons r mt ih =>
    cases b with
    | nil => rfl
    | cons p b =>
      rw [List.map_cons, List.map_cons, List.zipWith_cons_cons, ih, List.zip_cons_cons, List.map_cons]
theorem all_find {α : Type} (xs : List α) (q : α → Bool) : xs.findSome? (fun a => if q a = true then none else some (D.bl false)) = if xs.all q = true then none else some (D.bl false) := by
  induction xs with
  | nil => rfl
  | cons a xs ih =>
    rw [List.findSome?_cons, List.all_cons]
    cases h : q a with
    | true => simp [ih]
    | false => simp
theorem meets_s (C : Mi.Cx) (mt : Mt) (b : Bx) (m : M) : (evSs C B_meets [some (mtD mt), some (bx b), none, none, none, none] m).fin = .ok (.bl (meetsB mt b)) m := by
  unfold B_meets
  let Post : Out → Prop := fun o => o.fin = .ok (.bl (meetsB mt b)) m
  show Post _
  refine wp_find (xs := mt.zip b) (Fam := fun σ => ∃ x2 x3 x4 x5, σ = [some (mtD mt), some (bx b), x2, x3, x4, x5]) (fun z => .tup [bx z.1, pr z.2]) (fun z => if hitB z.1 z.2 = true then none else some (.bl false)) ?_ ⟨_, _, _, _, rfl⟩ ?_ ?_ ?_
  · rw [evI, ← zip_items]
    simp only [evSs, evS, ev, evs, evL, evTs, evo, evI, evT, bind_ok, bind_bad, out_ok, out_bad, obind_nx, obind_rt, obind_bk, obind_ct, obind_bad, fin_nx, fin_rt, fin_bad, tru_bl, tru_non, tru_int, chD_bl, Mi.add_int, Mi.sub_int, Mi.lt_int, Mi.le_int, Mi.gt_int, Mi.ge_int, Mi.eq_int, Mi.ne_int, Mi.eq_bl, Mi.ne_bl, Mi.eq_str, Mi.ne_str, Mi.is_non, Mi.nis_non, Mi.is_bl, Mi.nis_bl, isn_non, isn_bl, isn_int, isn_str, isn_tup, isn_fl, isn_ref, Mi.bi_len, Mi.bi_abs, Mi.bi_int, Mi.bi_intb, Mi.bi_min, Mi.bi_max, Mi.len_str, Mi.len_tup, Mi.len_fl, isi_int, isi_bl, isi_str, isi_non, isi_tup, isi_fl, isTy, List.any_cons, List.any_nil, setT_nm, Mi.lstT_nm, Mi.lstT_tup, List.getElem?_cons_zero, List.getElem?_cons_succ, List.set_cons_zero, List.set_cons_succ, decide_eq_true_eq, Bool.or_false, Bool.or_true, Bool.false_or, Bool.true_or, Bool.not_true, Bool.not_false, Bool.false_eq_true, if_true, if_false, reduceIte, negD, optD, ne_eq, not_true_eq_false, not_false_eq_true, decide_true, decide_false]
    rfl
  · rintro ⟨r, p⟩ hz σ ⟨x2, x3, x4, x5, rfl⟩
    refine ⟨[some (mtD mt), some (bx b), some (bx r), some (pr p), x4, x5], rfl, ?_⟩
    have e := ev_any (C := C) (m1 := m) (xs := r) (p := fun q => decide (q.1 ≤ p.2) && decide (p.1 ≤ q.2)) (run_lcL (C := C) (vs := [4, 5]) (x := .tp [4, 5]) (it := .seq (.var 2)) (σ := [some (mtD mt), some (bx b), some (bx r), some (pr p), x4, x5]) (m := m) (m1 := m) (g := pr) (e := .and (.cmp .le (.var 4) (.ix (.var 3) (.cst (.int 1)))) (.cmp .le (.ix (.var 3) (.cst (.int 0))) (.var 5))) (by simp only [evSs, evS, ev, evs, evL, evTs, evo, evI, evT, bind_ok, bind_bad, out_ok, out_bad, obind_nx, obind_rt, obind_bk, obind_ct, obind_bad, fin_nx, fin_rt, fin_bad, tru_bl, tru_non, tru_int, chD_bl, Mi.add_int, Mi.sub_int, Mi.lt_int, Mi.le_int, Mi.gt_int, Mi.ge_int, Mi.eq_int, Mi.ne_int, Mi.eq_bl, Mi.ne_bl, Mi.eq_str, Mi.ne_str, Mi.is_non, Mi.nis_non, Mi.is_bl, Mi.nis_bl, isn_non, isn_bl, isn_int, isn_str, isn_tup, isn_fl, isn_ref, Mi.bi_len, Mi.bi_abs, Mi.bi_int, Mi.bi_intb, Mi.bi_min, Mi.bi_max, Mi.len_str, Mi.len_tup, Mi.len_fl, isi_int, isi_bl, isi_str, isi_non, isi_tup, isi_fl, isTy, List.any_cons, List.any_nil, setT_nm, Mi.lstT_nm, Mi.lstT_tup, List.getElem?_cons_zero, List.getElem?_cons_succ, List.set_cons_zero, List.set_cons_succ, decide_eq_true_eq, Bool.or_false, Bool.or_true, Bool.false_or, Bool.true_or, Bool.not_true, Bool.not_false, Bool.false_eq_true, if_true, if_false, reduceIte, negD, optD, ne_eq, not_true_eq_false, not_false_eq_true, decide_true, decide_false]; rfl) (fun q _ => ⟨_, set_pr 4 5 q _, by
      simp only [wipeM, evSs, evS, ev, evs, evL, evTs, evo, evI, evT, bind_ok, bind_bad, out_ok, out_bad, obind_nx, obind_rt, obind_bk, obind_ct, obind_bad, fin_nx, fin_rt, fin_bad, tru_bl, tru_non, tru_int, chD_bl, Mi.add_int, Mi.sub_int, Mi.lt_int, Mi.le_int, Mi.gt_int, Mi.ge_int, Mi.eq_int, Mi.ne_int, Mi.eq_bl, Mi.ne_bl, Mi.eq_str, Mi.ne_str, Mi.is_non, Mi.nis_non, Mi.is_bl, Mi.nis_bl, isn_non, isn_bl, isn_int, isn_str, isn_tup, isn_fl, isn_ref, Mi.bi_len, Mi.bi_abs, Mi.bi_int, Mi.bi_intb, Mi.bi_min, Mi.bi_max, Mi.len_str, Mi.len_tup, Mi.len_fl, isi_int, isi_bl, isi_str, isi_non, isi_tup, isi_fl, isTy, List.any_cons, List.any_nil, setT_nm, Mi.lstT_nm, Mi.lstT_tup, List.getElem?_cons_zero, List.getElem?_cons_succ, List.set_cons_zero, List.set_cons_succ, decide_eq_true_eq, Bool.or_false, Bool.or_true, Bool.false_or, Bool.true_or, Bool.not_true, Bool.not_false, Bool.false_eq_true, if_true, if_false, reduceIte, negD, optD, ne_eq, not_true_eq_false, not_false_eq_true, decide_true, decide_false, at_pr0, at_pr1]
      by_cases c : q.1 ≤ p.2 <;> simp [c]⟩))
    have e2 : evT C (.nt (.bt .any (.lc [4, 5] (.tp [4, 5]) (.seq (.var 2)) .nil (.and (.cmp .le (.var 4) (.ix (.var 3) (.cst (.int 1)))) (.cmp .le (.ix (.var 3) (.cst (.int 0))) (.var 5)))))) [some (mtD mt), some (bx b), some (bx r), some (pr p), x4, x5] m = .ok (!hitB r p) m := by
      unfold evT
      rw [ev, e]
      rfl
    cases h : hitB r p with
    | true =>
      rw [h] at e2
      exact .inl ⟨by simp [h], [some (mtD mt), some (bx b), some (bx r), some (pr p), x4, x5], by rw [run_cons, evS, e2]; simp only [evSs, evS, ev, evs, evL, evTs, evo, evI, evT, bind_ok, bind_bad, out_ok, out_bad, obind_nx, obind_rt, obind_bk, obind_ct, obind_bad, fin_nx, fin_rt, fin_bad, tru_bl, tru_non, tru_int, chD_bl, Mi.add_int, Mi.sub_int, Mi.lt_int, Mi.le_int, Mi.gt_int, Mi.ge_int, Mi.eq_int, Mi.ne_int, Mi.eq_bl, Mi.ne_bl, Mi.eq_str, Mi.ne_str, Mi.is_non, Mi.nis_non, Mi.is_bl, Mi.nis_bl, isn_non, isn_bl, isn_int, isn_str, isn_tup, isn_fl, isn_ref, Mi.bi_len, Mi.bi_abs, Mi.bi_int, Mi.bi_intb, Mi.bi_min, Mi.bi_max, Mi.len_str, Mi.len_tup, Mi.len_fl, isi_int, isi_bl, isi_str, isi_non, isi_tup, isi_fl, isTy, List.any_cons, List.any_nil, setT_nm, Mi.lstT_nm, Mi.lstT_tup, List.getElem?_cons_zero, List.getElem?_cons_succ, List.set_cons_zero, List.set_cons_succ, decide_eq_true_eq, Bool.or_false, Bool.or_true, Bool.false_or, Bool.true_or, Bool.not_true, Bool.not_false, Bool.false_eq_true, if_true, if_false, reduceIte, negD, optD, ne_eq, not_true_eq_false, not_false_eq_true, decide_true, decide_false], _, _, _, _, rfl⟩
    | false =>
      rw [h] at e2
      exact .inr ⟨.bl false, by simp [h], by rw [run_cons, evS, e2]; simp only [evSs, evS, ev, evs, evL, evTs, evo, evI, evT, bind_ok, bind_bad, out_ok, out_bad, obind_nx, obind_rt, obind_bk, obind_ct, obind_bad, fin_nx, fin_rt, fin_bad, tru_bl, tru_non, tru_int, chD_bl, Mi.add_int, Mi.sub_int, Mi.lt_int, Mi.le_int, Mi.gt_int, Mi.ge_int, Mi.eq_int, Mi.ne_int, Mi.eq_bl, Mi.ne_bl, Mi.eq_str, Mi.ne_str, Mi.is_non, Mi.nis_non, Mi.is_bl, Mi.nis_bl, isn_non, isn_bl, isn_int, isn_str, isn_tup, isn_fl, isn_ref, Mi.bi_len, Mi.bi_abs, Mi.bi_int, Mi.bi_intb, Mi.bi_min, Mi.bi_max, Mi.len_str, Mi.len_tup, Mi.len_fl, isi_int, isi_bl, isi_str, isi_non, isi_tup, isi_fl, isTy, List.any_cons, List.any_nil, setT_nm, Mi.lstT_nm, Mi.lstT_tup, List.getElem?_cons_zero, List.getElem?_cons_succ, List.set_cons_zero, List.set_cons_succ, decide_eq_true_eq, Bool.or_false, Bool.or_true, Bool.false_or, Bool.true_or, Bool.not_true, Bool.not_false, Bool.false_eq_true, if_true, if_false, reduceIte, negD, optD, ne_eq, not_true_eq_false, not_false_eq_true, decide_true, decide_false]⟩
  · intro e σ' _
    rw [all_find (mt.zip b) (fun z => hitB z.1 z.2)] at e
    show Out.fin _ = _
    have : meetsB mt b = true := by
      unfold meetsB
      by_cases h : ((mt.zip b).all fun z => hitB z.1 z.2) = true
      · exact h
      · rw [if_neg h] at e; cases e
    rw [this]
    simp only [evSs, evS, ev, evs, evL, evTs, evo, evI, evT, bind_ok, bind_bad, out_ok, out_bad, obind_nx, obind_rt, obind_bk, obind_ct, obind_bad, fin_nx, fin_rt, fin_bad, tru_bl, tru_non, tru_int, chD_bl, Mi.add_int, Mi.sub_int, Mi.lt_int, Mi.le_int, Mi.gt_int, Mi.ge_int, Mi.eq_int, Mi.ne_int, Mi.eq_bl, Mi.ne_bl, Mi.eq_str, Mi.ne_str, Mi.is_non, Mi.nis_non, Mi.is_bl, Mi.nis_bl, isn_non, isn_bl, isn_int, isn_str, isn_tup, isn_fl, isn_ref, Mi.bi_len, Mi.bi_abs, Mi.bi_int, Mi.bi_intb, Mi.bi_min, Mi.bi_max, Mi.len_str, Mi.len_tup, Mi.len_fl, isi_int, isi_bl, isi_str, isi_non, isi_tup, isi_fl, isTy, List.any_cons, List.any_nil, setT_nm, Mi.lstT_nm, Mi.lstT_tup, List.getElem?_cons_zero, List.getElem?_cons_succ, List.set_cons_zero, List.set_cons_succ, decide_eq_true_eq, Bool.or_false, Bool.or_true, Bool.false_or, Bool.true_or, Bool.not_true, Bool.not_false, Bool.false_eq_true, if_true, if_false, reduceIte, negD, optD, ne_eq, not_true_eq_false, not_false_eq_true, decide_true, decide_false]
  · intro d e
    rw [all_find (mt.zip b) (fun z => hitB z.1 z.2)] at e
    have : meetsB mt b = false := by
      unfold meetsB
      by_cases h : ((mt.zip b).all fun z => hitB z.1 z.2) = true
      · rw [if_pos h] at e; cases e
      · exact Bool.eq_false_iff.mpr h
    show Out.fin _ = _
    rw [this]
    split at e
    · cases e
    · cases e; rfl
theorem contains_s (C : Mi.Cx) (mt : Mt) (b : Bx) (m : M) : (evSs C B_contains [some (mtD mt), some (bx b), none, none, none, none] m).fin = .ok (.bl (containsB mt b)) m := by
  unfold B_contains
  let Post : Out → Prop := fun o => o.fin = .ok (.bl (containsB mt b)) m
  show Post _
  refine wp_find (xs := mt.zip b) (Fam := fun σ => ∃ x2 x3 x4 x5, σ = [some (mtD mt), some (bx b), x2, x3, x4, x5]) (fun z => .tup [bx z.1, pr z.2]) (fun z => if hasB z.1 z.2 = true then none else some (.bl false)) ?_ ⟨_, _, _, _, rfl⟩ ?_ ?_ ?_
  · rw [evI, ← zip_items]
    simp only [evSs, evS, ev, evs, evL, evTs, evo, evI, evT, bind_ok, bind_bad, out_ok, out_bad, obind_nx, obind_rt, obind_bk, obind_ct, obind_bad, fin_nx, fin_rt, fin_bad, tru_bl, tru_non, tru_int, chD_bl, Mi.add_int, Mi.sub_int, Mi.lt_int, Mi.le_int, Mi.gt_int, Mi.ge_int, Mi.eq_int, Mi.ne_int, Mi.eq_bl, Mi.ne_bl, Mi.eq_str, Mi.ne_str, Mi.is_non, Mi.nis_non, Mi.is_bl, Mi.nis_bl, isn_non, isn_bl, isn_int, isn_str, isn_tup, isn_fl, isn_ref, Mi.bi_len, Mi.bi_abs, Mi.bi_int, Mi.bi_intb, Mi.bi_min, Mi.bi_max, Mi.len_str, Mi.len_tup, Mi.len_fl, isi_int, isi_bl, isi_str, isi_non, isi_tup, isi_fl, isTy, List.any_cons, List.any_nil, setT_nm, Mi.lstT_nm, Mi.lstT_tup, List.getElem?_cons_zero, List.getElem?_cons_succ, List.set_cons_zero, List.set_cons_succ, decide_eq_true_eq, Bool.or_false, Bool.or_true, Bool.false_or, Bool.true_or, Bool.not_true, Bool.not_false, Bool.false_eq_true, if_true, if_false, reduceIte, negD, optD, ne_eq, not_true_eq_false, not_false_eq_true, decide_true, decide_false]
    rfl
  · rintro ⟨r, p⟩ hz σ ⟨x2, x3, x4, x5, rfl⟩
    refine ⟨[some (mtD mt), some (bx b), some (bx r), some (pr p), x4, x5], rfl, ?_⟩
    have e := ev_any (C := C) (m1 := m) (xs := r) (p := fun q => decide (q.1 ≤ p.1) && decide (p.2 ≤ q.2)) (run_lcL (C := C) (vs := [4, 5]) (x := .tp [4, 5]) (it := .seq (.var 2)) (σ := [some (mtD mt), some (bx b), some (bx r), some (pr p), x4, x5]) (m := m) (m1 := m) (g := pr) (e := .and (.cmp .le (.var 4) (.ix (.var 3) (.cst (.int 0)))) (.cmp .le (.ix (.var 3) (.cst (.int 1))) (.var 5))) (by simp only [evSs, evS, ev, evs, evL, evTs, evo, evI, evT, bind_ok, bind_bad, out_ok, out_bad, obind_nx, obind_rt, obind_bk, obind_ct, obind_bad, fin_nx, fin_rt, fin_bad, tru_bl, tru_non, tru_int, chD_bl, Mi.add_int, Mi.sub_int, Mi.lt_int, Mi.le_int, Mi.gt_int, Mi.ge_int, Mi.eq_int, Mi.ne_int, Mi.eq_bl, Mi.ne_bl, Mi.eq_str, Mi.ne_str, Mi.is_non, Mi.nis_non, Mi.is_bl, Mi.nis_bl, isn_non, isn_bl, isn_int, isn_str, isn_tup, isn_fl, isn_ref, Mi.bi_len, Mi.bi_abs, Mi.bi_int, Mi.bi_intb, Mi.bi_min, Mi.bi_max, Mi.len_str, Mi.len_tup, Mi.len_fl, isi_int, isi_bl, isi_str, isi_non, isi_tup, isi_fl, isTy, List.any_cons, List.any_nil, setT_nm, Mi.lstT_nm, Mi.lstT_tup, List.getElem?_cons_zero, List.getElem?_cons_succ, List.set_cons_zero, List.set_cons_succ, decide_eq_true_eq, Bool.or_false, Bool.or_true, Bool.false_or, Bool.true_or, Bool.not_true, Bool.not_false, Bool.false_eq_true, if_true, if_false, reduceIte, negD, optD, ne_eq, not_true_eq_false, not_false_eq_true, decide_true, decide_false]; rfl) (fun q _ => ⟨_, set_pr 4 5 q _, by
      simp only [wipeM, evSs, evS, ev, evs, evL, evTs, evo, evI, evT, bind_ok, bind_bad, out_ok, out_bad, obind_nx, obind_rt, obind_bk, obind_ct, obind_bad, fin_nx, fin_rt, fin_bad, tru_bl, tru_non, tru_int, chD_bl, Mi.add_int, Mi.sub_int, Mi.lt_int, Mi.le_int, Mi.gt_int, Mi.ge_int, Mi.eq_int, Mi.ne_int, Mi.eq_bl, Mi.ne_bl, Mi.eq_str, Mi.ne_str, Mi.is_non, Mi.nis_non, Mi.is_bl, Mi.nis_bl, isn_non, isn_bl, isn_int, isn_str, isn_tup, isn_fl, isn_ref, Mi.bi_len, Mi.bi_abs, Mi.bi_int, Mi.bi_intb, Mi.bi_min, Mi.bi_max, Mi.len_str, Mi.len_tup, Mi.len_fl, isi_int, isi_bl, isi_str, isi_non, isi_tup, isi_fl, isTy, List.any_cons, List.any_nil, setT_nm, Mi.lstT_nm, Mi.lstT_tup, List.getElem?_cons_zero, List.getElem?_cons_succ, List.set_cons_zero, List.set_cons_succ, decide_eq_true_eq, Bool.or_false, Bool.or_true, Bool.false_or, Bool.true_or, Bool.not_true, Bool.not_false, Bool.false_eq_true, if_true, if_false, reduceIte, negD, optD, ne_eq, not_true_eq_false, not_false_eq_true, decide_true, decide_false, at_pr0, at_pr1]
      by_cases c : q.1 ≤ p.1 <;> simp [c]⟩))
    have e2 : evT C (.nt (.bt .any (.lc [4, 5] (.tp [4, 5]) (.seq (.var 2)) .nil (.and (.cmp .le (.var 4) (.ix (.var 3) (.cst (.int 0)))) (.cmp .le (.ix (.var 3) (.cst (.int 1))) (.var 5)))))) [some (mtD mt), some (bx b), some (bx r), some (pr p), x4, x5] m = .ok (!hasB r p) m := by
      unfold evT
      rw [ev, e]
      rfl
    cases h : hasB r p with
    | true =>
      rw [h] at e2
      exact .inl ⟨by simp [h], [some (mtD mt), some (bx b), some (bx r), some (pr p), x4, x5], by rw [run_cons, evS, e2]; simp only [evSs, evS, ev, evs, evL, evTs, evo, evI, evT, bind_ok, bind_bad, out_ok, out_bad, obind_nx, obind_rt, obind_bk, obind_ct, obind_bad, fin_nx, fin_rt, fin_bad, tru_bl, tru_non, tru_int, chD_bl, Mi.add_int, Mi.sub_int, Mi.lt_int, Mi.le_int, Mi.gt_int, Mi.ge_int, Mi.eq_int, Mi.ne_int, Mi.eq_bl, Mi.ne_bl, Mi.eq_str, Mi.ne_str, Mi.is_non, Mi.nis_non, Mi.is_bl, Mi.nis_bl, isn_non, isn_bl, isn_int, isn_str, isn_tup, isn_fl, isn_ref, Mi.bi_len, Mi.bi_abs, Mi.bi_int, Mi.bi_intb, Mi.bi_min, Mi.bi_max, Mi.len_str, Mi.len_tup, Mi.len_fl, isi_int, isi_bl, isi_str, isi_non, isi_tup, isi_fl, isTy, List.any_cons, List.any_nil, setT_nm, Mi.lstT_nm, Mi.lstT_tup, List.getElem?_cons_zero, List.getElem?_cons_succ, List.set_cons_zero, List.set_cons_succ, decide_eq_true_eq, Bool.or_false, Bool.or_true, Bool.false_or, Bool.true_or, Bool.not_true, Bool.not_false, Bool.false_eq_true, if_true, if_false, reduceIte, negD, optD, ne_eq, not_true_eq_false, not_false_eq_true, decide_true, decide_false], _, _, _, _, rfl⟩
    | false =>
      rw [h] at e2
      exact .inr ⟨.bl false, by simp [h], by rw [run_cons, evS, e2]; simp only [evSs, evS, ev, evs, evL, evTs, evo, evI, evT, bind_ok, bind_bad, out_ok, out_bad, obind_nx, obind_rt, obind_bk, obind_ct, obind_bad, fin_nx, fin_rt, fin_bad, tru_bl, tru_non, tru_int, chD_bl, Mi.add_int, Mi.sub_int, Mi.lt_int, Mi.le_int, Mi.gt_int, Mi.ge_int, Mi.eq_int, Mi.ne_int, Mi.eq_bl, Mi.ne_bl, Mi.eq_str, Mi.ne_str, Mi.is_non, Mi.nis_non, Mi.is_bl, Mi.nis_bl, isn_non, isn_bl, isn_int, isn_str, isn_tup, isn_fl, isn_ref, Mi.bi_len, Mi.bi_abs, Mi.bi_int, Mi.bi_intb, Mi.bi_min, Mi.bi_max, Mi.len_str, Mi.len_tup, Mi.len_fl, isi_int, isi_bl, isi_str, isi_non, isi_tup, isi_fl, isTy, List.any_cons, List.any_nil, setT_nm, Mi.lstT_nm, Mi.lstT_tup, List.getElem?_cons_zero, List.getElem?_cons_succ, List.set_cons_zero, List.set_cons_succ, decide_eq_true_eq, Bool.or_false, Bool.or_true, Bool.false_or, Bool.true_or, Bool.not_true, Bool.not_false, Bool.false_eq_true, if_true, if_false, reduceIte, negD, optD, ne_eq, not_true_eq_false, not_false_eq_true, decide_true, decide_false]⟩
  · intro e σ' _
    rw [all_find (mt.zip b) (fun z => hasB z.1 z.2)] at e
    show Out.fin _ = _
    have : containsB mt b = true := by
      unfold containsB
      by_cases h : ((mt.zip b).all fun z => hasB z.1 z.2) = true
      · exact h
      · rw [if_neg h] at e; cases e
    rw [this]
    simp only [evSs, evS, ev, evs, evL, evTs, evo, evI, evT, bind_ok, bind_bad, out_ok, out_bad, obind_nx, obind_rt, obind_bk, obind_ct, obind_bad, fin_nx, fin_rt, fin_bad, tru_bl, tru_non, tru_int, chD_bl, Mi.add_int, Mi.sub_int, Mi.lt_int, Mi.le_int, Mi.gt_int, Mi.ge_int, Mi.eq_int, Mi.ne_int, Mi.eq_bl, Mi.ne_bl, Mi.eq_str, Mi.ne_str, Mi.is_non, Mi.nis_non, Mi.is_bl, Mi.nis_bl, isn_non, isn_bl, isn_int, isn_str, isn_tup, isn_fl, isn_ref, Mi.bi_len, Mi.bi_abs, Mi.bi_int, Mi.bi_intb, Mi.bi_min, Mi.bi_max, Mi.len_str, Mi.len_tup, Mi.len_fl, isi_int, isi_bl, isi_str, isi_non, isi_tup, isi_fl, isTy, List.any_cons, List.any_nil, setT_nm, Mi.lstT_nm, Mi.lstT_tup, List.getElem?_cons_zero, List.getElem?_cons_succ, List.set_cons_zero, List.set_cons_succ, decide_eq_true_eq, Bool.or_false, Bool.or_true, Bool.false_or, Bool.true_or, Bool.not_true, Bool.not_false, Bool.false_eq_true, if_true, if_false, reduceIte, negD, optD, ne_eq, not_true_eq_false, not_false_eq_true, decide_true, decide_false]
  · intro d e
    rw [all_find (mt.zip b) (fun z => hasB z.1 z.2)] at e
    have : containsB mt b = false := by
      unfold containsB
      by_cases h : ((mt.zip b).all fun z => hasB z.1 z.2) = true
      · rw [if_pos h] at e; cases e
      · exact Bool.eq_false_iff.mpr h
    show Out.fin _ = _
    rw [this]
    split at e
    · cases e
    · cases e; rfl
end
end Dr

set_option linter.all false
set_option autoImplicit false
set_option Elab.async false
set_option maxRecDepth 100000
set_option maxHeartbeats 4000000
/-! Dr8: loops that may break; tables, their rules, what leaves are right. -/
namespace Dr
noncomputable section
open PySem L2 Mi
theorem for_bk {all : List D} (set : D → Sl → Option Sl) (st : M → Prop) (b : Sl → M → Out) (P : List D → Sl → M → Prop) (R : Sl → M → Prop) (hst : ∀ pre σ m, P pre σ m → st m)
    (step : ∀ pre x post σ m, all = pre ++ x :: post → P pre σ m → ∃ σ1, set x σ = some σ1 ∧ (NC (P (pre ++ [x])) (b σ1 m) ∨ ∃ σ2 m2, b σ1 m = .bk σ2 m2 ∧ R σ2 m2)) (hR : ∀ σ m, P all σ m → R σ m) :
    ∀ (xs pre : List D) (σ : Sl) (m : M), all = pre ++ xs → P pre σ m → ∃ σ' m', forD set st b xs σ m = .nx σ' m' ∧ R σ' m'
  | [], pre, σ, m, ha, h => ⟨σ, m, for_nil _ _ _ _ _ (hst _ _ _ h), hR _ _ (by rw [ha, List.append_nil]; exact h)⟩
  | x :: xs, pre, σ, m, ha, h => by
    obtain ⟨σ1, h1, h2⟩ := step pre x xs σ m ha h
    rw [for_cons _ _ _ _ _ _ _ (hst _ _ _ h)]
    simp only [h1]
    have ha2 : all = (pre ++ [x]) ++ xs := by rw [ha, List.append_assoc]; rfl
    rcases h2 with ⟨σ2, m2, h2 | h2, h4⟩ | ⟨σ2, m2, h2, h4⟩
    · simp only [h2]
      exact for_bk set st b P R hst step hR xs (pre ++ [x]) σ2 m2 ha2 h4
    · simp only [h2]
      exact for_bk set st b P R hst step hR xs (pre ++ [x]) σ2 m2 ha2 h4
    · simp only [h2]
      exact ⟨σ2, m2, rfl, h4⟩
theorem wp_forb {Post : Out → Prop} {C : Mi.Cx} {x : Tg} {it : Mi.It} {b r : Ss} {σ : Sl} {m m1 : M} {xs : List D} (P : List D → Sl → M → Prop) (R : Sl → M → Prop) (h : evI C it σ m = .ok (.free xs) m1) (h0 : P [] σ m1)
    (step : ∀ pre y post σ m, xs = pre ++ y :: post → P pre σ m → ∃ σ1, setT x y σ = some σ1 ∧ (NC (P (pre ++ [y])) (evSs C b σ1 m) ∨ ∃ σ2 m2, evSs C b σ1 m = .bk σ2 m2 ∧ R σ2 m2)) (hR : ∀ σ m, P xs σ m → R σ m)
    (k : ∀ σ m, R σ m → Post (evSs C r σ m)) : Post (evSs C (.cons (.for x it b) r) σ m) := by
  obtain ⟨σ', m', e, hp⟩ := for_bk (setT x) (IV.free xs).stands (evSs C b) P R (fun _ _ _ _ => trivial) step hR xs [] σ m1 rfl h0
  rw [run_cons, evS, h]
  show Post ((forD (setT x) (IV.free xs).stands (evSs C b) xs σ m1).bind _)
  rw [e]
  exact k σ' m' hp
/-! ### fates, names, rules -/
def fD : Nat → D
  | 0 => .str "pass" | 1 => .str "drop" | 2 => .tup [.str "source", .str "p"] | _ => .str "refuse"
def fP : Nat → PyData
  | 0 => .str "pass" | 1 => .str "drop" | 2 => .tuple [.str "source", .str "p"] | _ => .str "refuse"
theorem py_f (n : Nat) (m : M) : ∀ i, toPy (n + 2) m (fD i) = some (fP i)
  | 0 => rfl
  | 1 => rfl
  | 2 => rfl
  | _ + 3 => rfl
theorem eqv_f : ∀ i, i < 4 → ∀ j, j < 4 → PyData.eqv (fP i) (fP j) = decide (i = j) := by decide +kernel
theorem ok_f : ∀ i, i < 4 → okP (fP i) = true := by decide +kernel
theorem ne_f (i j : Nat) (m : M) (hi : i < 4) (hj : j < 4) : cmpD .ne (fD i) (fD j) m = .ok (.bl (!decide (i = j))) m := by
  rw [ne_of_py m _ _ _ _ (py_f 58 m i) (py_f 58 m j), eqv_f i hi j hj]
theorem eq_f (i j : Nat) (m : M) (hi : i < 4) (hj : j < 4) : cmpD .eq (fD i) (fD j) m = .ok (.bl (decide (i = j))) m := by
  rw [eq_of_py m _ _ _ _ (py_f 58 m i) (py_f 58 m j), eqv_f i hi j hj]
def nmL : List Str := ["few", "once", "all"]
def nD (n : Nat) : D := .tup ((nmL.take n).map .str)
def nP (n : Nat) : PyData := .tuple ((nmL.take n).map .str)
theorem py_n (k : Nat) (m : M) (n : Nat) : toPy (k + 2) m (nD n) = some (nP n) := by
  unfold nD nP
  rw [py_tup, mapO_map (toPy (k + 1) m) D.str PyData.str (fun x => py_str k m x)]
  rfl
theorem ok_n (n : Nat) : okP (nP n) = true := by
  unfold nP
  rw [okP_tup]
  refine okPs_of _ fun p hp => ?_
  obtain ⟨w, hw, rfl⟩ := List.mem_map.mp hp
  have hw := List.mem_of_mem_take hw
  simp only [nmL, List.mem_cons, List.not_mem_nil, or_false] at hw
  rcases hw with rfl | rfl | rfl <;> exact word_ok _ (by decide +kernel)
structure Rl where
  mt : Mt
  f : Nat
  n : Nat
def rlD (r : Rl) : D := .tup [mtD r.mt, fD r.f, nD r.n]
structure Tb where
  rs : List Rl
  lf : Nat
  ln : Nat
def tbD (t : Tb) : D := .tup [.tup (t.rs.map rlD), .tup [fD t.lf, nD t.ln]]
def r0 : Rl := ⟨[], 0, 0⟩
def Tb.at (t : Tb) (k : Nat) : Rl := t.rs.getD k r0
def Tb.fate (t : Tb) (k : Nat) : Nat := if k = t.rs.length then t.lf else (t.at k).f
def Tb.ok (t : Tb) : Prop := (∀ r ∈ t.rs, r.f < 4) ∧ t.lf < 4
theorem Tb.at_get {t : Tb} {k : Nat} (h : k < t.rs.length) : t.rs[k]? = some (t.at k) := by
  unfold Tb.at
  rw [List.getD_eq_getElem?_getD, List.getElem?_eq_getElem h]
  rfl
theorem Tb.at_mem {t : Tb} {k : Nat} (h : k < t.rs.length) : t.at k ∈ t.rs := List.mem_of_getElem? (Tb.at_get h)
theorem Tb.fate_lt {t : Tb} (o : t.ok) {k : Nat} (h : k ≤ t.rs.length) : t.fate k < 4 := by
  unfold Tb.fate
  split
  · exact o.2
  · exact o.1 _ (Tb.at_mem (by omega))
theorem ix_rs (t : Tb) (k : Nat) (m : M) (h : k < t.rs.length) : ixD (.tup (t.rs.map rlD)) (.int (k : Nat)) m = .ok (rlD (t.at k)) m :=
  Mi.ix_tup _ _ _ _ (by rw [at_nat, List.getElem?_map, Tb.at_get h]; rfl)
theorem rl0 (r : Rl) (m : M) : ixD (rlD r) (.int 0) m = .ok (mtD r.mt) m := Mi.ix_tup _ _ _ _ (at_0 _ _)
theorem rl1 (r : Rl) (m : M) : ixD (rlD r) (.int 1) m = .ok (fD r.f) m := Mi.ix_tup _ _ _ _ (at_1 _ _ _)
theorem tb0 (t : Tb) (m : M) : ixD (tbD t) (.int 0) m = .ok (.tup (t.rs.map rlD)) m := Mi.ix_tup _ _ _ _ (at_0 _ _)
theorem tb1 (t : Tb) (m : M) : ixD (tbD t) (.int 1) m = .ok (.tup [fD t.lf, nD t.ln]) m := Mi.ix_tup _ _ _ _ (at_1 _ _ _)
def B_fate_of : Ss :=
(.cons (.set (.tp [2, 3]) (.var 0))
 (.cons (.ret (.ife (.cmp .eq (.var 1) (.bi .len (.cons (.var 2) .nil))) (.ix (.var 3) (.cst (.int 0))) (.ix (.ix (.var 2) (.var 1)) (.cst (.int 1)))))
 .nil))
theorem fate_s (C : Mi.Cx) (t : Tb) (k : Nat) (m : M) (h : k ≤ t.rs.length) : (evSs C B_fate_of [some (tbD t), some (.int (k : Nat)), none, none] m).fin = .ok (fD (t.fate k)) m := by
  unfold B_fate_of
  let Post : Out → Prop := fun o => o.fin = .ok (fD (t.fate k)) m
  show Post _
  refine wp_set (d := tbD t) (m1 := m) (σ1 := [some (tbD t), some (.int (k : Nat)), some (.tup (t.rs.map rlD)), some (.tup [fD t.lf, nD t.ln])]) (by simp only [evSs, evS, ev, evs, evL, evTs, evo, evI, evT, bind_ok, bind_bad, out_ok, out_bad, obind_nx, obind_rt, obind_bk, obind_ct, obind_bad, fin_nx, fin_rt, fin_bad, tru_bl, tru_non, tru_int, chD_bl, Mi.add_int, Mi.sub_int, Mi.lt_int, Mi.le_int, Mi.gt_int, Mi.ge_int, Mi.eq_int, Mi.ne_int, Mi.eq_bl, Mi.ne_bl, Mi.eq_str, Mi.ne_str, Mi.is_non, Mi.nis_non, Mi.is_bl, Mi.nis_bl, isn_non, isn_bl, isn_int, isn_str, isn_tup, isn_fl, isn_ref, Mi.bi_len, Mi.bi_abs, Mi.bi_int, Mi.bi_intb, Mi.bi_min, Mi.bi_max, Mi.len_str, Mi.len_tup, Mi.len_fl, isi_int, isi_bl, isi_str, isi_non, isi_tup, isi_fl, isTy, List.any_cons, List.any_nil, setT_nm, Mi.lstT_nm, Mi.lstT_tup, List.getElem?_cons_zero, List.getElem?_cons_succ, List.set_cons_zero, List.set_cons_succ, decide_eq_true_eq, Bool.or_false, Bool.or_true, Bool.false_or, Bool.true_or, Bool.not_true, Bool.not_false, Bool.false_eq_true, if_true, if_false, reduceIte, negD, optD, ne_eq, not_true_eq_false, not_false_eq_true, decide_true, decide_false]) rfl ?_
  show Out.fin _ = _
  unfold Tb.fate
  by_cases z : k = t.rs.length
  · subst z
    simp only [evSs, evS, ev, evs, evL, evTs, evo, evI, evT, bind_ok, bind_bad, out_ok, out_bad, obind_nx, obind_rt, obind_bk, obind_ct, obind_bad, fin_nx, fin_rt, fin_bad, tru_bl, tru_non, tru_int, chD_bl, Mi.add_int, Mi.sub_int, Mi.lt_int, Mi.le_int, Mi.gt_int, Mi.ge_int, Mi.eq_int, Mi.ne_int, Mi.eq_bl, Mi.ne_bl, Mi.eq_str, Mi.ne_str, Mi.is_non, Mi.nis_non, Mi.is_bl, Mi.nis_bl, isn_non, isn_bl, isn_int, isn_str, isn_tup, isn_fl, isn_ref, Mi.bi_len, Mi.bi_abs, Mi.bi_int, Mi.bi_intb, Mi.bi_min, Mi.bi_max, Mi.len_str, Mi.len_tup, Mi.len_fl, isi_int, isi_bl, isi_str, isi_non, isi_tup, isi_fl, isTy, List.any_cons, List.any_nil, setT_nm, Mi.lstT_nm, Mi.lstT_tup, List.getElem?_cons_zero, List.getElem?_cons_succ, List.set_cons_zero, List.set_cons_succ, decide_eq_true_eq, Bool.or_false, Bool.or_true, Bool.false_or, Bool.true_or, Bool.not_true, Bool.not_false, Bool.false_eq_true, if_true, if_false, reduceIte, negD, optD, ne_eq, not_true_eq_false, not_false_eq_true, decide_true, decide_false, ix_t, Mi.at_0, Mi.at_1, Dr.at_2, Dr.at_3, Dr.at_4, Dr.at_5, Dr.at_6, Dr.at_7, Dr.at_8, Dr.at_9, List.length_map]
  · have z' : ¬ (k : Int) = t.rs.length := by omega
    simp only [evSs, evS, ev, evs, evL, evTs, evo, evI, evT, bind_ok, bind_bad, out_ok, out_bad, obind_nx, obind_rt, obind_bk, obind_ct, obind_bad, fin_nx, fin_rt, fin_bad, tru_bl, tru_non, tru_int, chD_bl, Mi.add_int, Mi.sub_int, Mi.lt_int, Mi.le_int, Mi.gt_int, Mi.ge_int, Mi.eq_int, Mi.ne_int, Mi.eq_bl, Mi.ne_bl, Mi.eq_str, Mi.ne_str, Mi.is_non, Mi.nis_non, Mi.is_bl, Mi.nis_bl, isn_non, isn_bl, isn_int, isn_str, isn_tup, isn_fl, isn_ref, Mi.bi_len, Mi.bi_abs, Mi.bi_int, Mi.bi_intb, Mi.bi_min, Mi.bi_max, Mi.len_str, Mi.len_tup, Mi.len_fl, isi_int, isi_bl, isi_str, isi_non, isi_tup, isi_fl, isTy, List.any_cons, List.any_nil, setT_nm, Mi.lstT_nm, Mi.lstT_tup, List.getElem?_cons_zero, List.getElem?_cons_succ, List.set_cons_zero, List.set_cons_succ, decide_eq_true_eq, Bool.or_false, Bool.or_true, Bool.false_or, Bool.true_or, Bool.not_true, Bool.not_false, Bool.false_eq_true, if_true, if_false, reduceIte, negD, optD, ne_eq, not_true_eq_false, not_false_eq_true, decide_true, decide_false, List.length_map, z, z', ix_rs t k m (by omega), rl1]
/-! ### leaves -/
def IsMt (g : List D → M → R D) (p : Mt → Bx → Bool) : Prop := ∀ mt b m, g [mtD mt, bx b] m = .ok (.bl (p mt b)) m
def B_decides (fm fc : Nat) : Ss :=
(.cons (.set (.nm 3) (.ix (.var 0) (.cst (.int 0))))
 (.cons (.ife (.bt .any (.lc [4] (.nm 4) (.rng1 (.var 2)) .nil (.fn "meets" fm (.cons (.ix (.ix (.var 3) (.var 4)) (.cst (.int 0))) (.cons (.var 1) .nil))))) (.cons (.ret (.cst (.bl false)))
 .nil) .nil)
 (.cons (.ret (.or (.cmp .eq (.var 2) (.bi .len (.cons (.var 3) .nil))) (.fn "contains" fc (.cons (.ix (.ix (.var 3) (.var 2)) (.cst (.int 0))) (.cons (.var 1) .nil)))))
 .nil)))
def decidesB (t : Tb) (b : Bx) (k : Nat) : Bool := !((List.range k).any fun j => meetsB (t.at j).mt b) && (decide (k = t.rs.length) || containsB (t.at k).mt b)
theorem decides_s (C : Mi.Cx) (fm fc : Nat) (hm : IsMt (C.call fm) meetsB) (hc : IsMt (C.call fc) containsB) (t : Tb) (b : Bx) (k : Nat) (m : M) (h : k ≤ t.rs.length) (hl : t.rs.length ≤ line) :
    (evSs C (B_decides fm fc) [some (tbD t), some (bx b), some (.int (k : Nat)), none, none] m).fin = .ok (.bl (decidesB t b k)) m := by
  unfold B_decides
  let Post : Out → Prop := fun o => o.fin = .ok (.bl (decidesB t b k)) m
  show Post _
  refine wp_set (d := .tup (t.rs.map rlD)) (m1 := m) (by simp only [evSs, evS, ev, evs, evL, evTs, evo, evI, evT, bind_ok, bind_bad, out_ok, out_bad, obind_nx, obind_rt, obind_bk, obind_ct, obind_bad, fin_nx, fin_rt, fin_bad, tru_bl, tru_non, tru_int, chD_bl, Mi.add_int, Mi.sub_int, Mi.lt_int, Mi.le_int, Mi.gt_int, Mi.ge_int, Mi.eq_int, Mi.ne_int, Mi.eq_bl, Mi.ne_bl, Mi.eq_str, Mi.ne_str, Mi.is_non, Mi.nis_non, Mi.is_bl, Mi.nis_bl, isn_non, isn_bl, isn_int, isn_str, isn_tup, isn_fl, isn_ref, Mi.bi_len, Mi.bi_abs, Mi.bi_int, Mi.bi_intb, Mi.bi_min, Mi.bi_max, Mi.len_str, Mi.len_tup, Mi.len_fl, isi_int, isi_bl, isi_str, isi_non, isi_tup, isi_fl, isTy, List.any_cons, List.any_nil, setT_nm, Mi.lstT_nm, Mi.lstT_tup, List.getElem?_cons_zero, List.getElem?_cons_succ, List.set_cons_zero, List.set_cons_succ, decide_eq_true_eq, Bool.or_false, Bool.or_true, Bool.false_or, Bool.true_or, Bool.not_true, Bool.not_false, Bool.false_eq_true, if_true, if_false, reduceIte, negD, optD, ne_eq, not_true_eq_false, not_false_eq_true, decide_true, decide_false, tb0]) rfl ?_
  simp only [List.set_cons_succ, List.set_cons_zero]
  have e := ev_any (C := C) (m1 := m) (xs := List.range k) (p := fun j => meetsB (t.at j).mt b) (run_lcL (C := C) (vs := [4]) (x := .nm 4) (it := .rng1 (.var 2)) (σ := [some (tbD t), some (bx b), some (.int (k : Nat)), some (.tup (t.rs.map rlD)), none]) (m := m) (m1 := m) (g := fun j : Nat => .int (j : Nat)) (e := .fn "meets" fm (.cons (.ix (.ix (.var 3) (.var 4)) (.cst (.int 0))) (.cons (.var 1) .nil))) (evI_rng1 (n := k) (by simp only [evSs, evS, ev, evs, evL, evTs, evo, evI, evT, bind_ok, bind_bad, out_ok, out_bad, obind_nx, obind_rt, obind_bk, obind_ct, obind_bad, fin_nx, fin_rt, fin_bad, tru_bl, tru_non, tru_int, chD_bl, Mi.add_int, Mi.sub_int, Mi.lt_int, Mi.le_int, Mi.gt_int, Mi.ge_int, Mi.eq_int, Mi.ne_int, Mi.eq_bl, Mi.ne_bl, Mi.eq_str, Mi.ne_str, Mi.is_non, Mi.nis_non, Mi.is_bl, Mi.nis_bl, isn_non, isn_bl, isn_int, isn_str, isn_tup, isn_fl, isn_ref, Mi.bi_len, Mi.bi_abs, Mi.bi_int, Mi.bi_intb, Mi.bi_min, Mi.bi_max, Mi.len_str, Mi.len_tup, Mi.len_fl, isi_int, isi_bl, isi_str, isi_non, isi_tup, isi_fl, isTy, List.any_cons, List.any_nil, setT_nm, Mi.lstT_nm, Mi.lstT_tup, List.getElem?_cons_zero, List.getElem?_cons_succ, List.set_cons_zero, List.set_cons_succ, decide_eq_true_eq, Bool.or_false, Bool.or_true, Bool.false_or, Bool.true_or, Bool.not_true, Bool.not_false, Bool.false_eq_true, if_true, if_false, reduceIte, negD, optD, ne_eq, not_true_eq_false, not_false_eq_true, decide_true, decide_false]) (by omega)) (fun j hj => ⟨_, rfl, by
    have hj := List.mem_range.mp hj
    simp only [wipeM, evSs, evS, ev, evs, evL, evTs, evo, evI, evT, bind_ok, bind_bad, out_ok, out_bad, obind_nx, obind_rt, obind_bk, obind_ct, obind_bad, fin_nx, fin_rt, fin_bad, tru_bl, tru_non, tru_int, chD_bl, Mi.add_int, Mi.sub_int, Mi.lt_int, Mi.le_int, Mi.gt_int, Mi.ge_int, Mi.eq_int, Mi.ne_int, Mi.eq_bl, Mi.ne_bl, Mi.eq_str, Mi.ne_str, Mi.is_non, Mi.nis_non, Mi.is_bl, Mi.nis_bl, isn_non, isn_bl, isn_int, isn_str, isn_tup, isn_fl, isn_ref, Mi.bi_len, Mi.bi_abs, Mi.bi_int, Mi.bi_intb, Mi.bi_min, Mi.bi_max, Mi.len_str, Mi.len_tup, Mi.len_fl, isi_int, isi_bl, isi_str, isi_non, isi_tup, isi_fl, isTy, List.any_cons, List.any_nil, setT_nm, Mi.lstT_nm, Mi.lstT_tup, List.getElem?_cons_zero, List.getElem?_cons_succ, List.set_cons_zero, List.set_cons_succ, decide_eq_true_eq, Bool.or_false, Bool.or_true, Bool.false_or, Bool.true_or, Bool.not_true, Bool.not_false, Bool.false_eq_true, if_true, if_false, reduceIte, negD, optD, ne_eq, not_true_eq_false, not_false_eq_true, decide_true, decide_false, ix_rs t j m (by omega), rl0, hm (t.at j).mt b m]⟩))
  cases a : (List.range k).any fun j => meetsB (t.at j).mt b with
  | true =>
    rw [a] at e
    refine wp_if (t := true) (m1 := m) (by unfold evT; rw [e]; rfl) ?_
    show Out.fin _ = .ok (.bl (decidesB t b k)) m
    unfold decidesB
    rw [a]
    simp only [evSs, evS, ev, evs, evL, evTs, evo, evI, evT, bind_ok, bind_bad, out_ok, out_bad, obind_nx, obind_rt, obind_bk, obind_ct, obind_bad, fin_nx, fin_rt, fin_bad, tru_bl, tru_non, tru_int, chD_bl, Mi.add_int, Mi.sub_int, Mi.lt_int, Mi.le_int, Mi.gt_int, Mi.ge_int, Mi.eq_int, Mi.ne_int, Mi.eq_bl, Mi.ne_bl, Mi.eq_str, Mi.ne_str, Mi.is_non, Mi.nis_non, Mi.is_bl, Mi.nis_bl, isn_non, isn_bl, isn_int, isn_str, isn_tup, isn_fl, isn_ref, Mi.bi_len, Mi.bi_abs, Mi.bi_int, Mi.bi_intb, Mi.bi_min, Mi.bi_max, Mi.len_str, Mi.len_tup, Mi.len_fl, isi_int, isi_bl, isi_str, isi_non, isi_tup, isi_fl, isTy, List.any_cons, List.any_nil, setT_nm, Mi.lstT_nm, Mi.lstT_tup, List.getElem?_cons_zero, List.getElem?_cons_succ, List.set_cons_zero, List.set_cons_succ, decide_eq_true_eq, Bool.or_false, Bool.or_true, Bool.false_or, Bool.true_or, Bool.not_true, Bool.not_false, Bool.false_eq_true, if_true, if_false, reduceIte, negD, optD, ne_eq, not_true_eq_false, not_false_eq_true, decide_true, decide_false]
    rfl
  | false =>
    rw [a] at e
    refine wp_no (m1 := m) (by unfold evT; rw [e]; rfl) ?_
    show Out.fin _ = .ok (.bl (decidesB t b k)) m
    unfold decidesB
    rw [a]
    by_cases z : k = t.rs.length
    · subst z
      simp only [evSs, evS, ev, evs, evL, evTs, evo, evI, evT, bind_ok, bind_bad, out_ok, out_bad, obind_nx, obind_rt, obind_bk, obind_ct, obind_bad, fin_nx, fin_rt, fin_bad, tru_bl, tru_non, tru_int, chD_bl, Mi.add_int, Mi.sub_int, Mi.lt_int, Mi.le_int, Mi.gt_int, Mi.ge_int, Mi.eq_int, Mi.ne_int, Mi.eq_bl, Mi.ne_bl, Mi.eq_str, Mi.ne_str, Mi.is_non, Mi.nis_non, Mi.is_bl, Mi.nis_bl, isn_non, isn_bl, isn_int, isn_str, isn_tup, isn_fl, isn_ref, Mi.bi_len, Mi.bi_abs, Mi.bi_int, Mi.bi_intb, Mi.bi_min, Mi.bi_max, Mi.len_str, Mi.len_tup, Mi.len_fl, isi_int, isi_bl, isi_str, isi_non, isi_tup, isi_fl, isTy, List.any_cons, List.any_nil, setT_nm, Mi.lstT_nm, Mi.lstT_tup, List.getElem?_cons_zero, List.getElem?_cons_succ, List.set_cons_zero, List.set_cons_succ, decide_eq_true_eq, Bool.or_false, Bool.or_true, Bool.false_or, Bool.true_or, Bool.not_true, Bool.not_false, Bool.false_eq_true, if_true, if_false, reduceIte, negD, optD, ne_eq, not_true_eq_false, not_false_eq_true, decide_true, decide_false, List.length_map]
      rfl
    · have z' : ¬ (k : Int) = t.rs.length := by omega
      simp only [evSs, evS, ev, evs, evL, evTs, evo, evI, evT, bind_ok, bind_bad, out_ok, out_bad, obind_nx, obind_rt, obind_bk, obind_ct, obind_bad, fin_nx, fin_rt, fin_bad, tru_bl, tru_non, tru_int, chD_bl, Mi.add_int, Mi.sub_int, Mi.lt_int, Mi.le_int, Mi.gt_int, Mi.ge_int, Mi.eq_int, Mi.ne_int, Mi.eq_bl, Mi.ne_bl, Mi.eq_str, Mi.ne_str, Mi.is_non, Mi.nis_non, Mi.is_bl, Mi.nis_bl, isn_non, isn_bl, isn_int, isn_str, isn_tup, isn_fl, isn_ref, Mi.bi_len, Mi.bi_abs, Mi.bi_int, Mi.bi_intb, Mi.bi_min, Mi.bi_max, Mi.len_str, Mi.len_tup, Mi.len_fl, isi_int, isi_bl, isi_str, isi_non, isi_tup, isi_fl, isTy, List.any_cons, List.any_nil, setT_nm, Mi.lstT_nm, Mi.lstT_tup, List.getElem?_cons_zero, List.getElem?_cons_succ, List.set_cons_zero, List.set_cons_succ, decide_eq_true_eq, Bool.or_false, Bool.or_true, Bool.false_or, Bool.true_or, Bool.not_true, Bool.not_false, Bool.false_eq_true, if_true, if_false, reduceIte, negD, optD, ne_eq, not_true_eq_false, not_false_eq_true, decide_true, decide_false, List.length_map, z, z', ix_rs t k m (by omega), rl0, hc (t.at k).mt b m]
      rfl
def alikeQ (f : Nat) (b : Bx) (r : Rl) : Option Bool := if meetsB r.mt b = true then (if r.f = f then (if containsB r.mt b = true then some true else none) else some false) else none
def alikeB (t : Tb) (b : Bx) (k : Nat) : Bool := (t.rs.findSome? (alikeQ (t.fate k) b)).getD (decide (t.lf = t.fate k))
theorem find_map {α β γ : Type} (q : α → Option β) (g : β → γ) : ∀ xs : List α, xs.findSome? (fun a => (q a).map g) = (xs.findSome? q).map g
  | [] => rfl
  | a :: xs => by
    rw [List.findSome?_cons, List.findSome?_cons, find_map q g xs]
    cases q a <;> rfl
def B_is_alike (ff fm fc : Nat) : Ss :=
(.cons (.set (.nm 3) (.ix (.var 0) (.cst (.int 0))))
 (.cons (.set (.nm 4) (.fn "fate_of" ff (.cons (.var 0) (.cons (.var 2) .nil))))
 (.cons (.for (.tp [5, 6, 7]) (.seq (.var 3)) (.cons (.ife (.fn "meets" fm (.cons (.var 5) (.cons (.var 1) .nil))) (.cons (.ife (.cmp .ne (.var 6) (.var 4)) (.cons (.ret (.cst (.bl false)))
 .nil) .nil)
 (.cons (.ife (.fn "contains" fc (.cons (.var 5) (.cons (.var 1) .nil))) (.cons (.ret (.cst (.bl true)))
 .nil) .nil)
 .nil)) .nil)
 .nil))
 (.cons (.ret (.cmp .eq (.ix (.ix (.var 0) (.cst (.int 1))) (.cst (.int 0))) (.var 4)))
 .nil))))
def IsFate (g : List D → M → R D) : Prop := ∀ (t : Tb) (k : Nat) m, k ≤ t.rs.length → g [tbD t, .int (k : Nat)] m = .ok (fD (t.fate k)) m
theorem alike_s (C : Mi.Cx) (ff fm fc : Nat) (hf : IsFate (C.call ff)) (hm : IsMt (C.call fm) meetsB) (hc : IsMt (C.call fc) containsB) (t : Tb) (b : Bx) (k : Nat) (m : M) (h : k ≤ t.rs.length) (o : t.ok) :
    (evSs C (B_is_alike ff fm fc) [some (tbD t), some (bx b), some (.int (k : Nat)), none, none, none, none, none] m).fin = .ok (.bl (alikeB t b k)) m := by
  unfold B_is_alike
  have fl := Tb.fate_lt o h
  have hk := hf t k m h
  unfold alikeB
  generalize t.fate k = f at *
  let Post : Out → Prop := fun out => out.fin = .ok (.bl ((t.rs.findSome? (alikeQ f b)).getD (decide (t.lf = f)))) m
  show Post _
  refine wp_set (d := .tup (t.rs.map rlD)) (m1 := m) (by simp only [evSs, evS, ev, evs, evL, evTs, evo, evI, evT, bind_ok, bind_bad, out_ok, out_bad, obind_nx, obind_rt, obind_bk, obind_ct, obind_bad, fin_nx, fin_rt, fin_bad, tru_bl, tru_non, tru_int, chD_bl, Mi.add_int, Mi.sub_int, Mi.lt_int, Mi.le_int, Mi.gt_int, Mi.ge_int, Mi.eq_int, Mi.ne_int, Mi.eq_bl, Mi.ne_bl, Mi.eq_str, Mi.ne_str, Mi.is_non, Mi.nis_non, Mi.is_bl, Mi.nis_bl, isn_non, isn_bl, isn_int, isn_str, isn_tup, isn_fl, isn_ref, Mi.bi_len, Mi.bi_abs, Mi.bi_int, Mi.bi_intb, Mi.bi_min, Mi.bi_max, Mi.len_str, Mi.len_tup, Mi.len_fl, isi_int, isi_bl, isi_str, isi_non, isi_tup, isi_fl, isTy, List.any_cons, List.any_nil, setT_nm, Mi.lstT_nm, Mi.lstT_tup, List.getElem?_cons_zero, List.getElem?_cons_succ, List.set_cons_zero, List.set_cons_succ, decide_eq_true_eq, Bool.or_false, Bool.or_true, Bool.false_or, Bool.true_or, Bool.not_true, Bool.not_false, Bool.false_eq_true, if_true, if_false, reduceIte, negD, optD, ne_eq, not_true_eq_false, not_false_eq_true, decide_true, decide_false, tb0]) rfl ?_
  simp only [List.set_cons_succ, List.set_cons_zero]
  refine wp_set (d := fD f) (m1 := m) (by simp only [evSs, evS, ev, evs, evL, evTs, evo, evI, evT, bind_ok, bind_bad, out_ok, out_bad, obind_nx, obind_rt, obind_bk, obind_ct, obind_bad, fin_nx, fin_rt, fin_bad, tru_bl, tru_non, tru_int, chD_bl, Mi.add_int, Mi.sub_int, Mi.lt_int, Mi.le_int, Mi.gt_int, Mi.ge_int, Mi.eq_int, Mi.ne_int, Mi.eq_bl, Mi.ne_bl, Mi.eq_str, Mi.ne_str, Mi.is_non, Mi.nis_non, Mi.is_bl, Mi.nis_bl, isn_non, isn_bl, isn_int, isn_str, isn_tup, isn_fl, isn_ref, Mi.bi_len, Mi.bi_abs, Mi.bi_int, Mi.bi_intb, Mi.bi_min, Mi.bi_max, Mi.len_str, Mi.len_tup, Mi.len_fl, isi_int, isi_bl, isi_str, isi_non, isi_tup, isi_fl, isTy, List.any_cons, List.any_nil, setT_nm, Mi.lstT_nm, Mi.lstT_tup, List.getElem?_cons_zero, List.getElem?_cons_succ, List.set_cons_zero, List.set_cons_succ, decide_eq_true_eq, Bool.or_false, Bool.or_true, Bool.false_or, Bool.true_or, Bool.not_true, Bool.not_false, Bool.false_eq_true, if_true, if_false, reduceIte, negD, optD, ne_eq, not_true_eq_false, not_false_eq_true, decide_true, decide_false, hk]) rfl ?_
  simp only [List.set_cons_succ, List.set_cons_zero]
  refine wp_find (xs := t.rs) (Fam := fun σ => ∃ x5 x6 x7, σ = [some (tbD t), some (bx b), some (.int (k : Nat)), some (.tup (t.rs.map rlD)), some (fD f), x5, x6, x7]) rlD (fun r => (alikeQ f b r).map D.bl) (by simp only [evSs, evS, ev, evs, evL, evTs, evo, evI, evT, bind_ok, bind_bad, out_ok, out_bad, obind_nx, obind_rt, obind_bk, obind_ct, obind_bad, fin_nx, fin_rt, fin_bad, tru_bl, tru_non, tru_int, chD_bl, Mi.add_int, Mi.sub_int, Mi.lt_int, Mi.le_int, Mi.gt_int, Mi.ge_int, Mi.eq_int, Mi.ne_int, Mi.eq_bl, Mi.ne_bl, Mi.eq_str, Mi.ne_str, Mi.is_non, Mi.nis_non, Mi.is_bl, Mi.nis_bl, isn_non, isn_bl, isn_int, isn_str, isn_tup, isn_fl, isn_ref, Mi.bi_len, Mi.bi_abs, Mi.bi_int, Mi.bi_intb, Mi.bi_min, Mi.bi_max, Mi.len_str, Mi.len_tup, Mi.len_fl, isi_int, isi_bl, isi_str, isi_non, isi_tup, isi_fl, isTy, List.any_cons, List.any_nil, setT_nm, Mi.lstT_nm, Mi.lstT_tup, List.getElem?_cons_zero, List.getElem?_cons_succ, List.set_cons_zero, List.set_cons_succ, decide_eq_true_eq, Bool.or_false, Bool.or_true, Bool.false_or, Bool.true_or, Bool.not_true, Bool.not_false, Bool.false_eq_true, if_true, if_false, reduceIte, negD, optD, ne_eq, not_true_eq_false, not_false_eq_true, decide_true, decide_false]; rfl) ⟨_, _, _, rfl⟩ ?_ ?_ ?_
  · rintro r hr σ ⟨x5, x6, x7, rfl⟩
    refine ⟨[some (tbD t), some (bx b), some (.int (k : Nat)), some (.tup (t.rs.map rlD)), some (fD f), some (mtD r.mt), some (fD r.f), some (nD r.n)], rfl, ?_⟩
    have nf := ne_f r.f f m (o.1 r hr) fl
    have m0 := hm r.mt b m
    have c0 := hc r.mt b m
    unfold alikeQ
    cases a1 : meetsB r.mt b with
    | false =>
      rw [a1] at m0
      exact .inl ⟨rfl, [some (tbD t), some (bx b), some (.int (k : Nat)), some (.tup (t.rs.map rlD)), some (fD f), some (mtD r.mt), some (fD r.f), some (nD r.n)], by simp only [evSs, evS, ev, evs, evL, evTs, evo, evI, evT, bind_ok, bind_bad, out_ok, out_bad, obind_nx, obind_rt, obind_bk, obind_ct, obind_bad, fin_nx, fin_rt, fin_bad, tru_bl, tru_non, tru_int, chD_bl, Mi.add_int, Mi.sub_int, Mi.lt_int, Mi.le_int, Mi.gt_int, Mi.ge_int, Mi.eq_int, Mi.ne_int, Mi.eq_bl, Mi.ne_bl, Mi.eq_str, Mi.ne_str, Mi.is_non, Mi.nis_non, Mi.is_bl, Mi.nis_bl, isn_non, isn_bl, isn_int, isn_str, isn_tup, isn_fl, isn_ref, Mi.bi_len, Mi.bi_abs, Mi.bi_int, Mi.bi_intb, Mi.bi_min, Mi.bi_max, Mi.len_str, Mi.len_tup, Mi.len_fl, isi_int, isi_bl, isi_str, isi_non, isi_tup, isi_fl, isTy, List.any_cons, List.any_nil, setT_nm, Mi.lstT_nm, Mi.lstT_tup, List.getElem?_cons_zero, List.getElem?_cons_succ, List.set_cons_zero, List.set_cons_succ, decide_eq_true_eq, Bool.or_false, Bool.or_true, Bool.false_or, Bool.true_or, Bool.not_true, Bool.not_false, Bool.false_eq_true, if_true, if_false, reduceIte, negD, optD, ne_eq, not_true_eq_false, not_false_eq_true, decide_true, decide_false, m0], _, _, _, rfl⟩
    | true =>
      rw [a1] at m0
      by_cases a2 : r.f = f
      · subst a2
        have nf : cmpD .ne (fD r.f) (fD r.f) m = .ok (.bl false) m := by rw [nf]; simp
        cases a3 : containsB r.mt b with
        | false =>
          rw [a3] at c0
          refine .inl ⟨by simp, [some (tbD t), some (bx b), some (.int (k : Nat)), some (.tup (t.rs.map rlD)), some (fD r.f), some (mtD r.mt), some (fD r.f), some (nD r.n)], ?_, _, _, _, rfl⟩
          simp only [evSs, evS, ev, evs, evL, evTs, evo, evI, evT, bind_ok, bind_bad, out_ok, out_bad, obind_nx, obind_rt, obind_bk, obind_ct, obind_bad, fin_nx, fin_rt, fin_bad, tru_bl, tru_non, tru_int, chD_bl, Mi.add_int, Mi.sub_int, Mi.lt_int, Mi.le_int, Mi.gt_int, Mi.ge_int, Mi.eq_int, Mi.ne_int, Mi.eq_bl, Mi.ne_bl, Mi.eq_str, Mi.ne_str, Mi.is_non, Mi.nis_non, Mi.is_bl, Mi.nis_bl, isn_non, isn_bl, isn_int, isn_str, isn_tup, isn_fl, isn_ref, Mi.bi_len, Mi.bi_abs, Mi.bi_int, Mi.bi_intb, Mi.bi_min, Mi.bi_max, Mi.len_str, Mi.len_tup, Mi.len_fl, isi_int, isi_bl, isi_str, isi_non, isi_tup, isi_fl, isTy, List.any_cons, List.any_nil, setT_nm, Mi.lstT_nm, Mi.lstT_tup, List.getElem?_cons_zero, List.getElem?_cons_succ, List.set_cons_zero, List.set_cons_succ, decide_eq_true_eq, Bool.or_false, Bool.or_true, Bool.false_or, Bool.true_or, Bool.not_true, Bool.not_false, Bool.false_eq_true, if_true, if_false, reduceIte, negD, optD, ne_eq, not_true_eq_false, not_false_eq_true, decide_true, decide_false, m0, nf, c0]
        | true =>
          rw [a3] at c0
          refine .inr ⟨.bl true, by simp, ?_⟩
          simp only [evSs, evS, ev, evs, evL, evTs, evo, evI, evT, bind_ok, bind_bad, out_ok, out_bad, obind_nx, obind_rt, obind_bk, obind_ct, obind_bad, fin_nx, fin_rt, fin_bad, tru_bl, tru_non, tru_int, chD_bl, Mi.add_int, Mi.sub_int, Mi.lt_int, Mi.le_int, Mi.gt_int, Mi.ge_int, Mi.eq_int, Mi.ne_int, Mi.eq_bl, Mi.ne_bl, Mi.eq_str, Mi.ne_str, Mi.is_non, Mi.nis_non, Mi.is_bl, Mi.nis_bl, isn_non, isn_bl, isn_int, isn_str, isn_tup, isn_fl, isn_ref, Mi.bi_len, Mi.bi_abs, Mi.bi_int, Mi.bi_intb, Mi.bi_min, Mi.bi_max, Mi.len_str, Mi.len_tup, Mi.len_fl, isi_int, isi_bl, isi_str, isi_non, isi_tup, isi_fl, isTy, List.any_cons, List.any_nil, setT_nm, Mi.lstT_nm, Mi.lstT_tup, List.getElem?_cons_zero, List.getElem?_cons_succ, List.set_cons_zero, List.set_cons_succ, decide_eq_true_eq, Bool.or_false, Bool.or_true, Bool.false_or, Bool.true_or, Bool.not_true, Bool.not_false, Bool.false_eq_true, if_true, if_false, reduceIte, negD, optD, ne_eq, not_true_eq_false, not_false_eq_true, decide_true, decide_false, m0, nf, c0]
      · refine .inr ⟨.bl false, by simp [a2], ?_⟩
        simp only [evSs, evS, ev, evs, evL, evTs, evo, evI, evT, bind_ok, bind_bad, out_ok, out_bad, obind_nx, obind_rt, obind_bk, obind_ct, obind_bad, fin_nx, fin_rt, fin_bad, tru_bl, tru_non, tru_int, chD_bl, Mi.add_int, Mi.sub_int, Mi.lt_int, Mi.le_int, Mi.gt_int, Mi.ge_int, Mi.eq_int, Mi.ne_int, Mi.eq_bl, Mi.ne_bl, Mi.eq_str, Mi.ne_str, Mi.is_non, Mi.nis_non, Mi.is_bl, Mi.nis_bl, isn_non, isn_bl, isn_int, isn_str, isn_tup, isn_fl, isn_ref, Mi.bi_len, Mi.bi_abs, Mi.bi_int, Mi.bi_intb, Mi.bi_min, Mi.bi_max, Mi.len_str, Mi.len_tup, Mi.len_fl, isi_int, isi_bl, isi_str, isi_non, isi_tup, isi_fl, isTy, List.any_cons, List.any_nil, setT_nm, Mi.lstT_nm, Mi.lstT_tup, List.getElem?_cons_zero, List.getElem?_cons_succ, List.set_cons_zero, List.set_cons_succ, decide_eq_true_eq, Bool.or_false, Bool.or_true, Bool.false_or, Bool.true_or, Bool.not_true, Bool.not_false, Bool.false_eq_true, if_true, if_false, reduceIte, negD, optD, ne_eq, not_true_eq_false, not_false_eq_true, decide_true, decide_false, m0, nf, a2]
  · rintro e σ' ⟨x5, x6, x7, rfl⟩
    rw [find_map] at e
    have e : t.rs.findSome? (alikeQ f b) = none := by
      cases q : t.rs.findSome? (alikeQ f b) with
      | none => rfl
      | some v => rw [q] at e; cases e
    show Out.fin _ = _
    rw [e]
    simp only [evSs, evS, ev, evs, evL, evTs, evo, evI, evT, bind_ok, bind_bad, out_ok, out_bad, obind_nx, obind_rt, obind_bk, obind_ct, obind_bad, fin_nx, fin_rt, fin_bad, tru_bl, tru_non, tru_int, chD_bl, Mi.add_int, Mi.sub_int, Mi.lt_int, Mi.le_int, Mi.gt_int, Mi.ge_int, Mi.eq_int, Mi.ne_int, Mi.eq_bl, Mi.ne_bl, Mi.eq_str, Mi.ne_str, Mi.is_non, Mi.nis_non, Mi.is_bl, Mi.nis_bl, isn_non, isn_bl, isn_int, isn_str, isn_tup, isn_fl, isn_ref, Mi.bi_len, Mi.bi_abs, Mi.bi_int, Mi.bi_intb, Mi.bi_min, Mi.bi_max, Mi.len_str, Mi.len_tup, Mi.len_fl, isi_int, isi_bl, isi_str, isi_non, isi_tup, isi_fl, isTy, List.any_cons, List.any_nil, setT_nm, Mi.lstT_nm, Mi.lstT_tup, List.getElem?_cons_zero, List.getElem?_cons_succ, List.set_cons_zero, List.set_cons_succ, decide_eq_true_eq, Bool.or_false, Bool.or_true, Bool.false_or, Bool.true_or, Bool.not_true, Bool.not_false, Bool.false_eq_true, if_true, if_false, reduceIte, negD, optD, ne_eq, not_true_eq_false, not_false_eq_true, decide_true, decide_false, ix_t, Mi.at_0, Mi.at_1, Dr.at_2, Dr.at_3, Dr.at_4, Dr.at_5, Dr.at_6, Dr.at_7, Dr.at_8, Dr.at_9, tb1, eq_f t.lf f m o.2 fl, Option.getD_none]
  · intro d e
    rw [find_map] at e
    show Out.fin _ = _
    cases q : t.rs.findSome? (alikeQ f b) with
    | none => rw [q] at e; cases e
    | some v =>
      rw [q] at e
      cases e
      rfl
/-! ### a list that grows, besides the state -/
theorem Kp.setNew {s c : Nat} {m0 m : M} (h : Kp s c m0 m) {l : Nat} (hl : m0.length ≤ l) (o : O) : Kp s c m0 (m.set l o) := by
  refine ⟨by rw [List.length_set]; exact h.len, fun l' o' h1 h2 e => ?_⟩
  have := (List.getElem?_eq_some_iff.mp e).1
  rw [List.getElem?_set_ne (by omega)]
  exact h.at_ l' o' h1 h2 e
theorem St.setO {s c : Nat} {m : M} (h : St m s c) {l : Nat} (hs : l ≠ s) (hc : l ≠ c) (o : O) : St (m.set l o) s c := by
  obtain ⟨⟨pos, cells, h1, h2, h3⟩, ne⟩ := h
  exact ⟨⟨pos, cells, by rw [List.getElem?_set_ne hs]; exact h1, by rw [List.getElem?_set_ne hc]; exact h2, h3⟩, ne⟩
/-- a list at l that was laid behind m0; the state stands -/
structure Mine (s c : Nat) (m0 m : M) (l : Nat) (xs : List D) : Prop where
  at_ : m[l]? = some (.lst xs)
  new : m0.length ≤ l
  ns : l ≠ s
  nc : l ≠ c
  st : St m s c
  kp : Kp s c m0 m
theorem Mine.start {s c : Nat} {m0 m : M} (h : St m s c) (k : Kp s c m0 m) (xs : List D) : Mine s c m0 (m ++ [.lst xs]) m.length xs :=
  ⟨app_last m _, k.len, (h.row [] _ rfl).1, (h.row [] _ rfl).2, h.app _, k.trans (Kp.app s c m _)⟩
theorem Mine.go {s c : Nat} {m0 m m' : M} {l : Nat} {xs : List D} (h : Mine s c m0 m l xs) (st : St m' s c) (k : Kp s c m m') : Mine s c m0 m' l xs :=
  ⟨k.at_ l _ h.ns h.nc h.at_, h.new, h.ns, h.nc, st, h.kp.trans k⟩
theorem Mine.set {s c : Nat} {m0 m : M} {l : Nat} {xs : List D} (h : Mine s c m0 m l xs) (ys : List D) : Mine s c m0 (m.set l (.lst ys)) l ys :=
  ⟨List.getElem?_set_self (List.getElem?_eq_some_iff.mp h.at_).1, h.new, h.ns, h.nc, h.st.setO h.ns h.nc _, h.kp.setNew h.new _⟩
theorem recv_l (l : Nat) (xs : List D) (m : M) (h : m[l]? = some (.lst xs)) : recvB (meTy .append) (.ref l) m = true := by
  unfold recvB
  simp only [h]
  rfl
theorem wp_append {Post : Out → Prop} {C : Mi.Cx} {i : Nat} {e : E} {r : Ss} {σ : Sl} {m m2 : M} {l : Nat} {xs ys : List D} {d : D} (hσ : σ[i]? = some (some (.ref l))) (h0 : m[l]? = some (.lst ys)) (he : ev C e σ m = .ok d m2) (h2 : m2[l]? = some (.lst xs)) (hn : xs.length < line)
    (k : Post (evSs C r σ (m2.set l (.lst (xs ++ [d]))))) : Post (evSs C (.cons (.exp (.me .append (.var i) (.cons e .nil))) r) σ m) := by
  refine wp_exp (d := .non) (m1 := m2.set l (.lst (xs ++ [d]))) ?_ k
  rw [ev, ev_var_ hσ, bind_ok, if_pos (recv_l l ys m h0), evs, he, bind_ok, evs, bind_ok, bind_ok]
  unfold meD one lstM
  simp only [h2]
  exact if_pos hn
theorem tuple_l (l : Nat) (xs : List D) (m : M) (h : m[l]? = some (.lst xs)) : biD .tuple [.ref l] m = .ok (.tup xs) m := by
  unfold biD one
  simp only [seqD, h]
end
end Dr

set_option linter.all false
set_option autoImplicit false
set_option Elab.async false
set_option maxRecDepth 100000
set_option maxHeartbeats 4000000
/-! Dr9: tables as data, the heap that only grows. -/
namespace Dr
noncomputable section
open PySem L2 Mi
theorem all_zip {α β : Type} {p : α → β → Bool} {xs : List α} {ys : List β} : (xs.zip ys).all (fun z => p z.1 z.2) = true ↔ ∀ (i : Nat) x y, xs[i]? = some x → ys[i]? = some y → p x y = true := by
  rw [List.all_eq_true]
  constructor
  · intro h i x y hx hy
    exact h (x, y) (List.mem_of_getElem? (i := i) (by rw [List.getElem?_zip_eq_some]; exact ⟨hx, hy⟩))
  · rintro h ⟨x, y⟩ hz
    obtain ⟨i, hi⟩ := List.mem_iff_getElem?.mp hz
    rw [List.getElem?_zip_eq_some] at hi
    exact h i x y hi.1 hi.2
theorem at_mt (mt : Mt) (f : Nat) (p : Bx) (m : M) (h : mt[f]? = some p) : ixD (mtD mt) (.int (f : Nat)) m = .ok (bx p) m :=
  Mi.ix_tup _ _ _ _ (by rw [at_nat, List.getElem?_map, h]; rfl)
theorem pr_mk (a b : Int) : D.tup [.int a, .int b] = pr (a, b) := rfl
theorem bx_mk (ps : Bx) : D.tup (ps.map pr) = bx ps := rfl
def mosts : List Int := [1, 255, 4294967295, 65535, 4294967295, 65535]
theorem mo_bd {i : Nat} {mo : Int} (h : mosts[i]? = some mo) : 1 ≤ mo ∧ mo ≤ 4294967295 := by
  have := List.mem_of_getElem? h
  unfold mosts at this
  simp only [List.mem_cons, List.not_mem_nil, or_false] at this
  omega
theorem mo_get {i : Nat} (h : i < 6) : ∃ mo, mosts[i]? = some mo := ⟨_, List.getElem?_eq_getElem (by show i < 6; exact h)⟩
theorem ix_mo {i : Nat} {mo : Int} (h : mosts[i]? = some mo) (m : M) : ixD (.tup [.int 1, .int 255, .int 4294967295, .int 65535, .int 4294967295, .int 65535]) (.int (i : Nat)) m = .ok (.int mo) m :=
  Mi.ix_tup (mosts.map .int) _ _ _ (by rw [at_nat, List.getElem?_map, h]; rfl)
def prP (p : Int × Int) : PyData := .tuple [.int p.1, .int p.2]
def bxP (b : Bx) : PyData := .tuple (b.map prP)
def mtP (mt : Mt) : PyData := .tuple (mt.map bxP)
def rlP (r : Rl) : PyData := .tuple [mtP r.mt, fP r.f, nP r.n]
def tbP (t : Tb) : PyData := .tuple [.tuple (t.rs.map rlP), .tuple [fP t.lf, nP t.ln]]
theorem py_pr (n : Nat) (m : M) (p : Int × Int) : toPy (n + 2) m (pr p) = some (prP p) := by
  unfold pr prP
  simp only [py_tup, py_int, mapO, Option.map]
theorem py_bx (n : Nat) (m : M) (b : Bx) : toPy (n + 3) m (bx b) = some (bxP b) := by
  unfold bx bxP
  rw [py_tup, mapO_map (toPy (n + 2) m) pr prP (py_pr n m)]
  rfl
theorem py_mt (n : Nat) (m : M) (mt : Mt) : toPy (n + 4) m (mtD mt) = some (mtP mt) := by
  unfold mtD mtP
  rw [py_tup, mapO_map (toPy (n + 3) m) bx bxP (py_bx n m)]
  rfl
theorem py_rl (n : Nat) (m : M) (r : Rl) : toPy (n + 5) m (rlD r) = some (rlP r) := by
  unfold rlD rlP
  simp only [py_tup, py_mt, py_f, py_n, mapO, Option.map]
theorem py_tb (n : Nat) (m : M) (t : Tb) : toPy (n + 7) m (tbD t) = some (tbP t) := by
  unfold tbD tbP
  simp only [py_tup, mapO_map (toPy (n + 5) m) rlD rlP (py_rl n m), py_f, py_n, mapO, Option.map]
theorem ok_bx {b : Bx} (h : ∀ p ∈ b, 0 ≤ p.1 ∧ p.1 ≤ 4294967296 ∧ 0 ≤ p.2 ∧ p.2 ≤ 4294967296) : okP (bxP b) = true ∧ sizeP (bxP b) ≤ 3 + 209 * b.length := by
  unfold bxP
  refine ⟨?_, ?_⟩
  · rw [okP_tup]
    refine okPs_of _ fun p hp => ?_
    obtain ⟨q, hq, rfl⟩ := List.mem_map.mp hp
    have := h q hq
    unfold prP
    simp only [okP_tup, okPs_cons, okPs_nil, int_ok q.1 (by omega), int_ok q.2 (by omega), Bool.and_self]
  · have := sizePs_le 207 (b.map prP) fun p hp => by
      obtain ⟨q, hq, rfl⟩ := List.mem_map.mp hp
      unfold prP
      simp only [sizeP, sizePs]
      omega
    rw [List.length_map] at this
    rw [sizeP]
    omega
theorem size_f : ∀ i, sizeP (fP i) ≤ 300
  | 0 => by decide
  | 1 => by decide
  | 2 => by decide
  | _ + 3 => by show sizeP (.str "refuse") ≤ 300; decide
theorem size_n (n : Nat) : sizeP (nP n) ≤ 400 := by
  unfold nP
  have := sizePs_le 100 ((nmL.take n).map .str) fun p hp => by
    obtain ⟨q, hq, rfl⟩ := List.mem_map.mp hp
    rw [sizeP]
    all_goals (intros; simp_all)
  have h2 : ((nmL.take n).map PyData.str).length ≤ 3 := by
    rw [List.length_map, List.length_take]
    exact Nat.min_le_right _ _
  rw [sizeP]
  omega
theorem repr_bl (b : Bool) (m : M) : biD .repr [.bl b] m = .ok (.str (if b then "True" else "False")) m := (rfl)
/-! ### the heap grows -/
structure Old (m m' : M) : Prop where
  len : m.length ≤ m'.length
  at_ : ∀ (l : Nat) (o : O), m[l]? = some o → m'[l]? = some o
theorem Old.refl (m : M) : Old m m := ⟨Nat.le_refl _, fun _ _ h => h⟩
theorem Old.trans {m m1 m2 : M} (a : Old m m1) (b : Old m1 m2) : Old m m2 := ⟨Nat.le_trans a.len b.len, fun l o h => b.at_ l o (a.at_ l o h)⟩
theorem Old.app (m g : M) : Old m (m ++ g) := ⟨by simp, fun l o h => app_old h g⟩
theorem Old.setNew {m0 m : M} (h : Old m0 m) {l : Nat} (hl : m0.length ≤ l) (o : O) : Old m0 (m.set l o) := by
  refine ⟨by rw [List.length_set]; exact h.len, fun l' o' e => ?_⟩
  have := (List.getElem?_eq_some_iff.mp e).1
  rw [List.getElem?_set_ne (by omega)]
  exact h.at_ l' o' e
theorem Old.st {m m' : M} {s c : Nat} (h : Old m m') (st : St m s c) : St m' s c := by
  obtain ⟨⟨pos, cells, h1, h2, h3⟩, ne⟩ := st
  exact ⟨⟨pos, cells, h.at_ _ _ h1, h.at_ _ _ h2, h3⟩, ne⟩
theorem Old.kp {m m' : M} {s c : Nat} (h : Old m m') : Kp s c m m' := ⟨h.len, fun l o _ _ e => h.at_ l o e⟩
end
end Dr

set_option linter.all false
set_option autoImplicit false
set_option Elab.async false
set_option maxRecDepth 100000
set_option maxHeartbeats 4000000
/-! Dr10: dicts. -/
namespace Dr
noncomputable section
open PySem L2 Mi PyProof.Rows
theorem hasK_val (k : Key) : ∀ kvs : List (Key × D), hasK kvs k = (valK kvs k).isSome
  | [] => rfl
  | (j, d) :: r => by
    unfold hasK valK
    by_cases e : j = k
    · rw [if_pos e, if_pos e]; rfl
    · rw [if_neg e, if_neg e]; exact hasK_val k r
theorem valK_rep (k j : Key) (v : D) : ∀ kvs : List (Key × D), valK (repK kvs k v) j = if j = k then (valK kvs k).map (fun _ => v) else valK kvs j
  | [] => by
    unfold repK valK
    split <;> rfl
  | (i, d) :: r => by
    have ih := valK_rep k j v r
    unfold repK valK
    by_cases e : i = k
    · subst e
      rw [if_pos rfl]
      dsimp only
      by_cases z : i = j
      · subst z
        simp
      · rw [if_neg z, ih, if_neg (fun q => z q.symm), if_neg (fun q => z q.symm), if_neg z]
    · rw [if_neg e]
      dsimp only
      by_cases z : i = j
      · subst z
        rw [if_pos rfl, if_neg e, if_pos rfl]
      · rw [if_neg z, ih, if_neg e, if_neg z]
theorem valK_snoc (k j : Key) (v : D) : ∀ kvs : List (Key × D), valK kvs k = none → valK (kvs ++ [(k, v)]) j = if j = k then some v else valK kvs j
  | [], _ => by
    show valK [(k, v)] j = _
    unfold valK
    by_cases e : k = j
    · subst e; simp
    · rw [if_neg e, if_neg (fun q => e q.symm)]
      rfl
  | (i, d) :: r, h => by
    unfold valK at h
    rw [List.cons_append]
    unfold valK
    by_cases e : i = k
    · rw [if_pos e] at h; cases h
    · rw [if_neg e] at h
      have ih := valK_snoc k j v r h
      by_cases z : i = j
      · subst z
        rw [if_pos rfl, if_pos rfl, if_neg e]
      · rw [if_neg z, if_neg z, ih]
theorem valK_put (kvs : List (Key × D)) (k j : Key) (v : D) : valK (putKD kvs k v) j = if j = k then some v else valK kvs j := by
  unfold putKD
  rw [hasK_val]
  cases q : valK kvs k with
  | none => rw [if_neg (by simp)]; exact valK_snoc k j v kvs q
  | some d =>
    rw [if_pos (by rfl), valK_rep, q]
    rfl
theorem length_rep (k : Key) (v : D) : ∀ kvs : List (Key × D), (repK kvs k v).length = kvs.length
  | [] => rfl
  | (i, d) :: r => by
    unfold repK
    split <;> simp [length_rep k v r]
theorem length_put (kvs : List (Key × D)) (k : Key) (v : D) : (putKD kvs k v).length ≤ kvs.length + 1 := by
  unfold putKD
  split
  · rw [length_rep]; omega
  · simp
theorem mem_rep (k : Key) (v : D) : ∀ (kvs : List (Key × D)) (p : Key × D), p ∈ repK kvs k v → p ∈ kvs ∨ p = (k, v)
  | [], p, h => by unfold repK at h; cases h
  | (i, d) :: r, p, h => by
    unfold repK at h
    by_cases e : i = k
    · subst e
      rw [if_pos rfl] at h
      rcases List.mem_cons.mp h with q | q
      · exact .inr q
      · rcases mem_rep i v r p q with q | q
        · exact .inl (List.mem_cons_of_mem _ q)
        · exact .inr q
    · rw [if_neg e] at h
      rcases List.mem_cons.mp h with q | q
      · rw [q]; exact .inl List.mem_cons_self
      · rcases mem_rep k v r p q with q | q
        · exact .inl (List.mem_cons_of_mem _ q)
        · exact .inr q
theorem mem_put {kvs : List (Key × D)} {k : Key} {v : D} {p : Key × D} (h : p ∈ putKD kvs k v) : p ∈ kvs ∨ p = (k, v) := by
  unfold putKD at h
  split at h
  · exact mem_rep k v kvs p h
  · rcases List.mem_append.mp h with h | h
    · exact .inl h
    · exact .inr (List.mem_singleton.mp h)
theorem dicD_ref {m : M} {l : Nat} {kvs : List (Key × D)} (h : m[l]? = some (.dic kvs)) : dicD (.ref l) m = some kvs := by
  unfold dicD
  simp only [h]
theorem get2_s {m : M} {l : Nat} {kvs : List (Key × D)} (h : m[l]? = some (.dic kvs)) (x : Str) (d : D) : meD .get (.ref l) [.str x, d] m = .ok ((valK kvs (.inr x)).getD d) m := by
  unfold meD
  simp only [dicD_ref h, keyD]
theorem recv_d {m : M} {l : Nat} {kvs : List (Key × D)} (h : m[l]? = some (.dic kvs)) : recvB (meTy .get) (.ref l) m = true := by
  unfold recvB
  simp only [h]
  rfl
theorem set_dic {m : M} {l : Nat} {kvs : List (Key × D)} (h : m[l]? = some (.dic kvs)) (x : Str) (v : D) (hl : kvs.length < line) : setD (.ref l) (.str x) v m = some (m.set l (.dic (putKD kvs (.inr x) v))) := by
  unfold setD
  simp only [h, keyD]
  exact if_pos hl
theorem ix_dic {m : M} {l : Nat} {kvs : List (Key × D)} (h : m[l]? = some (.dic kvs)) (x : Str) (d : D) (hv : valK kvs (.inr x) = some d) : ixD (.ref l) (.str x) m = .ok d m := by
  unfold ixD
  simp only [dicD_ref h, keyD, hv]
theorem copy_dic {m : M} {l : Nat} {kvs : List (Key × D)} (h : m[l]? = some (.dic kvs)) : biD .dict [.ref l] m = .ok (.ref m.length) (m ++ [.dic kvs]) := by
  unfold biD one
  simp only [dicD_ref h]
  rfl
theorem zipP_map (f : Key × D → PyData) : ∀ kvs : List (Key × D), zipP kvs (kvs.map f) = kvs.map fun kv => (keyP kv.1, f kv)
  | [] => rfl
  | (k, d) :: r => by
    rw [List.map_cons, List.map_cons, ← zipP_map f r]
    rfl
theorem noLs_of : ∀ ps : List PyData, (∀ p ∈ ps, noL p = true) → noLs ps = true
  | [], _ => by simp only [noLs]
  | p :: ps, h => by simp only [noLs, h p (List.mem_cons_self ..), noLs_of ps fun q hq => h q (List.mem_cons_of_mem _ hq), Bool.and_self]
theorem shown_kv (n : Nat) : ∀ qs : List (PyData × PyData), (∀ q ∈ qs, okP q.1 = true ∧ okP q.2 = true ∧ sizeP q.1 ≤ 100 ∧ sizeP q.2 ≤ n) → PyData.showableKv qs = true ∧ (∀ t ∈ PyData.shownKv qs, PyData.strOk t = true) ∧ ((PyData.shownKv qs).map (·.length)).sum ≤ (n + 102) * qs.length ∧ (PyData.shownKv qs).length = qs.length
  | [], _ => ⟨by simp only [PyData.showableKv], by simp [PyData.shownKv], by simp [PyData.shownKv], by simp [PyData.shownKv]⟩
  | (a, b) :: qs, h => by
    obtain ⟨h1, h2, h3, h4⟩ := h (a, b) (List.mem_cons_self ..)
    obtain ⟨k1, k2, k3, k4⟩ := shown_kv n qs fun q hq => h q (List.mem_cons_of_mem _ hq)
    obtain ⟨a1, a2, a3⟩ := ok_shown a h1
    obtain ⟨b1, b2, b3⟩ := ok_shown b h2
    dsimp only at h3 h4
    refine ⟨by simp only [PyData.showableKv, a1, b1, k1, Bool.and_self], ?_, ?_, ?_⟩
    · intro t ht
      simp only [PyData.shownKv, List.mem_cons] at ht
      rcases ht with rfl | ht
      · exact ok_append (ok_append a2 (by decide +kernel)) b2
      · exact k2 t ht
    · simp only [PyData.shownKv, List.map_cons, List.sum_cons, List.length_cons, Nat.mul_add]
      have e : (a.shown ++ (": " : Str) ++ b.shown).length = a.shown.length + 2 + b.shown.length := by
        rw [Str.length_append, Str.length_append]
        rfl
      rw [e]
      omega
    · simp only [PyData.shownKv, List.length_cons, k4]
theorem showK_ok {kvs : List (Key × D)} {m : M} (f : Key × D → PyData) (n : Nat) (h : ∀ kv ∈ kvs, toPy 58 m kv.2 = some (f kv) ∧ okP (keyP kv.1) = true ∧ okP (f kv) = true ∧ noL (f kv) = true ∧ sizeP (keyP kv.1) ≤ 100 ∧ sizeP (f kv) ≤ n) (hl : (n + 104) * kvs.length + 3 ≤ line) :
    showK kvs m = .ok (.str (PyData.dict (kvs.map fun kv => (keyP kv.1, f kv))).shown) m := by
  have e : mapO (toPy 58 m) (kvs.map (·.2)) = some (kvs.map f) := by
    clear hl
    induction kvs with
    | nil => rfl
    | cons kv r ih =>
      rw [List.map_cons, List.map_cons]
      exact mapO_cons _ _ _ _ _ (h kv (List.mem_cons_self ..)).1 (ih fun q hq => h q (List.mem_cons_of_mem _ hq))
  obtain ⟨k1, k2, k3, k4⟩ := shown_kv n (kvs.map fun kv => (keyP kv.1, f kv)) fun q hq => by
    obtain ⟨kv, hk, rfl⟩ := List.mem_map.mp hq
    obtain ⟨_, h2, h3, _, h4, h5⟩ := h kv hk
    exact ⟨h2, h3, h4, h5⟩
  unfold showK
  rw [e]
  dsimp only
  rw [zipP_map, if_pos ⟨noLs_of _ fun p hp => by obtain ⟨kv, hk, rfl⟩ := List.mem_map.mp hp; exact (h kv hk).2.2.2.1, by simpa only [PyData.showable] using k1⟩]
  unfold strR
  rw [if_pos]
  unfold okS
  rw [Bool.and_eq_true]
  refine ⟨?_, decide_eq_true ?_⟩
  · simp only [PyData.shown, dictText]
    exact ok_append (ok_append (by decide +kernel) (ok_join (by decide +kernel) k2)) (by decide +kernel)
  · simp only [PyData.shown]
    have := dictText_len_le (PyData.shownKv (kvs.map fun kv => (keyP kv.1, f kv)))
    rw [k4, List.length_map] at this
    rw [List.length_map] at k3
    have e2 : (n + 104) * kvs.length = (n + 102) * kvs.length + 2 * kvs.length := by rw [← Nat.add_mul]
    omega
theorem repr_dic {kvs : List (Key × D)} {m : M} {l : Nat} (h : m[l]? = some (.dic kvs)) : biD .repr [.ref l] m = showK kvs m := by
  unfold biD one reprD
  simp only [h]
/-! ### branches -/
/-- the rest behind a branch -/
def Bd (Post : Out → Prop) (C : Mi.Cx) (r : Ss) (o : Out) : Prop := Post (o.bind fun σ m => evSs C r σ m)
theorem bd_rt {Post : Out → Prop} {C : Mi.Cx} {r : Ss} {d : D} {m : M} (h : Post (.rt d m)) : Bd Post C r (.rt d m) := h
theorem wp_then {Post : Out → Prop} {C : Mi.Cx} {e : E} {a b : Ss} {r : Ss} {σ : Sl} {m m1 : M} (h : evT C e σ m = .ok true m1) (k : Bd Post C r (evSs C a σ m1)) : Post (evSs C (.cons (.ife e a b) r) σ m) := by
  rw [run_cons, evS, h]
  exact k
theorem wp_else {Post : Out → Prop} {C : Mi.Cx} {e : E} {a b : Ss} {r : Ss} {σ : Sl} {m m1 : M} (h : evT C e σ m = .ok false m1) (k : Bd Post C r (evSs C b σ m1)) : Post (evSs C (.cons (.ife e a b) r) σ m) := by
  rw [run_cons, evS, h]
  exact k
theorem wp_ret {Post : Out → Prop} {C : Mi.Cx} {e : E} {r : Ss} {σ : Sl} {m m1 : M} {d : D} (h : ev C e σ m = .ok d m1) (k : Post (.rt d m1)) : Post (evSs C (.cons (.ret e) r) σ m) := by
  rw [run_cons, evS, h]
  exact k
theorem bd_nil {Post : Out → Prop} {C : Mi.Cx} {r : Ss} {σ : Sl} {m : M} (h : Post (evSs C r σ m)) : Bd Post C r (evSs C .nil σ m) := by
  rw [evSs]
  exact h
/-! ### drawn items -/
theorem pick_g {g : List D → M → R D} (hg : IsTake2 g) (s c : Nat) (m : M) (st : St m s c) (xs : List D) (n : Int) (hn : (xs.length : Int) = n) (h0 : 0 < n) (h1 : n < 1000) : ∃ r m' d, g [.ref s, .int n] (m ++ [.lst xs]) = .ok (.int r) m' ∧ ixD (.ref m.length) (.int r) m' = .ok d m' ∧ d ∈ xs ∧ St m' s c ∧ Kp s c m m' := by
  have nr := st.row [] _ rfl
  obtain ⟨r, m', e, r0, r1, s1, k1⟩ := hg s c n _ (st.app [.lst xs]) ⟨h0, by omega⟩
  have hr : r.toNat < xs.length := by omega
  exact ⟨r, m', xs[r.toNat], e, ix_ref m.length xs r _ m' (k1.at_ _ _ nr.1 nr.2 (app_last m _)) (by rw [at_of _ _ r0 (by omega), List.getElem?_eq_getElem hr]), List.getElem_mem hr, s1, (Kp.app s c m _).trans k1⟩
theorem recv_p (l : Nat) (xs : List D) (m : M) (h : m[l]? = some (.lst xs)) : recvB (meTy .pop) (.ref l) m = true := by
  unfold recvB
  simp only [h]
  rfl
theorem pop_at (l : Nat) (xs : List D) (r : Int) (d : D) (m : M) (h : m[l]? = some (.lst xs)) (h0 : 0 ≤ r) (h1 : r < 1000000) (hd : xs[r.toNat]? = some d) : meD .pop (.ref l) [.int r] m = .ok d (m.set l (.lst (xs.eraseIdx r.toNat))) := by
  have hl := (List.getElem?_eq_some_iff.mp hd).1
  unfold meD lstM
  simp only [h]
  rw [if_pos (by omega), ixN_of _ _ h0 (by omega)]
  simp only [hd]
theorem Mine.other {s c : Nat} {m0 m : M} {l l2 : Nat} {xs ys : List D} (h : Mine s c m0 m l xs) (h2 : Mine s c m0 m l2 ys) (ne : l2 ≠ l) (zs : List D) : Mine s c m0 (m.set l2 (.lst zs)) l xs :=
  ⟨by rw [List.getElem?_set_ne ne]; exact h.at_, h.new, h.ns, h.nc, (h2.set zs).st, (h2.set zs).kp⟩
theorem ev_or_t {C : Mi.Cx} {a b : E} {σ : Sl} {m m1 : M} (h : ev C a σ m = .ok (.bl true) m1) : ev C (.or a b) σ m = .ok (.bl true) m1 := by
  rw [ev, h]
  rfl
theorem ev_or_f {C : Mi.Cx} {a b : E} {σ : Sl} {m m1 : M} (h : ev C a σ m = .ok (.bl false) m1) : ev C (.or a b) σ m = ev C b σ m1 := by
  rw [ev, h]
  rfl
end
end Dr

set_option linter.all false
set_option autoImplicit false
set_option Elab.async false
set_option maxRecDepth 100000
set_option maxHeartbeats 4000000
/-! Dr11: runs that branch, as one tree. -/
namespace Dr
noncomputable section
open PySem L2 Mi
theorem ite_obind (P : Prop) [Decidable P] (a b : Out) (f : Sl → M → Out) : (if P then a else b).bind f = if P then a.bind f else b.bind f := by split <;> rfl
theorem ite_fin (P : Prop) [Decidable P] (a b : Out) : (if P then a else b).fin = if P then a.fin else b.fin := by split <;> rfl
theorem ite_bind {α β : Type} (P : Prop) [Decidable P] (a b : R α) (f : α → M → R β) : (if P then a else b).bind f = if P then a.bind f else b.bind f := by split <;> rfl
theorem ite_out {α : Type} (P : Prop) [Decidable P] (a b : R α) (f : α → M → Out) : (if P then a else b).out f = if P then a.out f else b.out f := by split <;> rfl
theorem ok_ite {α : Type} (P : Prop) [Decidable P] (a b : α) (m : M) : (if P then R.ok a m else R.ok b m) = R.ok (if P then a else b) m := by split <;> rfl
theorem tru_ite (P : Prop) [Decidable P] (a b : D) (m : M) : tru (if P then a else b) m = if P then tru a m else tru b m := by split <;> rfl
/-! what was laid last, and before -/
theorem app2 (m : M) (a b : Mi.O) : (m ++ [a] ++ [b])[m.length]? = some a := by simp
theorem app3 (m : M) (a b c : Mi.O) : (m ++ [a] ++ [b] ++ [c])[m.length]? = some a := by simp
theorem app4 (m : M) (a b c d : Mi.O) : (m ++ [a] ++ [b] ++ [c] ++ [d])[m.length]? = some a := by simp
theorem sl_hi (l n : Nat) (is : List Int) (m : M) (h : m[l]? = some (.lst (is.map D.int))) (hn : n ≤ is.length) : slD (.ref l) (some (n : Int)) none m = Mi.alloc ((is.drop n).map D.int) m := by
  unfold slD
  simp only [h]
  rw [cutH D.int is n hn]
theorem sl_lo (l n : Nat) (is : List Int) (m : M) (h : m[l]? = some (.lst (is.map D.int))) (hn : n ≤ is.length) : slD (.ref l) none (some (n : Int)) m = Mi.alloc ((is.take n).map D.int) m := by
  unfold slD
  simp only [h]
  rw [cutL D.int is n hn]
theorem evI_l {C : Mi.Cx} {e : E} {σ : Sl} {m m1 : M} {l : Nat} {xs : List D} (h : ev C e σ m = .ok (.ref l) m1) (hl : m1[l]? = some (.lst xs)) : evI C (.seq e) σ m = .ok (.held l xs) m1 := by
  rw [evI, h, bind_ok]
  unfold iterD
  simp only [hl]
theorem evI_tmp {C : Mi.Cx} {es : Es} {σ : Sl} {m m1 : M} {xs : List D} (h : evs C es σ m = .ok xs m1) : evI C (.tmp (.lst es)) σ m = .ok (.free xs) m1 := by
  rw [evI, evL, h, bind_ok]
theorem evI_tup {C : Mi.Cx} {e : E} {σ : Sl} {m m1 : M} {xs : List D} (h : ev C e σ m = .ok (.tup xs) m1) : evI C (.seq e) σ m = .ok (.free xs) m1 := by
  rw [evI, h, bind_ok]
  rfl
theorem mem_l (l : Nat) (i : Int) (is : List Int) (m : M) (h : m[l]? = some (.lst (is.map D.int))) : cmpD .mem (.int i) (.ref l) m = .ok (.bl (is.any fun j => decide (j = i))) m := by
  show bO (inD (.int i) (.ref l) m) m = _
  unfold inD dicD
  simp only [h]
  unfold inS seqD
  simp only [h]
  have hf : (is.map D.int).all flat = true := by
    rw [List.all_eq_true]
    intro d hd
    obtain ⟨j, _, rfl⟩ := List.mem_map.mp hd
    rfl
  rw [if_pos ⟨rfl, hf⟩, List.any_map]
  rfl
theorem mem_t (i : Int) (is : List Int) (m : M) : cmpD .mem (.int i) (.tup (is.map D.int)) m = .ok (.bl (is.any fun j => decide (j = i))) m := by
  show bO (inD (.int i) (.tup (is.map D.int)) m) m = _
  unfold inD dicD
  unfold inS seqD
  have hf : (is.map D.int).all flat = true := by
    rw [List.all_eq_true]
    intro d hd
    obtain ⟨j, _, rfl⟩ := List.mem_map.mp hd
    rfl
  dsimp only
  rw [if_pos ⟨rfl, hf⟩, List.any_map]
  rfl
theorem nmem_t (i : Int) (is : List Int) (m : M) : cmpD .nmem (.int i) (.tup (is.map D.int)) m = .ok (.bl (!is.any fun j => decide (j = i))) m := by
  have h := mem_t i is m
  unfold cmpD bO at h ⊢
  dsimp only at h ⊢
  cases hh : inD (.int i) (.tup (is.map D.int)) m with
  | none => rw [hh] at h; cases h
  | some b =>
    rw [hh] at h
    have : b = is.any fun j => decide (j = i) := by
      have h2 := h
      injection h2 with h3 _
      injection h3
    rw [this]
    rfl
/-- a walk that ends at its first hit -/
theorem for_hit {set : D → Sl → Option Sl} {b : Sl → M → Out} {ys : List D} {m m2 : M} {d x : D} {post : List D} (I : Sl → Prop) (hx : ∀ σ, I σ → ∃ σ1, set x σ = some σ1 ∧ b σ1 m = .rt d m2) :
    ∀ (pre : List D) (σ : Sl), (∀ y ∈ pre, ∀ σ, I σ → ∃ σ1 σ2, set y σ = some σ1 ∧ b σ1 m = .nx σ2 m ∧ I σ2) → I σ → forD set (IV.free ys).stands b (pre ++ x :: post) σ m = .rt d m2
  | [], σ, _, h => by
    obtain ⟨σ1, h1, h2⟩ := hx σ h
    exact for_rt h1 h2
  | y :: pre, σ, hp, h => by
    obtain ⟨σ1, σ2, h1, h2, h3⟩ := hp y List.mem_cons_self σ h
    rw [List.cons_append, for_nx h1 h2]
    exact for_hit I hx pre σ2 (fun y hy => hp y (List.mem_cons_of_mem _ hy)) h3
theorem wp_hit {Post : Out → Prop} {C : Mi.Cx} {x : Tg} {it : Mi.It} {b r : Ss} {σ : Sl} {m m1 m2 : M} {pre post : List D} {y d : D} (I : Sl → Prop) (h : evI C it σ m = .ok (.free (pre ++ y :: post)) m1) (h0 : I σ)
    (hp : ∀ y ∈ pre, ∀ σ, I σ → ∃ σ1 σ2, setT x y σ = some σ1 ∧ evSs C b σ1 m1 = .nx σ2 m1 ∧ I σ2) (hx : ∀ σ, I σ → ∃ σ1, setT x y σ = some σ1 ∧ evSs C b σ1 m1 = .rt d m2) (k : Post (.rt d m2)) : Post (evSs C (.cons (.for x it b) r) σ m) := by
  rw [run_cons, evS, h]
  show Post ((forD (setT x) (IV.free (pre ++ y :: post)).stands (evSs C b) (pre ++ y :: post) σ m1).bind _)
  rw [for_hit I hx pre σ hp h0]
  exact k
theorem rep_mul (d : D) (n : Nat) (m : M) (h : n < 1000000) : binD .mul (.tup [d]) (.int (n : Int)) m = .ok (.tup (List.replicate n d)) m := by
  show (if -9223372036854775808 ≤ (n : Int) ∧ (n : Int) < 9223372036854775808 ∧ ([d] : List D).length * (n : Int).toNat ≤ line then R.ok (D.tup (List.replicate (n : Int).toNat [d]).flatten) m else .bad) = _
  rw [Int.toNat_natCast, if_pos ⟨by omega, by omega, by rw [List.length_singleton]; unfold line; omega⟩]
  congr 2
  clear h
  induction n with
  | zero => rfl
  | succ n ih => rw [List.replicate_succ, List.flatten_cons, ih, List.replicate_succ]; rfl
end
end Dr

set_option linter.all false
set_option autoImplicit false
set_option Elab.async false
set_option maxRecDepth 100000
set_option maxHeartbeats 4000000
/-! Dr12: lists of octets, laid and added; sums. -/
namespace Dr
noncomputable section
open PySem L2 Mi
def wt : List Int → Int
  | [] => 0
  | [a] => a * 256
  | a :: b :: r => a * 256 + b + wt r
def fo (t : Int) : Int := if t = 0 then 0 else (t - 1) % 65535 + 1
def gg (t : Int) : Int := t / 65536 + t % 65536
theorem gg_ok (t : Int) (h0 : 0 ≤ t) (h : t < 134217728) : gg (gg (gg (gg (gg (gg t))))) = fo t := by
  have s1 : ∀ x : Int, 0 ≤ x → fo (gg x) = fo x ∧ 0 ≤ gg x := by
    intro x hx
    unfold fo gg
    refine ⟨?_, by omega⟩
    by_cases e : x = 0
    · subst e; rfl
    · rw [if_neg e, if_neg (by omega)]
      omega
  have s2 : ∀ x : Int, 0 ≤ x → x ≤ 65535 → gg x = x := by
    intro x h0 h1
    unfold gg
    omega
  obtain ⟨a1, b1⟩ := s1 t h0
  obtain ⟨a2, b2⟩ := s1 _ b1
  have c1 : gg t ≤ 67583 := by unfold gg; omega
  have c2 : gg (gg t) ≤ 65535 := by
    generalize gg t = y at *
    unfold gg
    omega
  have e2 := s2 _ b2 c2
  rw [e2, e2, e2, e2, ← a1, ← a2]
  generalize gg (gg t) = y at *
  unfold fo
  split <;> omega
theorem wt_two : ∀ (o : List Int) (j : Nat) (a : Int), o[2 * j]? = some a → wt (o.take (2 * (j + 1))) = wt (o.take (2 * j)) + a * 256 + (o[2 * j + 1]?).getD 0
  | [], j, a, h => by simp at h
  | [x], 0, a, h => by
    simp at h
    simp [wt, h]
  | [x], j + 1, a, h => by
    have : 2 * (j + 1) = 2 * j + 1 + 1 := by omega
    rw [this] at h
    simp at h
  | x :: y :: r, 0, a, h => by
    simp at h
    simp [wt, h]
  | x :: y :: r, j + 1, a, h => by
    have e1 : 2 * (j + 1 + 1) = 2 * (j + 1) + 1 + 1 := by omega
    have e2 : 2 * (j + 1) = 2 * j + 1 + 1 := by omega
    rw [e2] at h
    rw [List.getElem?_cons_succ, List.getElem?_cons_succ] at h
    have ih := wt_two r j a h
    rw [e1, List.take_succ_cons, List.take_succ_cons, wt, ih, e2, List.take_succ_cons, List.take_succ_cons, wt, List.getElem?_cons_succ, List.getElem?_cons_succ]
    omega
theorem wt_one : ∀ (o : List Int) (j : Nat) (a : Int), o[j]? = some a → wt (o.take (j + 1)) = wt (o.take j) + a * (if (j : Int) % 2 = 0 then 256 else 1)
  | [], j, a, h => by simp at h
  | [x], 0, a, h => by
    simp at h
    simp [wt, h]
  | [x], j + 1, a, h => by simp at h
  | x :: y :: r, 0, a, h => by
    simp at h
    simp [wt, h]
  | x :: y :: r, 1, a, h => by
    simp at h
    simp [wt, h]
  | x :: y :: r, j + 2, a, h => by
    rw [List.getElem?_cons_succ, List.getElem?_cons_succ] at h
    have ih := wt_one r j a h
    rw [List.take_succ_cons, List.take_succ_cons, wt, ih, List.take_succ_cons, List.take_succ_cons, wt]
    have : (((j + 2 : Nat) : Int) % 2 = 0) ↔ ((j : Int) % 2 = 0) := by omega
    simp only [this]
    omega
theorem wt_app : ∀ (a b : List Int) (j : Nat), a.length = 2 * j → wt (a ++ b) = wt a + wt b
  | [], b, j, h => by simp [wt]
  | [x], b, j, h => by simp at h; omega
  | x :: y :: r, b, j, h => by
    simp at h
    rw [List.cons_append, List.cons_append, wt, wt, wt_app r b (j - 1) (by omega)]
    omega
theorem wt_bd : ∀ o : List Int, (∀ x ∈ o, 0 ≤ x ∧ x ≤ 255) → 0 ≤ wt o ∧ wt o ≤ 65535 * o.length
  | [], h => by simp [wt]
  | [x], h => by
    have := h x (by simp)
    simp [wt]
    omega
  | x :: y :: r, h => by
    have h1 := h x (by simp)
    have h2 := h y (by simp)
    have ih := wt_bd r fun z hz => h z (by simp [hz])
    rw [wt]
    simp only [List.length_cons]
    omega
theorem full_ok (t : Int) (h : 0 ≤ t) : fo (t + (65535 - fo t)) = 65535 := by
  unfold fo
  by_cases e : t = 0
  · subst e; rfl
  · rw [if_neg e, if_neg (by omega)]
    omega
theorem fo_bd (t : Int) : 0 ≤ t → 0 ≤ fo t ∧ fo t ≤ 65535 := by
  intro h
  unfold fo
  split <;> omega
def by2 (i : Int) : List Int := [i / 256, i % 256]
def by4 (i : Int) : List Int := by2 (i / 65536) ++ by2 (i % 65536)
theorem by2_len (i : Int) : (by2 i).length = 2 := rfl
theorem by4_len (i : Int) : (by4 i).length = 4 := rfl
theorem wt_by2 (i : Int) : wt (by2 i) = i := by
  unfold by2 wt
  simp only [wt]
  omega
theorem wt_by4 (i : Int) : wt (by4 i) = i / 65536 + i % 65536 := by
  unfold by4 by2
  simp only [List.cons_append, List.nil_append, wt]
  omega
def Oc (xs : List Int) : Prop := ∀ x ∈ xs, 0 ≤ x ∧ x ≤ 255
theorem Oc.nil : Oc [] := fun _ h => (by cases h)
theorem Oc.cons {x : Int} {xs : List Int} (h : 0 ≤ x ∧ x ≤ 255) (h2 : Oc xs) : Oc (x :: xs) := fun y hy => by
  rcases List.mem_cons.mp hy with rfl | hy
  · exact h
  · exact h2 y hy
theorem Oc.app {xs ys : List Int} (h : Oc xs) (h2 : Oc ys) : Oc (xs ++ ys) := fun y hy => by
  rcases List.mem_append.mp hy with hy | hy
  · exact h y hy
  · exact h2 y hy
theorem Oc.by2 {i : Int} (h : 0 ≤ i ∧ i ≤ 65535) : Oc (by2 i) := .cons (by omega) (.cons (by omega) .nil)
theorem Oc.by4 {i : Int} (h : 0 ≤ i ∧ i ≤ 4294967295) : Oc (by4 i) := (Oc.by2 (by omega)).app (Oc.by2 (by omega))
/-! ### expressions that lay lists -/
def EL (C : Mi.Cx) (e : E) (σ : Sl) (m : M) (xs : List Int) : Prop := ∀ m', Old m m' → ∃ (l : Nat) (m'' : M), ev C e σ m' = .ok (.ref l) m'' ∧ m''[l]? = some (.lst (xs.map D.int)) ∧ Old m' m''
def EV (C : Mi.Cx) (e : E) (σ : Sl) (m : M) (d : D) : Prop := ∀ m', Old m m' → ∃ m'', ev C e σ m' = .ok d m'' ∧ Old m' m''
def EVs (C : Mi.Cx) (es : Es) (σ : Sl) (m : M) (ds : List D) : Prop := ∀ m', Old m m' → ∃ m'', evs C es σ m' = .ok ds m'' ∧ Old m' m''
section
variable {C : Mi.Cx} {σ : Sl} {m : M}
theorem EL.old {e : E} {xs : List Int} (h : EL C e σ m xs) {m' : M} (o : Old m m') : EL C e σ m' xs := fun m'' o' => h m'' (o.trans o')
theorem EV.old {e : E} {d : D} (h : EV C e σ m d) {m' : M} (o : Old m m') : EV C e σ m' d := fun m'' o' => h m'' (o.trans o')
theorem EV.pure {e : E} {d : D} (h : ∀ m', ev C e σ m' = .ok d m') : EV C e σ m d := fun m' _ => ⟨m', h m', Old.refl _⟩
theorem EV.var {i : Nat} {d : D} (h : σ[i]? = some (some d)) : EV C (.var i) σ m d := .pure fun m' => by rw [ev, h]
theorem EV.cst {d : D} : EV C (.cst d) σ m d := .pure fun m' => by rw [ev]
theorem EL.var {i l : Nat} {xs : List Int} (h : σ[i]? = some (some (.ref l))) (hl : m[l]? = some (.lst (xs.map D.int))) : EL C (.var i) σ m xs := fun m' o => ⟨l, m', by rw [ev, h], o.at_ _ _ hl, Old.refl _⟩
theorem EVs.nil : EVs C .nil σ m [] := fun m' _ => ⟨m', by rw [evs], Old.refl _⟩
theorem EVs.cons {e : E} {es : Es} {d : D} {ds : List D} (h : EV C e σ m d) (h2 : EVs C es σ m ds) : EVs C (.cons e es) σ m (d :: ds) := fun m' o => by
  obtain ⟨m1, e1, o1⟩ := h m' o
  obtain ⟨m2, e2, o2⟩ := h2 m1 (o.trans o1)
  exact ⟨m2, by rw [evs, e1, bind_ok, e2, bind_ok], o1.trans o2⟩
theorem EL.lst {es : Es} {xs : List Int} (h : EVs C es σ m (xs.map D.int)) : EL C (.lst es) σ m xs := fun m' o => by
  obtain ⟨m1, e1, o1⟩ := h m' o
  exact ⟨m1.length, m1 ++ [.lst (xs.map D.int)], by rw [ev, e1, bind_ok]; rfl, app_last _ _, o1.trans (Old.app _ _)⟩
theorem EL.cat {a b : E} {xs ys : List Int} (h : EL C a σ m xs) (h2 : EL C b σ m ys) (hn : xs.length + ys.length ≤ 100000) : EL C (.bin .add a b) σ m (xs ++ ys) := fun m' o => by
  obtain ⟨l1, m1, e1, a1, o1⟩ := h m' o
  obtain ⟨l2, m2, e2, a2, o2⟩ := h2 m1 (o.trans o1)
  refine ⟨m2.length, m2 ++ [.lst ((xs ++ ys).map D.int)], ?_, app_last _ _, (o1.trans o2).trans (Old.app _ _)⟩
  rw [ev, e1, bind_ok, e2, bind_ok, add_lst l1 l2 _ _ m2 (o2.at_ _ _ a1) a2 (by rw [List.length_map, List.length_map]; unfold line; omega), List.map_append]
  rfl
theorem EL.fn1 {x : Str} {f : Nat} {a : E} {d : D} {xs : List Int} (hg : ∀ m', ∃ (l : Nat) (m'' : M), C.call f [d] m' = .ok (.ref l) m'' ∧ m''[l]? = some (.lst (xs.map D.int)) ∧ Old m' m'') (h : EV C a σ m d) : EL C (.fn x f (.cons a .nil)) σ m xs := fun m' o => by
  obtain ⟨m1, e1, o1⟩ := h m' o
  obtain ⟨l, m2, e2, a2, o2⟩ := hg m1
  exact ⟨l, m2, (ev_fn1 e1).trans e2, a2, o1.trans o2⟩
theorem EV.fnL {x : Str} {f : Nat} {a : E} {d : D} {xs : List Int} (hg : ∀ (l : Nat) (m' : M), m'[l]? = some (.lst (xs.map D.int)) → C.call f [.ref l] m' = .ok d m') (h : EL C a σ m xs) : EV C (.fn x f (.cons a .nil)) σ m d := fun m' o => by
  obtain ⟨l, m1, e1, a1, o1⟩ := h m' o
  exact ⟨m1, (ev_fn1 e1).trans (hg l m1 a1), o1⟩
theorem EV.fn1 {x : Str} {f : Nat} {a : E} {d d' : D} (hg : ∀ m', C.call f [d] m' = .ok d' m') (h : EV C a σ m d) : EV C (.fn x f (.cons a .nil)) σ m d' := fun m' o => by
  obtain ⟨m1, e1, o1⟩ := h m' o
  exact ⟨m1, (ev_fn1 e1).trans (hg m1), o1⟩
theorem EL.list {a : E} {xs : List Int} (h : EV C a σ m (.tup (xs.map D.int))) : EL C (.bi .list (.cons a .nil)) σ m xs := fun m' o => by
  obtain ⟨m1, e1, o1⟩ := h m' o
  exact ⟨m1.length, m1 ++ [.lst (xs.map D.int)], by rw [ev, evs, e1, bind_ok, evs, bind_ok, bind_ok]; rfl, app_last _ _, o1.trans (Old.app _ _)⟩
theorem EV.lenL {a : E} {xs : List Int} (h : EL C a σ m xs) : EV C (.bi .len (.cons a .nil)) σ m (.int xs.length) := fun m' o => by
  obtain ⟨l, m1, e1, a1, o1⟩ := h m' o
  exact ⟨m1, by rw [ev, evs, e1, bind_ok, evs, bind_ok, bind_ok, Mi.bi_len, Mi.len_ref _ _ _ a1, List.length_map], o1⟩
theorem EV.bin {a b : E} {o : Bop} {x y d : D} (hb : ∀ m', binD o x y m' = .ok d m') (h : EV C a σ m x) (h2 : EV C b σ m y) : EV C (.bin o a b) σ m d := fun m' q => by
  obtain ⟨m1, e1, o1⟩ := h m' q
  obtain ⟨m2, e2, o2⟩ := h2 m1 (q.trans o1)
  exact ⟨m2, by rw [ev, e1, bind_ok, e2, bind_ok, hb], o1.trans o2⟩
theorem EV.add {a b : E} {i j : Int} (h : EV C a σ m (.int i)) (h2 : EV C b σ m (.int j)) : EV C (.bin .add a b) σ m (.int (i + j)) := .bin (fun _ => rfl) h h2
theorem EV.sub {a b : E} {i j : Int} (h : EV C a σ m (.int i)) (h2 : EV C b σ m (.int j)) : EV C (.bin .sub a b) σ m (.int (i - j)) := .bin (fun _ => rfl) h h2
theorem EV.mulR {a b : E} {i j : Int} (h : EV C a σ m (.int i)) (h2 : EV C b σ m (.int j)) (hj : -18446744073709551616 < j ∧ j < 18446744073709551616) : EV C (.bin .mul a b) σ m (.int (i * j)) := .bin (fun m' => Mi.mulR i j m' (sm _ hj)) h h2
theorem EV.mulL {a b : E} {i j : Int} (h : EV C a σ m (.int i)) (h2 : EV C b σ m (.int j)) (hi : -18446744073709551616 < i ∧ i < 18446744073709551616) : EV C (.bin .mul a b) σ m (.int (i * j)) := .bin (fun m' => Mi.mulL i j m' (sm _ hi)) h h2
theorem EV.fdiv {a b : E} {i j : Int} (h : EV C a σ m (.int i)) (h2 : EV C b σ m (.int j)) (hj : 0 < j ∧ j < 1000000000) : EV C (.bin .fdiv a b) σ m (.int (i / j)) := .bin (fun m' => Mi.fdiv_int i j m' (by omega)) h h2
theorem EV.mod {a b : E} {i j : Int} (h : EV C a σ m (.int i)) (h2 : EV C b σ m (.int j)) (hj : 0 < j) : EV C (.bin .mod a b) σ m (.int (i % j)) := .bin (fun m' => Mi.mod_int i j m' hj) h h2
theorem EV.ix {a b : E} {x y d : D} (hb : ∀ m', ixD x y m' = .ok d m') (h : EV C a σ m x) (h2 : EV C b σ m y) : EV C (.ix a b) σ m d := fun m' q => by
  obtain ⟨m1, e1, o1⟩ := h m' q
  obtain ⟨m2, e2, o2⟩ := h2 m1 (q.trans o1)
  exact ⟨m2, by rw [ev, e1, bind_ok, e2, bind_ok, hb], o1.trans o2⟩
theorem EV.int {a : E} {i : Int} (h : EV C a σ m (.int i)) : EV C (.bi .int (.cons a .nil)) σ m (.int i) := fun m' q => by
  obtain ⟨m1, e1, o1⟩ := h m' q
  exact ⟨m1, by rw [ev, evs, e1, bind_ok, evs, bind_ok, bind_ok, Mi.bi_int], o1⟩
theorem EL.fn {x : Str} {f : Nat} {es : Es} {ds : List D} {xs : List Int} (hg : ∀ m', ∃ (l : Nat) (m'' : M), C.call f ds m' = .ok (.ref l) m'' ∧ m''[l]? = some (.lst (xs.map D.int)) ∧ Old m' m'') (h : EVs C es σ m ds) : EL C (.fn x f es) σ m xs := fun m' o => by
  obtain ⟨m1, e1, o1⟩ := h m' o
  obtain ⟨l, m2, e2, a2, o2⟩ := hg m1
  exact ⟨l, m2, by rw [ev, e1, bind_ok, e2], a2, o1.trans o2⟩
theorem EV.tup {es : Es} {ds : List D} (h : EVs C es σ m ds) : EV C (.tup es) σ m (.tup ds) := fun m' o => by
  obtain ⟨m1, e1, o1⟩ := h m' o
  exact ⟨m1, by rw [ev, e1, bind_ok], o1⟩
theorem EV.ixL {i l : Nat} {k : Nat} {a : Int} {o : List Int} (h : σ[i]? = some (some (.ref l))) (hl : m[l]? = some (.lst (o.map D.int))) (ha : o[k]? = some a) : EV C (.ix (.var i) (.cst (.int (k : Int)))) σ m (.int a) := fun m' q => ⟨m', by rw [ev, ev, h, bind_ok, ev, bind_ok, ixl l o k a m' (q.at_ _ _ hl) ha], Old.refl _⟩
theorem wp_EL {Post : Out → Prop} {i : Nat} {e : E} {r : Ss} {xs : List Int} (h : EL C e σ m xs) (k : ∀ (l : Nat) (m' : M), m'[l]? = some (.lst (xs.map D.int)) → Old m m' → Post (evSs C r (σ.set i (some (.ref l))) m')) : Post (evSs C (.cons (.set (.nm i) e) r) σ m) := by
  obtain ⟨l, m', e1, a1, o1⟩ := h m (Old.refl _)
  exact wp_set e1 rfl (k l m' a1 o1)
theorem wp_EV {Post : Out → Prop} {i : Nat} {e : E} {r : Ss} {d : D} (h : EV C e σ m d) (k : ∀ (m' : M), Old m m' → Post (evSs C r (σ.set i (some d)) m')) : Post (evSs C (.cons (.set (.nm i) e) r) σ m) := by
  obtain ⟨m', e1, o1⟩ := h m (Old.refl _)
  exact wp_set e1 rfl (k m' o1)
theorem wp_retL {Post : Out → Prop} {e : E} {r : Ss} {xs : List Int} (h : EL C e σ m xs) (k : ∀ (l : Nat) (m' : M), m'[l]? = some (.lst (xs.map D.int)) → Old m m' → Post (.rt (.ref l) m')) : Post (evSs C (.cons (.ret e) r) σ m) := by
  obtain ⟨l, m', e1, a1, o1⟩ := h m (Old.refl _)
  exact wp_ret e1 (k l m' a1 o1)
end
/-- a comprehension whose items lay new things alone -/
theorem run_lcO {α : Type} {C : Mi.Cx} {vs : List Nat} {x : Tg} {it : Mi.It} {e : E} {σ : Sl} {m m1 : M} {g q : α → D} {xs : List α} (h1 : evI C it σ m = .ok (.free (xs.map g)) m1)
    (h : ∀ a ∈ xs, ∀ m', Old m1 m' → ∃ σ' m'', setT x (g a) (wipeM σ vs) = some σ' ∧ ev C e σ' m' = .ok (q a) m'' ∧ Old m' m'') : ∃ m2, evL C (.lc vs x it .nil e) σ m = .ok (xs.map q) m2 ∧ Old m1 m2 := by
  obtain ⟨out, m2, e1, p1, p2⟩ := lc_inv (all := xs.map g) (fun d => setT x d (wipeM σ vs)) (IV.free (xs.map g)).stands (evTs C .nil) (ev C e) (fun pre acc m' => acc = (xs.take pre.length).map q ∧ Old m1 m') (fun _ _ _ _ => trivial)
    (fun pre y post acc m' ha hp => by
      obtain ⟨rfl, o⟩ := hp
      obtain ⟨a, hxa, rfl⟩ : ∃ a, xs[pre.length]? = some a ∧ y = g a := by
        have := congrArg (fun l => l[pre.length]?) ha
        simp only [List.getElem?_append_right (Nat.le_refl _), Nat.sub_self, List.getElem?_cons_zero, List.getElem?_map] at this
        cases w : xs[pre.length]? with
        | none => rw [w] at this; cases this
        | some a => rw [w] at this; exact ⟨a, rfl, (Option.some.inj this).symm⟩
      obtain ⟨σ', m'', s1, s2, s3⟩ := h a (List.mem_of_getElem? hxa) m' o
      exact ⟨σ', s1, .inl ⟨m', q a, m'', by rw [evTs], s2, by rw [List.length_append, List.length_singleton, List.take_add_one, hxa, List.map_append]; rfl, o.trans s3⟩⟩) (xs.map g) [] [] m1 rfl ⟨by simp, Old.refl _⟩
  refine ⟨m2, ?_, p2⟩
  rw [evL, h1, bind_ok]
  rw [List.length_map, List.take_of_length_le (Nat.le_refl _)] at p1
  subst p1
  exact e1
theorem ev_lcO {α : Type} {C : Mi.Cx} {vs : List Nat} {x : Tg} {it : Mi.It} {e : E} {σ : Sl} {m m1 : M} {g q : α → D} {xs : List α} (h1 : evI C it σ m = .ok (.free (xs.map g)) m1)
    (h : ∀ a ∈ xs, ∀ m', Old m1 m' → ∃ σ' m'', setT x (g a) (wipeM σ vs) = some σ' ∧ ev C e σ' m' = .ok (q a) m'' ∧ Old m' m'') : ∃ m2, ev C (.lc vs x it .nil e) σ m = .ok (.ref m2.length) (m2 ++ [.lst (xs.map q)]) ∧ Old m1 m2 := by
  obtain ⟨m2, e2, o2⟩ := run_lcO h1 h
  refine ⟨m2, ?_, o2⟩
  rw [evL] at e2
  rw [ev]
  cases hv : evI C it σ m with
  | ok v m3 =>
    rw [hv, bind_ok] at e2
    rw [bind_ok, e2, bind_ok]
    rfl
  | exc c as m3 => rw [hv] at h1; cases h1
  | bad => rw [hv] at h1; cases h1
theorem run_lcH {α : Type} {C : Mi.Cx} {vs : List Nat} {x : Tg} {it : Mi.It} {e : E} {σ : Sl} {m m1 : M} {l : Nat} {g q : α → D} {xs : List α} (h1 : evI C it σ m = .ok (.held l (xs.map g)) m1) (hl : m1[l]? = some (.lst (xs.map g)))
    (h : ∀ a ∈ xs, ∃ σ', setT x (g a) (wipeM σ vs) = some σ' ∧ ev C e σ' m1 = .ok (q a) m1) : ev C (.lc vs x it .nil e) σ m = .ok (.ref m1.length) (m1 ++ [.lst (xs.map q)]) := by
  have := lc_map (fun d => setT x d (wipeM σ vs)) (IV.held l (xs.map g)).stands (evTs C .nil) (ev C e) g q m1 hl (fun _ _ => by rw [evTs]) xs [] h
  rw [List.nil_append] at this
  exact run_lc C vs x it .nil e σ m m1 m1 _ _ h1 this
theorem evI_held {C : Mi.Cx} {i l : Nat} {σ : Sl} {m : M} {xs : List D} (hσ : σ[i]? = some (some (.ref l))) (h : m[l]? = some (.lst xs)) : evI C (.seq (.var i)) σ m = .ok (.held l xs) m := by
  rw [evI, ev_var_ hσ, bind_ok]
  unfold iterD
  simp only [h]
/-! slices -/
theorem cutDL (xs : List D) (a : Nat) (h : a ≤ xs.length) : cutD xs none (some (a : Int)) = xs.take a := by
  have := cutL (fun d : D => d) xs a h
  rwa [List.map_id'', List.map_id''] at this <;> exact fun _ => rfl
theorem cutDH (xs : List D) (a : Nat) (h : a ≤ xs.length) : cutD xs (some (a : Int)) none = xs.drop a := by
  have := cutH (fun d : D => d) xs a h
  rwa [List.map_id'', List.map_id''] at this <;> exact fun _ => rfl
theorem row_get {α : Type} {f : α → D} {rows : List α} {pre post : List D} {y : D} (h : rows.map f = pre ++ y :: post) : ∃ r, rows[pre.length]? = some r ∧ y = f r := by
  have h1 := congrArg (fun l => l[pre.length]?) h
  simp at h1
  obtain ⟨a, ha, e⟩ := h1
  exact ⟨a, ha, e.symm⟩

theorem sIx_of (n a : Nat) (d : Nat) (h : a ≤ n) : HT.sIx n d (some (a : Int)) = a := by
  show (if (a : Int) < 0 then ((a : Int) + (n : Int)).toNat else min (a : Int).toNat n) = a
  rw [if_neg (by omega)]
  omega
theorem cutR (o : List Int) (a b : Nat) (h : a ≤ b) (hb : b ≤ o.length) : cutD (o.map D.int) (some (a : Int)) (some (b : Int)) = ((o.drop a).take (b - a)).map D.int := by
  unfold cutD
  rw [List.length_map, sIx_of _ a _ (by omega), sIx_of _ b _ hb, List.map_take, List.map_drop]
theorem sl_two' (l j : Nat) (o : List Int) (m : M) (h : m[l]? = some (.lst (o.map D.int))) (hn : j + 2 ≤ o.length) : slD (.ref l) (some (j : Int)) (some ((j + 2 : Nat) : Int)) m = Mi.alloc (((o.drop j).take 2).map D.int) m := by
  unfold slD
  simp only [h]
  rw [cutR o j (j + 2) (by omega) hn, Nat.add_sub_cancel_left]
theorem EL.slR {C : Mi.Cx} {σ : Sl} {m : M} {i l a b : Nat} {o : List Int} (h : σ[i]? = some (some (.ref l))) (hl : m[l]? = some (.lst (o.map D.int))) (hab : a ≤ b) (hb : b ≤ o.length) : EL C (.sl (.var i) (.so (.cst (.int (a : Int)))) (.so (.cst (.int (b : Int))))) σ m ((o.drop a).take (b - a)) := fun m' q => by
  refine ⟨m'.length, m' ++ [.lst (((o.drop a).take (b - a)).map D.int)], ?_, app_last _ _, Old.app _ _⟩
  have e : slD (.ref l) (some (a : Int)) (some (b : Int)) m' = Mi.alloc (((o.drop a).take (b - a)).map D.int) m' := by
    unfold slD
    simp only [q.at_ _ _ hl]
    rw [cutR o a b hab hb]
  rw [ev, ev, h]
  simp only [bind_ok, evo, ev, optD]
  exact e
theorem EL.slL {C : Mi.Cx} {σ : Sl} {m : M} {i l b : Nat} {o : List Int} {eb : E} (h : σ[i]? = some (some (.ref l))) (hl : m[l]? = some (.lst (o.map D.int))) (he : ∀ m', ev C eb σ m' = .ok (.int (b : Int)) m') (hb : b ≤ o.length) : EL C (.sl (.var i) .no (.so eb)) σ m (o.take b) := fun m' q => by
  refine ⟨m'.length, m' ++ [.lst ((o.take b).map D.int)], ?_, app_last _ _, Old.app _ _⟩
  have e := sl_lo l b o m' (q.at_ _ _ hl) hb
  rw [ev, ev, h]
  simp only [bind_ok, evo, he, optD]
  exact e
theorem EL.slH {C : Mi.Cx} {σ : Sl} {m : M} {i l a : Nat} {o : List Int} {ea : E} (h : σ[i]? = some (some (.ref l))) (hl : m[l]? = some (.lst (o.map D.int))) (he : ∀ m', ev C ea σ m' = .ok (.int (a : Int)) m') (ha : a ≤ o.length) : EL C (.sl (.var i) (.so ea) .no) σ m (o.drop a) := fun m' q => by
  refine ⟨m'.length, m' ++ [.lst ((o.drop a).map D.int)], ?_, app_last _ _, Old.app _ _⟩
  have e := sl_hi l a o m' (q.at_ _ _ hl) ha
  rw [ev, ev, h]
  simp only [bind_ok, evo, he, optD]
  exact e
def val (is : List Int) : Int := is.foldl (fun n o => n * 256 + o) 0
theorem py_li (n l : Nat) (is : List Int) (m : M) (h : m[l]? = some (.lst (is.map D.int))) : toPy (n + 2) m (.ref l) = some (.list (is.map .int)) := by
  rw [py_ref (n + 1) m l _ h, mapO_ints]
  rfl
theorem eq_li (a b : Nat) (is js : List Int) (m : M) (ha : m[a]? = some (.lst (is.map D.int))) (hb : m[b]? = some (.lst (js.map D.int))) : cmpD .eq (.ref a) (.ref b) m = .ok (.bl (decide (is = js))) m := by
  rw [eq_of_py m _ _ _ _ (py_li 58 a is m ha) (py_li 58 b js m hb)]
  rw [PyData.eqv, eqvAll_ints]
theorem ne_li (a b : Nat) (is js : List Int) (m : M) (ha : m[a]? = some (.lst (is.map D.int))) (hb : m[b]? = some (.lst (js.map D.int))) : cmpD .ne (.ref a) (.ref b) m = .ok (.bl (!decide (is = js))) m := by
  rw [ne_of_py m _ _ _ _ (py_li 58 a is m ha) (py_li 58 b js m hb)]
  rw [PyData.eqv, eqvAll_ints]
theorem wp_cat {Post : Out → Prop} {C : Mi.Cx} {σ : Sl} {m : M} {i : Nat} {a b : E} {r : Ss} {xs ys : List Int} (h : EL C a σ m xs) (h2 : EL C b σ m ys) (hn : xs.length + ys.length ≤ 100000) (k : ∀ (l : Nat) (m' : M), m'[l]? = some (.lst ((xs ++ ys).map D.int)) → Old m m' → m.length ≤ l → Post (evSs C r (σ.set i (some (.ref l))) m')) : Post (evSs C (.cons (.set (.nm i) (.bin .add a b)) r) σ m) := by
  obtain ⟨l1, m1, e1, a1, o1⟩ := h m (Old.refl _)
  obtain ⟨l2, m2, e2, a2, o2⟩ := h2 m1 o1
  refine wp_set (d := .ref m2.length) (m1 := m2 ++ [.lst ((xs ++ ys).map D.int)]) ?_ rfl (k _ _ (app_last _ _) ((o1.trans o2).trans (Old.app _ _)) (o1.trans o2).len)
  rw [ev, e1, bind_ok, e2, bind_ok, add_lst l1 l2 _ _ m2 (o2.at_ _ _ a1) a2 (by rw [List.length_map, List.length_map]; unfold line; omega), List.map_append]
  rfl
theorem lz_new {s c : Nat} {m m' : M} {l : Nat} {xs : List Int} (S : St m s c) (h : m'[l]? = some (.lst (xs.map D.int))) (hl : m.length ≤ l) : Lz s c m' l xs := ⟨h, by have := S.lt; omega, by have := S.lt; omega⟩
theorem wp_retC {Post : Out → Prop} {C : Mi.Cx} {σ : Sl} {m : M} {a b : E} {r : Ss} {xs ys : List Int} (h : EL C a σ m xs) (h2 : EL C b σ m ys) (hn : xs.length + ys.length ≤ 100000) (k : ∀ (l : Nat) (m' : M), m'[l]? = some (.lst ((xs ++ ys).map D.int)) → Old m m' → m.length ≤ l → Post (.rt (.ref l) m')) : Post (evSs C (.cons (.ret (.bin .add a b)) r) σ m) := by
  obtain ⟨l1, m1, e1, a1, o1⟩ := h m (Old.refl _)
  obtain ⟨l2, m2, e2, a2, o2⟩ := h2 m1 o1
  refine wp_ret (d := .ref m2.length) (m1 := m2 ++ [.lst ((xs ++ ys).map D.int)]) ?_ (k _ _ (app_last _ _) ((o1.trans o2).trans (Old.app _ _)) (o1.trans o2).len)
  rw [ev, e1, bind_ok, e2, bind_ok, add_lst l1 l2 _ _ m2 (o2.at_ _ _ a1) a2 (by rw [List.length_map, List.length_map]; unfold line; omega), List.map_append]
  rfl
/-- lists of numbers, all laid behind m, of which p holds -/
def Ns (p : List Int → Prop) (m0 m : M) (d : D) : Prop := ∃ (l : Nat) (xs : List Int), d = .ref l ∧ m[l]? = some (.lst (xs.map D.int)) ∧ p xs ∧ m0.length ≤ l
theorem Ns.old {p : List Int → Prop} {m0 m m' : M} {d : D} (h : Ns p m0 m d) (o : Old m m') : Ns p m0 m' d := by
  obtain ⟨l, xs, a, b, c, e⟩ := h
  exact ⟨l, xs, a, o.at_ _ _ b, c, e⟩
def ENs (p : List Int → Prop) (C : Mi.Cx) (es : Es) (σ : Sl) (m : M) : Prop := ∀ m', Old m m' → ∃ ds m'', evs C es σ m' = .ok ds m'' ∧ Old m' m'' ∧ ∀ d ∈ ds, Ns p m m'' d
def EN (p : List Int → Prop) (C : Mi.Cx) (e : E) (σ : Sl) (m : M) : Prop := ∀ m', Old m m' → ∃ d m'', ev C e σ m' = .ok d m'' ∧ Old m' m'' ∧ Ns p m m'' d
theorem ENs.nil {p : List Int → Prop} {C : Mi.Cx} {σ : Sl} {m : M} : ENs p C .nil σ m := fun m' _ => ⟨[], m', by rw [evs], Old.refl _, fun _ h => (by cases h)⟩
theorem ENs.cons {p : List Int → Prop} {C : Mi.Cx} {σ : Sl} {m : M} {e : E} {es : Es} (h : EN p C e σ m) (h2 : ENs p C es σ m) : ENs p C (.cons e es) σ m := fun m' o => by
  obtain ⟨d, m1, e1, o1, n1⟩ := h m' o
  obtain ⟨ds, m2, e2, o2, n2⟩ := h2 m1 (o.trans o1)
  refine ⟨d :: ds, m2, by rw [evs, e1, bind_ok, e2, bind_ok], o1.trans o2, fun x hx => ?_⟩
  rcases List.mem_cons.mp hx with rfl | hx
  · exact n1.old o2
  · exact n2 x hx
theorem EN.cat {p : List Int → Prop} {C : Mi.Cx} {σ : Sl} {m : M} {a b : E} {xs ys : List Int} (h : EL C a σ m xs) (h2 : EL C b σ m ys) (hn : xs.length + ys.length ≤ 100000) (hp : p (xs ++ ys)) : EN p C (.bin .add a b) σ m := fun m' o => by
  obtain ⟨l1, m1, e1, a1, o1⟩ := h m' o
  obtain ⟨l2, m2, e2, a2, o2⟩ := h2 m1 (o.trans o1)
  refine ⟨.ref m2.length, m2 ++ [.lst ((xs ++ ys).map D.int)], ?_, (o1.trans o2).trans (Old.app _ _), ⟨_, _, rfl, app_last _ _, hp, ((o.trans o1).trans o2).len⟩⟩
  rw [ev, e1, bind_ok, e2, bind_ok, add_lst l1 l2 _ _ m2 (o2.at_ _ _ a1) a2 (by rw [List.length_map, List.length_map]; unfold line; omega), List.map_append]
  rfl
theorem EN.slL {p : List Int → Prop} {C : Mi.Cx} {σ : Sl} {m : M} {i l b : Nat} {o : List Int} {eb : E} (h : σ[i]? = some (some (.ref l))) (hl : m[l]? = some (.lst (o.map D.int))) (he : ∀ m', ev C eb σ m' = .ok (.int (b : Int)) m') (hb : b ≤ o.length) (hp : p (o.take b)) : EN p C (.sl (.var i) .no (.so eb)) σ m := fun m' q => by
  refine ⟨.ref m'.length, m' ++ [.lst ((o.take b).map D.int)], ?_, Old.app _ _, ⟨_, _, rfl, app_last _ _, hp, q.len⟩⟩
  have e := sl_lo l b o m' (q.at_ _ _ hl) hb
  rw [ev, ev, h]
  simp only [bind_ok, evo, he, optD]
  exact e
theorem EN.lst {p : List Int → Prop} {C : Mi.Cx} {σ : Sl} {m : M} {es : Es} {xs : List Int} (h : EVs C es σ m (xs.map D.int)) (hp : p xs) : EN p C (.lst es) σ m := fun m' o => by
  obtain ⟨m1, e1, o1⟩ := h m' o
  exact ⟨.ref m1.length, m1 ++ [.lst (xs.map D.int)], by rw [ev, e1, bind_ok]; rfl, o1.trans (Old.app _ _), ⟨_, _, rfl, app_last _ _, hp, (o.trans o1).len⟩⟩
theorem lst_l (l : Nat) (xs : List D) (m : M) (h : m[l]? = some (.lst xs)) : biD .list [.ref l] m = .ok (.ref m.length) (m ++ [.lst xs]) := by
  unfold biD one lstB biL seqD
  simp only [h]
  rfl
/-! ### what is the same as itself -/
def Fl : Nat → D → Prop
  | 0, _ => False
  | n + 1, d => match d with
    | .tup xs => xs.length ≤ line ∧ ∀ x ∈ xs, Fl n x
    | .non => True
    | .bl _ => True
    | .int _ => True
    | .str _ => True
    | _ => False
theorem sms_of (n : Nat) (m : M) : ∀ xs : List D, (∀ x ∈ xs, Sm n m x x) → Sms n m xs xs
  | [], _ => .nil
  | x :: xs, h => .cons _ _ _ _ (h x List.mem_cons_self) (sms_of n m xs fun y hy => h y (List.mem_cons_of_mem _ hy))
theorem sm_refl (m : M) : ∀ (n : Nat) (d : D), Fl n d → Sm n m d d
  | 0, _, h => h.elim
  | n + 1, .tup xs, h => sm_sq n m true _ _ _ _ (.tup _) (.tup _) h.1 (sms_of n m xs fun x hx => sm_refl m n x (h.2 x hx))
  | n + 1, .non, _ => sm_non n m
  | n + 1, .bl b, _ => sm_bl n m b
  | n + 1, .int i, _ => sm_int n m i
  | n + 1, .str x, _ => sm_str n m x
  | n + 1, .fl _, h => h.elim
  | n + 1, .ref _, h => h.elim
theorem fl_ints (n : Nat) (is : List Int) (h : is.length ≤ 100000) : Fl (n + 2) (.tup (is.map D.int)) := by
  refine ⟨by rw [List.length_map]; unfold line; omega, fun x hx => ?_⟩
  obtain ⟨i, _, rfl⟩ := List.mem_map.mp hx
  trivial
theorem sum_l (l : Nat) (is : List Int) (m : M) (h : m[l]? = some (.lst (is.map D.int))) : biD .sum [.ref l] m = .ok (.int is.sum) m := by
  have : ∀ is : List Int, intsD (is.map D.int) = some is := intsD_mapI
  unfold biD one lstB biL seqD
  simp only [h, this]
end
end Dr

set_option linter.all false
set_option autoImplicit false
set_option Elab.async false
set_option maxRecDepth 100000
set_option maxHeartbeats 4000000
/-! Dr13: displays of values that hold nothing of the heap. -/
namespace Dr
noncomputable section
open PySem L2 Mi
/-- shown alike, whatever the heap; at most so long -/
def Sw (n : Nat) (d : D) (z : Nat) : Prop := ∃ p, (∀ m, toPy n m d = some p) ∧ okP p = true ∧ sizeP p ≤ z
def Sws (n : Nat) (ds : List D) (z : Nat) : Prop := ∃ ps, (∀ m, mapO (toPy n m) ds = some ps) ∧ okPs ps = true ∧ sizePs ps ≤ z
theorem Sw.mono {n : Nat} {d : D} {a b : Nat} (h : Sw n d a) (q : a ≤ b) : Sw n d b := by
  obtain ⟨p, h1, h2, h3⟩ := h
  exact ⟨p, h1, h2, Nat.le_trans h3 q⟩
theorem Sw.int {n : Nat} {i : Int} (h : -18446744073709551616 < i ∧ i < 18446744073709551616) : Sw (n + 1) (.int i) 100 := ⟨.int i, fun _ => rfl, by rw [okP]; exact decide_eq_true h, by rw [sizeP]; exact Nat.le_refl _; all_goals (intros; contradiction)⟩
theorem Sw.str {n : Nat} {x : Str} (h : (PyData.strOk (reprText x) && decide ((reprText x).length ≤ 100)) = true) : Sw (n + 1) (.str x) 100 := ⟨.str x, fun _ => rfl, word_ok x h, by rw [sizeP]; exact Nat.le_refl _; all_goals (intros; contradiction)⟩
theorem Sw.non {n : Nat} : Sw (n + 1) .non 100 := ⟨.none, fun _ => rfl, by rw [okP], by rw [sizeP]; exact Nat.le_refl _; all_goals (intros; contradiction)⟩
theorem Sw.tup {n z : Nat} {ds : List D} (h : Sws n ds z) : Sw (n + 1) (.tup ds) (3 + z) := by
  obtain ⟨ps, h1, h2, h3⟩ := h
  refine ⟨.tuple ps, fun m => ?_, by rw [okP_tup]; exact h2, by rw [sizeP]; omega⟩
  show (mapO (toPy n m) ds).map PyData.tuple = _
  rw [h1 m]
  rfl
theorem Sws.nil {n : Nat} : Sws n [] 0 := ⟨[], fun _ => rfl, okPs_nil, by rw [sizePs]; exact Nat.le_refl _⟩
theorem Sws.cons {n a b : Nat} {d : D} {ds : List D} (h : Sw n d a) (h2 : Sws n ds b) : Sws n (d :: ds) (a + 2 + b) := by
  obtain ⟨p, h1, h3, h4⟩ := h
  obtain ⟨ps, q1, q3, q4⟩ := h2
  refine ⟨p :: ps, fun m => mapO_cons _ _ _ _ _ (h1 m) (q1 m), by rw [okPs_cons, h3, q3]; rfl, by rw [sizePs]; omega⟩
theorem Sws.ints {n : Nat} : ∀ is : List Int, (∀ i ∈ is, -18446744073709551616 < i ∧ i < 18446744073709551616) → Sws (n + 1) (is.map D.int) (102 * is.length)
  | [], _ => .nil
  | i :: is, h => by
    have := Sws.cons (Sw.int (n := n) (h i (List.mem_cons_self ..))) (Sws.ints is fun j hj => h j (List.mem_cons_of_mem _ hj))
    rw [List.length_cons]
    obtain ⟨ps, q1, q2, q3⟩ := this
    exact ⟨ps, q1, q2, by omega⟩
theorem repr_sw {xs : List D} {z : Nat} (h : Sws 59 xs z) (hz : z ≤ 10000000) : ∃ t : Str, ∀ m, biD .repr [.ref m.length] (m ++ [.lst xs]) = .ok (.str t) (m ++ [.lst xs]) := by
  obtain ⟨ps, h1, h2, h3⟩ := h
  refine ⟨(PyData.list ps).shown, fun m => ?_⟩
  have e0 := app_last m (Mi.O.lst xs)
  have e : reprD (.ref m.length) (m ++ [.lst xs]) = showR (.ref m.length) (m ++ [.lst xs]) := by
    unfold reprD
    simp only [e0]
  rw [bi_repr, e]
  refine show_ok (p := .list ps) ?_ (by rw [okP_lst]; exact h2) (by rw [sizeP]; unfold line; omega)
  rw [py_ref 59 _ _ _ e0, h1]
  rfl
end
end Dr

set_option linter.all false
set_option autoImplicit false
set_option Elab.async false
set_option maxRecDepth 100000
set_option maxHeartbeats 4000000
/-! Dr14: small steps of runs, found again and again. -/
namespace Dr
noncomputable section
open PySem L2 Mi
theorem add_t {C : Mi.Cx} {a b : E} {σ : Sl} {m m1 m2 : M} {i j : Int} (h : ev C a σ m = .ok (.int i) m1) (h2 : ev C b σ m1 = .ok (.int j) m2) : ev C (.bin .add a b) σ m = .ok (.int (i + j)) m2 := by
  rw [ev, h, bind_ok, h2, bind_ok]
  rfl
theorem ev_tup {C : Mi.Cx} {es : Es} {σ : Sl} {m m1 : M} {ds : List D} (h : evs C es σ m = .ok ds m1) : ev C (.tup es) σ m = .ok (.tup ds) m1 := by rw [ev, h, bind_ok]
theorem evs_c {C : Mi.Cx} {e : E} {es : Es} {σ : Sl} {m m1 m2 : M} {d : D} {ds : List D} (h : ev C e σ m = .ok d m1) (h2 : evs C es σ m1 = .ok ds m2) : evs C (.cons e es) σ m = .ok (d :: ds) m2 := by rw [evs, h, bind_ok, h2, bind_ok]
theorem evs_n {C : Mi.Cx} {σ : Sl} {m : M} : evs C .nil σ m = .ok [] m := by rw [evs]
theorem rt_of {o : Out} {xs : List D} {m : M} (h : o.fin = .ok (.tup xs) m) : o = .rt (.tup xs) m := by
  cases o with
  | rt d m' =>
    injection h with h1 h2
    rw [h1, h2]
  | nx σ m' =>
    injection h with h1 h2
    cases h1
  | _ => cases h
theorem ev_ife {C : Mi.Cx} {t a b : E} {σ : Sl} {m m1 : M} {q : Bool} (h : ev C t σ m = .ok (.bl q) m1) : ev C (.ife t a b) σ m = if q = true then ev C a σ m1 else ev C b σ m1 := by
  cases q <;> simp only [evSs, evS, ev, evs, evL, evTs, evo, evI, evT, bind_ok, bind_bad, out_ok, out_bad, obind_nx, obind_rt, obind_bk, obind_ct, obind_bad, fin_nx, fin_rt, fin_bad, tru_bl, tru_non, tru_int, chD_bl, Mi.add_int, Mi.sub_int, Mi.lt_int, Mi.le_int, Mi.gt_int, Mi.ge_int, Mi.eq_int, Mi.ne_int, Mi.eq_bl, Mi.ne_bl, Mi.eq_str, Mi.ne_str, Mi.is_non, Mi.nis_non, Mi.is_bl, Mi.nis_bl, isn_non, isn_bl, isn_int, isn_str, isn_tup, isn_fl, isn_ref, Mi.bi_len, Mi.bi_abs, Mi.bi_int, Mi.bi_intb, Mi.bi_min, Mi.bi_max, Mi.len_str, Mi.len_tup, Mi.len_fl, isi_int, isi_bl, isi_str, isi_non, isi_tup, isi_fl, isTy, List.any_cons, List.any_nil, setT_nm, Mi.lstT_nm, Mi.lstT_tup, List.getElem?_cons_zero, List.getElem?_cons_succ, List.set_cons_zero, List.set_cons_succ, decide_eq_true_eq, Bool.or_false, Bool.or_true, Bool.false_or, Bool.true_or, Bool.not_true, Bool.not_false, Bool.false_eq_true, if_true, if_false, reduceIte, negD, optD, ne_eq, not_true_eq_false, not_false_eq_true, decide_true, decide_false, h]
theorem cat_l {C : Mi.Cx} {a b : E} {σ : Sl} {m m1 m2 : M} {l1 l2 : Nat} {xs ys : List D} (h : ev C a σ m = .ok (.ref l1) m1) (h2 : ev C b σ m1 = .ok (.ref l2) m2) (h3 : m2[l1]? = some (.lst xs)) (h4 : m2[l2]? = some (.lst ys)) (hn : xs.length + ys.length ≤ 100000) : ev C (.bin .add a b) σ m = .ok (.ref m2.length) (m2 ++ [.lst (xs ++ ys)]) := by
  rw [ev, h, bind_ok, h2, bind_ok]
  show (match m2[l1]?, m2[l2]? with
    | some (.lst xs), some (.lst ys) => if xs.length + ys.length ≤ line then alloc (xs ++ ys) m2 else .bad
    | _, _ => .bad) = _
  simp only [h3, h4]
  rw [if_pos (by unfold line; omega)]
  rfl
theorem ev_and_t {C : Mi.Cx} {a b : E} {σ : Sl} {m m1 : M} (h : ev C a σ m = .ok (.bl true) m1) : ev C (.and a b) σ m = ev C b σ m1 := by
  simp only [evSs, evS, ev, evs, evL, evTs, evo, evI, evT, bind_ok, bind_bad, out_ok, out_bad, obind_nx, obind_rt, obind_bk, obind_ct, obind_bad, fin_nx, fin_rt, fin_bad, tru_bl, tru_non, tru_int, chD_bl, Mi.add_int, Mi.sub_int, Mi.lt_int, Mi.le_int, Mi.gt_int, Mi.ge_int, Mi.eq_int, Mi.ne_int, Mi.eq_bl, Mi.ne_bl, Mi.eq_str, Mi.ne_str, Mi.is_non, Mi.nis_non, Mi.is_bl, Mi.nis_bl, isn_non, isn_bl, isn_int, isn_str, isn_tup, isn_fl, isn_ref, Mi.bi_len, Mi.bi_abs, Mi.bi_int, Mi.bi_intb, Mi.bi_min, Mi.bi_max, Mi.len_str, Mi.len_tup, Mi.len_fl, isi_int, isi_bl, isi_str, isi_non, isi_tup, isi_fl, isTy, List.any_cons, List.any_nil, setT_nm, Mi.lstT_nm, Mi.lstT_tup, List.getElem?_cons_zero, List.getElem?_cons_succ, List.set_cons_zero, List.set_cons_succ, decide_eq_true_eq, Bool.or_false, Bool.or_true, Bool.false_or, Bool.true_or, Bool.not_true, Bool.not_false, Bool.false_eq_true, if_true, if_false, reduceIte, negD, optD, ne_eq, not_true_eq_false, not_false_eq_true, decide_true, decide_false, h]
theorem ev_and_f {C : Mi.Cx} {a b : E} {σ : Sl} {m m1 : M} (h : ev C a σ m = .ok (.bl false) m1) : ev C (.and a b) σ m = .ok (.bl false) m1 := by
  simp only [evSs, evS, ev, evs, evL, evTs, evo, evI, evT, bind_ok, bind_bad, out_ok, out_bad, obind_nx, obind_rt, obind_bk, obind_ct, obind_bad, fin_nx, fin_rt, fin_bad, tru_bl, tru_non, tru_int, chD_bl, Mi.add_int, Mi.sub_int, Mi.lt_int, Mi.le_int, Mi.gt_int, Mi.ge_int, Mi.eq_int, Mi.ne_int, Mi.eq_bl, Mi.ne_bl, Mi.eq_str, Mi.ne_str, Mi.is_non, Mi.nis_non, Mi.is_bl, Mi.nis_bl, isn_non, isn_bl, isn_int, isn_str, isn_tup, isn_fl, isn_ref, Mi.bi_len, Mi.bi_abs, Mi.bi_int, Mi.bi_intb, Mi.bi_min, Mi.bi_max, Mi.len_str, Mi.len_tup, Mi.len_fl, isi_int, isi_bl, isi_str, isi_non, isi_tup, isi_fl, isTy, List.any_cons, List.any_nil, setT_nm, Mi.lstT_nm, Mi.lstT_tup, List.getElem?_cons_zero, List.getElem?_cons_succ, List.set_cons_zero, List.set_cons_succ, decide_eq_true_eq, Bool.or_false, Bool.or_true, Bool.false_or, Bool.true_or, Bool.not_true, Bool.not_false, Bool.false_eq_true, if_true, if_false, reduceIte, negD, optD, ne_eq, not_true_eq_false, not_false_eq_true, decide_true, decide_false, h]
theorem evT_of {C : Mi.Cx} {e : E} {σ : Sl} {m m1 : M} {b : Bool} (h : ev C e σ m = .ok (.bl b) m1) : evT C e σ m = .ok b m1 := by
  unfold evT
  rw [h, bind_ok, tru_bl]
theorem sl_lo' {C : Mi.Cx} {i l n : Nat} {e : E} {σ : Sl} {m m1 : M} {xs : List D} (h : σ[i]? = some (some (.ref l))) (hl : m1[l]? = some (.lst xs)) (he : ev C e σ m = .ok (.int (n : Nat)) m1) (hn : n ≤ xs.length) : ev C (.sl (.var i) .no (.so e)) σ m = .ok (.ref m1.length) (m1 ++ [.lst (xs.take n)]) := by
  rw [ev, ev_var_ h, bind_ok, evo, bind_ok, evo, he]
  show slD (.ref l) none (some (n : Int)) m1 = _
  unfold slD
  simp only [hl]
  rw [cutDL xs n hn]
  rfl
theorem sl_hi' {C : Mi.Cx} {i l n : Nat} {e : E} {σ : Sl} {m m1 : M} {xs : List D} (h : σ[i]? = some (some (.ref l))) (hl : m1[l]? = some (.lst xs)) (he : ev C e σ m = .ok (.int (n : Nat)) m1) (hn : n ≤ xs.length) : ev C (.sl (.var i) (.so e) .no) σ m = .ok (.ref m1.length) (m1 ++ [.lst (xs.drop n)]) := by
  rw [ev, ev_var_ h, bind_ok, evo, he]
  show slD (.ref l) (some (n : Int)) none m1 = _
  unfold slD
  simp only [hl]
  rw [cutDH xs n hn]
  rfl
theorem ev_list1 {C : Mi.Cx} {e : E} {σ : Sl} {m m1 : M} {d : D} (h : ev C e σ m = .ok d m1) : ev C (.lst (.cons e .nil)) σ m = .ok (.ref m1.length) (m1 ++ [.lst [d]]) := by
  rw [ev, evs_c h evs_n, bind_ok]
  rfl
theorem len_r {C : Mi.Cx} {i l : Nat} {σ : Sl} {m : M} {xs : List D} (h : σ[i]? = some (some (.ref l))) (hl : m[l]? = some (.lst xs)) : ev C (.bi .len (.cons (.var i) .nil)) σ m = .ok (.int (xs.length : Nat)) m := by
  rw [ev_bi_ (ev_var_ h)]
  show lenD (.ref l) m = _
  unfold lenD
  simp only [hl]
end
end Dr

set_option linter.all false
set_option autoImplicit false
set_option Elab.async false
set_option maxRecDepth 100000
set_option maxHeartbeats 4000000
/-! Dr15: numbers drawn from a tape. -/
namespace Dr
noncomputable section
open PySem L2 Mi
def B_draw : Ss :=
(.cons (.ife (.cmp .eq (.ix (.var 0) (.cst (.int 0))) (.cst (.int 0))) (.cons (.set (.nm 2) (.cst (.int 0)))
 (.cons (.ife (.cmp .lt (.ix (.var 0) (.cst (.int 2))) (.bi .len (.cons (.ix (.var 0) (.cst (.int 1))) .nil))) (.cons (.set (.nm 2) (.bi .abs (.cons (.bi .int (.cons (.ix (.ix (.var 0) (.cst (.int 1))) (.ix (.var 0) (.cst (.int 2)))) .nil)) .nil)))
 .nil) .nil)
 (.cons (.six (.var 0) (.cst (.int 2)) (.bin .add (.ix (.var 0) (.cst (.int 2))) (.cst (.int 1))))
 (.cons (.six (.var 0) (.cst (.int 0)) (.var 2))
 (.cons (.ife (.cmp .lt (.var 2) (.bin .pow (.cst (.int 10)) (.cst (.int 18)))) (.cons (.set (.nm 3) (.bin .mod (.bi .int (.cons (.bin .add (.bin .add (.bin .mul (.var 2) (.cst (.int 48271))) (.bin .mul (.ix (.var 0) (.cst (.int 2))) (.cst (.int 69621)))) (.cst (.int 12345))) .nil)) (.cst (.int 2147483647))))
 (.cons (.six (.var 0) (.cst (.int 0)) (.bin .add (.bin .mul (.var 3) (.cst (.int 2147483629))) (.bin .mod (.bi .int (.cons (.bin .add (.bin .mul (.var 3) (.cst (.int 16807))) (.cst (.int 11))) .nil)) (.cst (.int 2147483629)))))
 .nil)) .nil)
 .nil))))) .nil)
 (.cons (.set (.nm 4) (.ix (.var 0) (.cst (.int 0))))
 (.cons (.six (.var 0) (.cst (.int 0)) (.bin .fdiv (.var 4) (.var 1)))
 (.cons (.ret (.bin .mod (.bi .int (.cons (.var 4) .nil)) (.var 1)))
 .nil))))
/-- a tape at t: what is left, the cells at c, how many were read -/
structure Tp (m : M) (t c : Nat) : Prop where
  ex : ∃ (rest pos : Int) (cells : List Int), m[t]? = some (.lst [.int rest, .ref c, .int pos]) ∧ m[c]? = some (.lst (cells.map D.int)) ∧ 0 ≤ rest ∧ 0 ≤ pos ∧ cells.length ≤ 100000
  ne : t ≠ c
def TpE (m : M) (t c : Nat) (cells : List Int) (rest pos : Int) : Prop := m[t]? = some (.lst [.int rest, .ref c, .int pos]) ∧ m[c]? = some (.lst (cells.map D.int)) ∧ 0 ≤ rest ∧ 0 ≤ pos
theorem Tp.lt {m : M} {t c : Nat} (h : Tp m t c) : t < m.length ∧ c < m.length := by
  obtain ⟨_, _, _, h1, h2, _⟩ := h.ex
  exact ⟨(List.getElem?_eq_some_iff.mp h1).1, (List.getElem?_eq_some_iff.mp h2).1⟩
theorem Old.tp {m m' : M} {t c : Nat} (o : Old m m') (h : Tp m t c) : Tp m' t c := by
  obtain ⟨r, p, cs, h1, h2, h3⟩ := h.ex
  exact ⟨⟨r, p, cs, o.at_ _ _ h1, o.at_ _ _ h2, h3⟩, h.ne⟩
theorem Tp.app {m : M} {t c : Nat} (h : Tp m t c) (g : M) : Tp (m ++ g) t c := (Old.app m g).tp h
theorem Tp.setO {t c : Nat} {m : M} (h : Tp m t c) {l : Nat} (hs : l ≠ t) (hc : l ≠ c) (o : O) : Tp (m.set l o) t c := by
  obtain ⟨r, p, cs, h1, h2, h3⟩ := h.ex
  exact ⟨⟨r, p, cs, by rw [List.getElem?_set_ne hs]; exact h1, by rw [List.getElem?_set_ne hc]; exact h2, h3⟩, h.ne⟩
def IsDraw (g : List D → M → R D) : Prop := ∀ (t c : Nat) (most : Int) (m : M), Tp m t c → 0 < most → most < 1000000000000 → ∃ (r : Int) (m' : M), g [.ref t, .int most] m = .ok (.int r) m' ∧ 0 ≤ r ∧ r < most ∧ Tp m' t c ∧ Kp t c m m'
theorem draw_s (C : Mi.Cx) (t c : Nat) (most : Int) (m : M) (h : Tp m t c) (h0 : 0 < most) (hm : most < 1000000000000) :
    ∃ (r : Int) (m' : M), (evSs C B_draw [some (.ref t), some (.int most), none, none, none] m).fin = .ok (.int r) m' ∧ 0 ≤ r ∧ r < most ∧ Tp m' t c ∧ Kp t c m m' := by
  obtain ⟨⟨rest, pos, cells, h1, h2, h3, h4, h5⟩, ne⟩ := id h
  have tlt := (List.getElem?_eq_some_iff.mp h1).1
  let Post : Out → Prop := fun u => ∃ (r : Int) (m' : M), u.fin = .ok (.int r) m' ∧ 0 ≤ r ∧ r < most ∧ Tp m' t c ∧ Kp t c m m'
  show Post _
  have fin : ∀ (rest pos : Int) (m1 : M) (x2 x3 : Option D), m1[t]? = some (.lst [.int rest, .ref c, .int pos]) → m1[c]? = some (.lst (cells.map D.int)) → 0 ≤ rest → 0 ≤ pos → Kp t c m m1 → Post (evSs C (.cons (.set (.nm 4) (.ix (.var 0) (.cst (.int 0)))) (.cons (.six (.var 0) (.cst (.int 0)) (.bin .fdiv (.var 4) (.var 1))) (.cons (.ret (.bin .mod (.bi .int (.cons (.var 4) .nil)) (.var 1))) .nil))) [some (.ref t), some (.int most), x2, x3, none] m1) := fun rest pos m1 x2 x3 a1 a2 a3 a4 K => by
    have ix0 := ix_ref t _ 0 _ m1 a1 (at_0 _ _)
    have tlt := (List.getElem?_eq_some_iff.mp a1).1
    have hset : setD (.ref t) (.int 0) (.int (rest / most)) m1 = some (m1.set t (.lst [.int (rest / most), .ref c, .int pos])) := set_ref t _ 0 _ m1 a1 (by omega) (by simp)
    refine wp_set (d := .int rest) (m1 := m1) (by simp only [evSs, evS, ev, evs, evL, evTs, evo, evI, evT, bind_ok, bind_bad, out_ok, out_bad, obind_nx, obind_rt, obind_bk, obind_ct, obind_bad, fin_nx, fin_rt, fin_bad, tru_bl, tru_non, tru_int, chD_bl, Mi.add_int, Mi.sub_int, Mi.lt_int, Mi.le_int, Mi.gt_int, Mi.ge_int, Mi.eq_int, Mi.ne_int, Mi.eq_bl, Mi.ne_bl, Mi.eq_str, Mi.ne_str, Mi.is_non, Mi.nis_non, Mi.is_bl, Mi.nis_bl, isn_non, isn_bl, isn_int, isn_str, isn_tup, isn_fl, isn_ref, Mi.bi_len, Mi.bi_abs, Mi.bi_int, Mi.bi_intb, Mi.bi_min, Mi.bi_max, Mi.len_str, Mi.len_tup, Mi.len_fl, isi_int, isi_bl, isi_str, isi_non, isi_tup, isi_fl, isTy, List.any_cons, List.any_nil, setT_nm, Mi.lstT_nm, Mi.lstT_tup, List.getElem?_cons_zero, List.getElem?_cons_succ, List.set_cons_zero, List.set_cons_succ, decide_eq_true_eq, Bool.or_false, Bool.or_true, Bool.false_or, Bool.true_or, Bool.not_true, Bool.not_false, Bool.false_eq_true, if_true, if_false, reduceIte, negD, optD, ne_eq, not_true_eq_false, not_false_eq_true, decide_true, decide_false, ix0]) rfl ?_
    simp only [List.set_cons_succ, List.set_cons_zero]
    refine wp_st (σ1 := [some (.ref t), some (.int most), x2, x3, some (.int rest)]) (m1 := m1.set t (.lst [.int (rest / most), .ref c, .int pos])) (by simp only [evSs, evS, ev, evs, evL, evTs, evo, evI, evT, bind_ok, bind_bad, out_ok, out_bad, obind_nx, obind_rt, obind_bk, obind_ct, obind_bad, fin_nx, fin_rt, fin_bad, tru_bl, tru_non, tru_int, chD_bl, Mi.add_int, Mi.sub_int, Mi.lt_int, Mi.le_int, Mi.gt_int, Mi.ge_int, Mi.eq_int, Mi.ne_int, Mi.eq_bl, Mi.ne_bl, Mi.eq_str, Mi.ne_str, Mi.is_non, Mi.nis_non, Mi.is_bl, Mi.nis_bl, isn_non, isn_bl, isn_int, isn_str, isn_tup, isn_fl, isn_ref, Mi.bi_len, Mi.bi_abs, Mi.bi_int, Mi.bi_intb, Mi.bi_min, Mi.bi_max, Mi.len_str, Mi.len_tup, Mi.len_fl, isi_int, isi_bl, isi_str, isi_non, isi_tup, isi_fl, isTy, List.any_cons, List.any_nil, setT_nm, Mi.lstT_nm, Mi.lstT_tup, List.getElem?_cons_zero, List.getElem?_cons_succ, List.set_cons_zero, List.set_cons_succ, decide_eq_true_eq, Bool.or_false, Bool.or_true, Bool.false_or, Bool.true_or, Bool.not_true, Bool.not_false, Bool.false_eq_true, if_true, if_false, reduceIte, negD, optD, ne_eq, not_true_eq_false, not_false_eq_true, decide_true, decide_false, Mi.fdiv_int rest most _ ⟨h0, by omega⟩, hset]) ?_
    refine wp_ret (d := .int (rest % most)) (m1 := m1.set t (.lst [.int (rest / most), .ref c, .int pos])) (by simp only [evSs, evS, ev, evs, evL, evTs, evo, evI, evT, bind_ok, bind_bad, out_ok, out_bad, obind_nx, obind_rt, obind_bk, obind_ct, obind_bad, fin_nx, fin_rt, fin_bad, tru_bl, tru_non, tru_int, chD_bl, Mi.add_int, Mi.sub_int, Mi.lt_int, Mi.le_int, Mi.gt_int, Mi.ge_int, Mi.eq_int, Mi.ne_int, Mi.eq_bl, Mi.ne_bl, Mi.eq_str, Mi.ne_str, Mi.is_non, Mi.nis_non, Mi.is_bl, Mi.nis_bl, isn_non, isn_bl, isn_int, isn_str, isn_tup, isn_fl, isn_ref, Mi.bi_len, Mi.bi_abs, Mi.bi_int, Mi.bi_intb, Mi.bi_min, Mi.bi_max, Mi.len_str, Mi.len_tup, Mi.len_fl, isi_int, isi_bl, isi_str, isi_non, isi_tup, isi_fl, isTy, List.any_cons, List.any_nil, setT_nm, Mi.lstT_nm, Mi.lstT_tup, List.getElem?_cons_zero, List.getElem?_cons_succ, List.set_cons_zero, List.set_cons_succ, decide_eq_true_eq, Bool.or_false, Bool.or_true, Bool.false_or, Bool.true_or, Bool.not_true, Bool.not_false, Bool.false_eq_true, if_true, if_false, reduceIte, negD, optD, ne_eq, not_true_eq_false, not_false_eq_true, decide_true, decide_false, Mi.mod_int rest most _ h0]) ?_
    exact ⟨_, _, rfl, Int.emod_nonneg _ (by omega), Int.emod_lt_of_pos _ h0, ⟨⟨rest / most, pos, cells, List.getElem?_set_self tlt, by rw [List.getElem?_set_ne ne]; exact a2, Int.ediv_nonneg a3 (by omega), a4, h5⟩, ne⟩, K.trans ⟨by simp, fun l o n1 _ e => by rw [List.getElem?_set_ne (Ne.symm n1)]; exact e⟩⟩
  unfold B_draw
  have ix0 := ix_ref t _ 0 _ m h1 (at_0 _ _)
  have ix1 := ix_ref t _ 1 _ m h1 (at_1 _ _ _)
  have ix2 := ix_ref t _ 2 _ m h1 (at_2 _ _ _ _)
  by_cases z : rest = 0
  · refine Dr.wp_then (m1 := m) (by unfold evT; simp only [evSs, evS, ev, evs, evL, evTs, evo, evI, evT, bind_ok, bind_bad, out_ok, out_bad, obind_nx, obind_rt, obind_bk, obind_ct, obind_bad, fin_nx, fin_rt, fin_bad, tru_bl, tru_non, tru_int, chD_bl, Mi.add_int, Mi.sub_int, Mi.lt_int, Mi.le_int, Mi.gt_int, Mi.ge_int, Mi.eq_int, Mi.ne_int, Mi.eq_bl, Mi.ne_bl, Mi.eq_str, Mi.ne_str, Mi.is_non, Mi.nis_non, Mi.is_bl, Mi.nis_bl, isn_non, isn_bl, isn_int, isn_str, isn_tup, isn_fl, isn_ref, Mi.bi_len, Mi.bi_abs, Mi.bi_int, Mi.bi_intb, Mi.bi_min, Mi.bi_max, Mi.len_str, Mi.len_tup, Mi.len_fl, isi_int, isi_bl, isi_str, isi_non, isi_tup, isi_fl, isTy, List.any_cons, List.any_nil, setT_nm, Mi.lstT_nm, Mi.lstT_tup, List.getElem?_cons_zero, List.getElem?_cons_succ, List.set_cons_zero, List.set_cons_succ, decide_eq_true_eq, Bool.or_false, Bool.or_true, Bool.false_or, Bool.true_or, Bool.not_true, Bool.not_false, Bool.false_eq_true, if_true, if_false, reduceIte, negD, optD, ne_eq, not_true_eq_false, not_false_eq_true, decide_true, decide_false, ix0, z]) ?_
    refine wp_set (d := .int 0) (m1 := m) (by simp only [evSs, evS, ev, evs, evL, evTs, evo, evI, evT, bind_ok, bind_bad, out_ok, out_bad, obind_nx, obind_rt, obind_bk, obind_ct, obind_bad, fin_nx, fin_rt, fin_bad, tru_bl, tru_non, tru_int, chD_bl, Mi.add_int, Mi.sub_int, Mi.lt_int, Mi.le_int, Mi.gt_int, Mi.ge_int, Mi.eq_int, Mi.ne_int, Mi.eq_bl, Mi.ne_bl, Mi.eq_str, Mi.ne_str, Mi.is_non, Mi.nis_non, Mi.is_bl, Mi.nis_bl, isn_non, isn_bl, isn_int, isn_str, isn_tup, isn_fl, isn_ref, Mi.bi_len, Mi.bi_abs, Mi.bi_int, Mi.bi_intb, Mi.bi_min, Mi.bi_max, Mi.len_str, Mi.len_tup, Mi.len_fl, isi_int, isi_bl, isi_str, isi_non, isi_tup, isi_fl, isTy, List.any_cons, List.any_nil, setT_nm, Mi.lstT_nm, Mi.lstT_tup, List.getElem?_cons_zero, List.getElem?_cons_succ, List.set_cons_zero, List.set_cons_succ, decide_eq_true_eq, Bool.or_false, Bool.or_true, Bool.false_or, Bool.true_or, Bool.not_true, Bool.not_false, Bool.false_eq_true, if_true, if_false, reduceIte, negD, optD, ne_eq, not_true_eq_false, not_false_eq_true, decide_true, decide_false]) rfl ?_
    simp only [List.set_cons_succ, List.set_cons_zero]
    have ln := Mi.len_ref c _ m h2
    have go : ∀ cell : Int, 0 ≤ cell → Bd Post C (.cons (.set (.nm 4) (.ix (.var 0) (.cst (.int 0)))) (.cons (.six (.var 0) (.cst (.int 0)) (.bin .fdiv (.var 4) (.var 1))) (.cons (.ret (.bin .mod (.bi .int (.cons (.var 4) .nil)) (.var 1))) .nil))) (evSs C (.cons (.six (.var 0) (.cst (.int 2)) (.bin .add (.ix (.var 0) (.cst (.int 2))) (.cst (.int 1)))) (.cons (.six (.var 0) (.cst (.int 0)) (.var 2)) (.cons (.ife (.cmp .lt (.var 2) (.bin .pow (.cst (.int 10)) (.cst (.int 18)))) (.cons (.set (.nm 3) (.bin .mod (.bi .int (.cons (.bin .add (.bin .add (.bin .mul (.var 2) (.cst (.int 48271))) (.bin .mul (.ix (.var 0) (.cst (.int 2))) (.cst (.int 69621)))) (.cst (.int 12345))) .nil)) (.cst (.int 2147483647)))) (.cons (.six (.var 0) (.cst (.int 0)) (.bin .add (.bin .mul (.var 3) (.cst (.int 2147483629))) (.bin .mod (.bi .int (.cons (.bin .add (.bin .mul (.var 3) (.cst (.int 16807))) (.cst (.int 11))) .nil)) (.cst (.int 2147483629))))) .nil)) .nil) .nil))) [some (.ref t), some (.int most), some (.int cell), none, none] m) := fun cell hc => by
      have s1 : setD (.ref t) (.int 2) (.int (pos + 1)) m = some (m.set t (.lst [.int rest, .ref c, .int (pos + 1)])) := set_ref t _ 2 _ m h1 (by omega) (by simp)
      have b1 : (m.set t (.lst [.int rest, .ref c, .int (pos + 1)]))[t]? = some (.lst [.int rest, .ref c, .int (pos + 1)]) := List.getElem?_set_self tlt
      have b2 : (m.set t (.lst [.int rest, .ref c, .int (pos + 1)]))[c]? = some (.lst (cells.map D.int)) := by rw [List.getElem?_set_ne ne]; exact h2
      have k1 : Kp t c m (m.set t (.lst [.int rest, .ref c, .int (pos + 1)])) := ⟨by simp, fun l o n1 _ e => by rw [List.getElem?_set_ne (Ne.symm n1)]; exact e⟩
      refine wp_st (σ1 := [some (.ref t), some (.int most), some (.int cell), none, none]) (m1 := m.set t (.lst [.int rest, .ref c, .int (pos + 1)])) (by simp only [evSs, evS, ev, evs, evL, evTs, evo, evI, evT, bind_ok, bind_bad, out_ok, out_bad, obind_nx, obind_rt, obind_bk, obind_ct, obind_bad, fin_nx, fin_rt, fin_bad, tru_bl, tru_non, tru_int, chD_bl, Mi.add_int, Mi.sub_int, Mi.lt_int, Mi.le_int, Mi.gt_int, Mi.ge_int, Mi.eq_int, Mi.ne_int, Mi.eq_bl, Mi.ne_bl, Mi.eq_str, Mi.ne_str, Mi.is_non, Mi.nis_non, Mi.is_bl, Mi.nis_bl, isn_non, isn_bl, isn_int, isn_str, isn_tup, isn_fl, isn_ref, Mi.bi_len, Mi.bi_abs, Mi.bi_int, Mi.bi_intb, Mi.bi_min, Mi.bi_max, Mi.len_str, Mi.len_tup, Mi.len_fl, isi_int, isi_bl, isi_str, isi_non, isi_tup, isi_fl, isTy, List.any_cons, List.any_nil, setT_nm, Mi.lstT_nm, Mi.lstT_tup, List.getElem?_cons_zero, List.getElem?_cons_succ, List.set_cons_zero, List.set_cons_succ, decide_eq_true_eq, Bool.or_false, Bool.or_true, Bool.false_or, Bool.true_or, Bool.not_true, Bool.not_false, Bool.false_eq_true, if_true, if_false, reduceIte, negD, optD, ne_eq, not_true_eq_false, not_false_eq_true, decide_true, decide_false, ix2, s1]) ?_
      generalize m.set t (.lst [.int rest, .ref c, .int (pos + 1)]) = m1 at *
      have tlt1 := (List.getElem?_eq_some_iff.mp b1).1
      have s2 : setD (.ref t) (.int 0) (.int cell) m1 = some (m1.set t (.lst [.int cell, .ref c, .int (pos + 1)])) := set_ref t _ 0 _ m1 b1 (by omega) (by simp)
      have d1 : (m1.set t (.lst [.int cell, .ref c, .int (pos + 1)]))[t]? = some (.lst [.int cell, .ref c, .int (pos + 1)]) := List.getElem?_set_self tlt1
      have d2 : (m1.set t (.lst [.int cell, .ref c, .int (pos + 1)]))[c]? = some (.lst (cells.map D.int)) := by rw [List.getElem?_set_ne ne]; exact b2
      have k2 : Kp t c m (m1.set t (.lst [.int cell, .ref c, .int (pos + 1)])) := k1.trans ⟨by simp, fun l o n1 _ e => by rw [List.getElem?_set_ne (Ne.symm n1)]; exact e⟩
      refine wp_st (σ1 := [some (.ref t), some (.int most), some (.int cell), none, none]) (m1 := m1.set t (.lst [.int cell, .ref c, .int (pos + 1)])) (by simp only [evSs, evS, ev, evs, evL, evTs, evo, evI, evT, bind_ok, bind_bad, out_ok, out_bad, obind_nx, obind_rt, obind_bk, obind_ct, obind_bad, fin_nx, fin_rt, fin_bad, tru_bl, tru_non, tru_int, chD_bl, Mi.add_int, Mi.sub_int, Mi.lt_int, Mi.le_int, Mi.gt_int, Mi.ge_int, Mi.eq_int, Mi.ne_int, Mi.eq_bl, Mi.ne_bl, Mi.eq_str, Mi.ne_str, Mi.is_non, Mi.nis_non, Mi.is_bl, Mi.nis_bl, isn_non, isn_bl, isn_int, isn_str, isn_tup, isn_fl, isn_ref, Mi.bi_len, Mi.bi_abs, Mi.bi_int, Mi.bi_intb, Mi.bi_min, Mi.bi_max, Mi.len_str, Mi.len_tup, Mi.len_fl, isi_int, isi_bl, isi_str, isi_non, isi_tup, isi_fl, isTy, List.any_cons, List.any_nil, setT_nm, Mi.lstT_nm, Mi.lstT_tup, List.getElem?_cons_zero, List.getElem?_cons_succ, List.set_cons_zero, List.set_cons_succ, decide_eq_true_eq, Bool.or_false, Bool.or_true, Bool.false_or, Bool.true_or, Bool.not_true, Bool.not_false, Bool.false_eq_true, if_true, if_false, reduceIte, negD, optD, ne_eq, not_true_eq_false, not_false_eq_true, decide_true, decide_false, s2]) ?_
      generalize m1.set t (.lst [.int cell, .ref c, .int (pos + 1)]) = m2 at *
      have pw := Mi.pow_int 10 18 m2 ⟨by decide, by decide, sm _ (by decide)⟩
      have tlt2 := (List.getElem?_eq_some_iff.mp d1).1
      have jx2 := ix_ref t _ 2 _ m2 d1 (at_2 _ _ _ _)
      by_cases zz : cell < 10 ^ (18 : Int).toNat
      · refine Dr.wp_then (m1 := m2) (by unfold evT; simp only [evSs, evS, ev, evs, evL, evTs, evo, evI, evT, bind_ok, bind_bad, out_ok, out_bad, obind_nx, obind_rt, obind_bk, obind_ct, obind_bad, fin_nx, fin_rt, fin_bad, tru_bl, tru_non, tru_int, chD_bl, Mi.add_int, Mi.sub_int, Mi.lt_int, Mi.le_int, Mi.gt_int, Mi.ge_int, Mi.eq_int, Mi.ne_int, Mi.eq_bl, Mi.ne_bl, Mi.eq_str, Mi.ne_str, Mi.is_non, Mi.nis_non, Mi.is_bl, Mi.nis_bl, isn_non, isn_bl, isn_int, isn_str, isn_tup, isn_fl, isn_ref, Mi.bi_len, Mi.bi_abs, Mi.bi_int, Mi.bi_intb, Mi.bi_min, Mi.bi_max, Mi.len_str, Mi.len_tup, Mi.len_fl, isi_int, isi_bl, isi_str, isi_non, isi_tup, isi_fl, isTy, List.any_cons, List.any_nil, setT_nm, Mi.lstT_nm, Mi.lstT_tup, List.getElem?_cons_zero, List.getElem?_cons_succ, List.set_cons_zero, List.set_cons_succ, decide_eq_true_eq, Bool.or_false, Bool.or_true, Bool.false_or, Bool.true_or, Bool.not_true, Bool.not_false, Bool.false_eq_true, if_true, if_false, reduceIte, negD, optD, ne_eq, not_true_eq_false, not_false_eq_true, decide_true, decide_false, pw, zz]) ?_
        generalize hM : (cell * 48271 + (pos + 1) * 69621 + 12345) % 2147483647 = M
        have M0 : 0 ≤ M := by rw [← hM]; exact Int.emod_nonneg _ (by decide)
        refine wp_set (d := .int M) (m1 := m2) (by rw [← hM]; simp only [evSs, evS, ev, evs, evL, evTs, evo, evI, evT, bind_ok, bind_bad, out_ok, out_bad, obind_nx, obind_rt, obind_bk, obind_ct, obind_bad, fin_nx, fin_rt, fin_bad, tru_bl, tru_non, tru_int, chD_bl, Mi.add_int, Mi.sub_int, Mi.lt_int, Mi.le_int, Mi.gt_int, Mi.ge_int, Mi.eq_int, Mi.ne_int, Mi.eq_bl, Mi.ne_bl, Mi.eq_str, Mi.ne_str, Mi.is_non, Mi.nis_non, Mi.is_bl, Mi.nis_bl, isn_non, isn_bl, isn_int, isn_str, isn_tup, isn_fl, isn_ref, Mi.bi_len, Mi.bi_abs, Mi.bi_int, Mi.bi_intb, Mi.bi_min, Mi.bi_max, Mi.len_str, Mi.len_tup, Mi.len_fl, isi_int, isi_bl, isi_str, isi_non, isi_tup, isi_fl, isTy, List.any_cons, List.any_nil, setT_nm, Mi.lstT_nm, Mi.lstT_tup, List.getElem?_cons_zero, List.getElem?_cons_succ, List.set_cons_zero, List.set_cons_succ, decide_eq_true_eq, Bool.or_false, Bool.or_true, Bool.false_or, Bool.true_or, Bool.not_true, Bool.not_false, Bool.false_eq_true, if_true, if_false, reduceIte, negD, optD, ne_eq, not_true_eq_false, not_false_eq_true, decide_true, decide_false, jx2, mulR _ 48271 _ (sm _ (by decide)), mulR _ 69621 _ (sm _ (by decide)), Mi.mod_int _ 2147483647 _ (by decide)]) rfl ?_
        simp only [List.set_cons_succ, List.set_cons_zero]
        generalize hN : M * 2147483629 + (M * 16807 + 11) % 2147483629 = N
        have N0 : 0 ≤ N := by
          rw [← hN]
          have := Int.emod_nonneg (M * 16807 + 11) (show (2147483629 : Int) ≠ 0 by decide)
          omega
        have s3 : setD (.ref t) (.int 0) (.int N) m2 = some (m2.set t (.lst [.int N, .ref c, .int (pos + 1)])) := set_ref t _ 0 _ m2 d1 (by omega) (by simp)
        refine wp_st (σ1 := [some (.ref t), some (.int most), some (.int cell), some (.int M), none]) (m1 := m2.set t (.lst [.int N, .ref c, .int (pos + 1)])) (by rw [← hN] at s3 ⊢; simp only [evSs, evS, ev, evs, evL, evTs, evo, evI, evT, bind_ok, bind_bad, out_ok, out_bad, obind_nx, obind_rt, obind_bk, obind_ct, obind_bad, fin_nx, fin_rt, fin_bad, tru_bl, tru_non, tru_int, chD_bl, Mi.add_int, Mi.sub_int, Mi.lt_int, Mi.le_int, Mi.gt_int, Mi.ge_int, Mi.eq_int, Mi.ne_int, Mi.eq_bl, Mi.ne_bl, Mi.eq_str, Mi.ne_str, Mi.is_non, Mi.nis_non, Mi.is_bl, Mi.nis_bl, isn_non, isn_bl, isn_int, isn_str, isn_tup, isn_fl, isn_ref, Mi.bi_len, Mi.bi_abs, Mi.bi_int, Mi.bi_intb, Mi.bi_min, Mi.bi_max, Mi.len_str, Mi.len_tup, Mi.len_fl, isi_int, isi_bl, isi_str, isi_non, isi_tup, isi_fl, isTy, List.any_cons, List.any_nil, setT_nm, Mi.lstT_nm, Mi.lstT_tup, List.getElem?_cons_zero, List.getElem?_cons_succ, List.set_cons_zero, List.set_cons_succ, decide_eq_true_eq, Bool.or_false, Bool.or_true, Bool.false_or, Bool.true_or, Bool.not_true, Bool.not_false, Bool.false_eq_true, if_true, if_false, reduceIte, negD, optD, ne_eq, not_true_eq_false, not_false_eq_true, decide_true, decide_false, mulR _ 2147483629 _ (sm _ (by decide)), mulR _ 16807 _ (sm _ (by decide)), Mi.mod_int _ 2147483629 _ (by decide), s3]) ?_
        refine bd_nil (bd_nil ?_)
        exact fin N (pos + 1) _ _ _ (List.getElem?_set_self tlt2) (by rw [List.getElem?_set_ne ne]; exact d2) N0 (by omega) (k2.trans ⟨by simp, fun l o n1 _ e => by rw [List.getElem?_set_ne (Ne.symm n1)]; exact e⟩)
      · refine Dr.wp_no (m1 := m2) (by unfold evT; simp only [evSs, evS, ev, evs, evL, evTs, evo, evI, evT, bind_ok, bind_bad, out_ok, out_bad, obind_nx, obind_rt, obind_bk, obind_ct, obind_bad, fin_nx, fin_rt, fin_bad, tru_bl, tru_non, tru_int, chD_bl, Mi.add_int, Mi.sub_int, Mi.lt_int, Mi.le_int, Mi.gt_int, Mi.ge_int, Mi.eq_int, Mi.ne_int, Mi.eq_bl, Mi.ne_bl, Mi.eq_str, Mi.ne_str, Mi.is_non, Mi.nis_non, Mi.is_bl, Mi.nis_bl, isn_non, isn_bl, isn_int, isn_str, isn_tup, isn_fl, isn_ref, Mi.bi_len, Mi.bi_abs, Mi.bi_int, Mi.bi_intb, Mi.bi_min, Mi.bi_max, Mi.len_str, Mi.len_tup, Mi.len_fl, isi_int, isi_bl, isi_str, isi_non, isi_tup, isi_fl, isTy, List.any_cons, List.any_nil, setT_nm, Mi.lstT_nm, Mi.lstT_tup, List.getElem?_cons_zero, List.getElem?_cons_succ, List.set_cons_zero, List.set_cons_succ, decide_eq_true_eq, Bool.or_false, Bool.or_true, Bool.false_or, Bool.true_or, Bool.not_true, Bool.not_false, Bool.false_eq_true, if_true, if_false, reduceIte, negD, optD, ne_eq, not_true_eq_false, not_false_eq_true, decide_true, decide_false, pw, zz]) ?_
        refine bd_nil ?_
        exact fin cell (pos + 1) _ _ _ d1 d2 hc (by omega) k2
    by_cases zp : pos < (cells.length : Int)
    · obtain ⟨v, hv⟩ : ∃ v, cells[pos.toNat]? = some v := ⟨_, List.getElem?_eq_getElem (by omega)⟩
      have ixc : ixD (.ref c) (.int pos) m = .ok (.int v) m := ix_ref c _ _ _ m h2 (by rw [at_of _ _ h4 (by rw [List.length_map]; exact zp), List.getElem?_map, hv]; rfl)
      refine Dr.wp_then (m1 := m) (by unfold evT; simp only [evSs, evS, ev, evs, evL, evTs, evo, evI, evT, bind_ok, bind_bad, out_ok, out_bad, obind_nx, obind_rt, obind_bk, obind_ct, obind_bad, fin_nx, fin_rt, fin_bad, tru_bl, tru_non, tru_int, chD_bl, Mi.add_int, Mi.sub_int, Mi.lt_int, Mi.le_int, Mi.gt_int, Mi.ge_int, Mi.eq_int, Mi.ne_int, Mi.eq_bl, Mi.ne_bl, Mi.eq_str, Mi.ne_str, Mi.is_non, Mi.nis_non, Mi.is_bl, Mi.nis_bl, isn_non, isn_bl, isn_int, isn_str, isn_tup, isn_fl, isn_ref, Mi.bi_len, Mi.bi_abs, Mi.bi_int, Mi.bi_intb, Mi.bi_min, Mi.bi_max, Mi.len_str, Mi.len_tup, Mi.len_fl, isi_int, isi_bl, isi_str, isi_non, isi_tup, isi_fl, isTy, List.any_cons, List.any_nil, setT_nm, Mi.lstT_nm, Mi.lstT_tup, List.getElem?_cons_zero, List.getElem?_cons_succ, List.set_cons_zero, List.set_cons_succ, decide_eq_true_eq, Bool.or_false, Bool.or_true, Bool.false_or, Bool.true_or, Bool.not_true, Bool.not_false, Bool.false_eq_true, if_true, if_false, reduceIte, negD, optD, ne_eq, not_true_eq_false, not_false_eq_true, decide_true, decide_false, ix1, ix2, ln, List.length_map, zp]) ?_
      refine wp_set (d := .int (absI v)) (m1 := m) (by simp only [evSs, evS, ev, evs, evL, evTs, evo, evI, evT, bind_ok, bind_bad, out_ok, out_bad, obind_nx, obind_rt, obind_bk, obind_ct, obind_bad, fin_nx, fin_rt, fin_bad, tru_bl, tru_non, tru_int, chD_bl, Mi.add_int, Mi.sub_int, Mi.lt_int, Mi.le_int, Mi.gt_int, Mi.ge_int, Mi.eq_int, Mi.ne_int, Mi.eq_bl, Mi.ne_bl, Mi.eq_str, Mi.ne_str, Mi.is_non, Mi.nis_non, Mi.is_bl, Mi.nis_bl, isn_non, isn_bl, isn_int, isn_str, isn_tup, isn_fl, isn_ref, Mi.bi_len, Mi.bi_abs, Mi.bi_int, Mi.bi_intb, Mi.bi_min, Mi.bi_max, Mi.len_str, Mi.len_tup, Mi.len_fl, isi_int, isi_bl, isi_str, isi_non, isi_tup, isi_fl, isTy, List.any_cons, List.any_nil, setT_nm, Mi.lstT_nm, Mi.lstT_tup, List.getElem?_cons_zero, List.getElem?_cons_succ, List.set_cons_zero, List.set_cons_succ, decide_eq_true_eq, Bool.or_false, Bool.or_true, Bool.false_or, Bool.true_or, Bool.not_true, Bool.not_false, Bool.false_eq_true, if_true, if_false, reduceIte, negD, optD, ne_eq, not_true_eq_false, not_false_eq_true, decide_true, decide_false, ix1, ix2, ixc]; rfl) rfl ?_
      refine bd_nil ?_
      simp only [List.set_cons_succ, List.set_cons_zero]
      exact go _ (absI_nn v)
    · refine Dr.wp_no (m1 := m) (by unfold evT; simp only [evSs, evS, ev, evs, evL, evTs, evo, evI, evT, bind_ok, bind_bad, out_ok, out_bad, obind_nx, obind_rt, obind_bk, obind_ct, obind_bad, fin_nx, fin_rt, fin_bad, tru_bl, tru_non, tru_int, chD_bl, Mi.add_int, Mi.sub_int, Mi.lt_int, Mi.le_int, Mi.gt_int, Mi.ge_int, Mi.eq_int, Mi.ne_int, Mi.eq_bl, Mi.ne_bl, Mi.eq_str, Mi.ne_str, Mi.is_non, Mi.nis_non, Mi.is_bl, Mi.nis_bl, isn_non, isn_bl, isn_int, isn_str, isn_tup, isn_fl, isn_ref, Mi.bi_len, Mi.bi_abs, Mi.bi_int, Mi.bi_intb, Mi.bi_min, Mi.bi_max, Mi.len_str, Mi.len_tup, Mi.len_fl, isi_int, isi_bl, isi_str, isi_non, isi_tup, isi_fl, isTy, List.any_cons, List.any_nil, setT_nm, Mi.lstT_nm, Mi.lstT_tup, List.getElem?_cons_zero, List.getElem?_cons_succ, List.set_cons_zero, List.set_cons_succ, decide_eq_true_eq, Bool.or_false, Bool.or_true, Bool.false_or, Bool.true_or, Bool.not_true, Bool.not_false, Bool.false_eq_true, if_true, if_false, reduceIte, negD, optD, ne_eq, not_true_eq_false, not_false_eq_true, decide_true, decide_false, ix1, ix2, ln, List.length_map, zp]) ?_
      exact go 0 (by omega)
  · refine Dr.wp_no (m1 := m) (by unfold evT; simp only [evSs, evS, ev, evs, evL, evTs, evo, evI, evT, bind_ok, bind_bad, out_ok, out_bad, obind_nx, obind_rt, obind_bk, obind_ct, obind_bad, fin_nx, fin_rt, fin_bad, tru_bl, tru_non, tru_int, chD_bl, Mi.add_int, Mi.sub_int, Mi.lt_int, Mi.le_int, Mi.gt_int, Mi.ge_int, Mi.eq_int, Mi.ne_int, Mi.eq_bl, Mi.ne_bl, Mi.eq_str, Mi.ne_str, Mi.is_non, Mi.nis_non, Mi.is_bl, Mi.nis_bl, isn_non, isn_bl, isn_int, isn_str, isn_tup, isn_fl, isn_ref, Mi.bi_len, Mi.bi_abs, Mi.bi_int, Mi.bi_intb, Mi.bi_min, Mi.bi_max, Mi.len_str, Mi.len_tup, Mi.len_fl, isi_int, isi_bl, isi_str, isi_non, isi_tup, isi_fl, isTy, List.any_cons, List.any_nil, setT_nm, Mi.lstT_nm, Mi.lstT_tup, List.getElem?_cons_zero, List.getElem?_cons_succ, List.set_cons_zero, List.set_cons_succ, decide_eq_true_eq, Bool.or_false, Bool.or_true, Bool.false_or, Bool.true_or, Bool.not_true, Bool.not_false, Bool.false_eq_true, if_true, if_false, reduceIte, negD, optD, ne_eq, not_true_eq_false, not_false_eq_true, decide_true, decide_false, ix0, z]) ?_
    exact fin rest pos m none none h1 h2 h3 h4 (Kp.refl _ _ _)
def B_tpick (f : Nat) : Ss :=
(.cons (.ret (.ix (.var 1) (.fn "_law_draw" f (.cons (.var 0) (.cons (.bi .len (.cons (.var 1) .nil)) .nil)))))
 .nil)
/-- one of a row -/
theorem tpick_s (C : Mi.Cx) (f : Nat) (hg : IsDraw (C.call f)) (t c l : Nat) (ds : List D) (m : M) (h : Tp m t c) (hl : m[l]? = some (.lst ds)) (hn : l ≠ t ∧ l ≠ c) (h0 : 0 < ds.length) (h1 : ds.length < 100000) :
    ∃ (d : D) (m' : M), (evSs C (B_tpick f) [some (.ref t), some (.ref l)] m).fin = .ok d m' ∧ d ∈ ds ∧ Tp m' t c ∧ Kp t c m m' := by
  obtain ⟨r, m', e, r0, r1, T1, K1⟩ := hg t c (ds.length : Nat) m h (by omega) (by omega)
  have hr : r.toNat < ds.length := by omega
  have hl1 := K1.at_ l _ hn.1 hn.2 hl
  refine ⟨ds[r.toNat], m', ?_, List.getElem_mem hr, T1, K1⟩
  let Post : Out → Prop := fun u => u.fin = .ok ds[r.toNat] m'
  show Post _
  unfold B_tpick
  refine wp_ret (d := ds[r.toNat]) (m1 := m') ?_ rfl
  rw [ev, ev_var_ (x := .ref l) rfl, bind_ok, ev_fn2 (ev_var_ (x := .ref t) rfl) (len_r (i := 1) rfl hl), e, bind_ok]
  exact ix_ref l _ r _ m' hl1 (by rw [at_of _ _ r0 (by omega), List.getElem?_eq_getElem hr])
def IsTPick (g : List D → M → R D) : Prop := ∀ (t c l : Nat) (ds : List D) (m : M), Tp m t c → m[l]? = some (.lst ds) → (l ≠ t ∧ l ≠ c) → 0 < ds.length → ds.length < 100000 → ∃ (d : D) (m' : M), g [.ref t, .ref l] m = .ok d m' ∧ d ∈ ds ∧ Tp m' t c ∧ Kp t c m m'
theorem Tp.new {m : M} {t c : Nat} (h : Tp m t c) : m.length ≠ t ∧ m.length ≠ c := by
  have := h.lt
  omega
/-- one of a row that is laid there -/
theorem pick_lst {C : Mi.Cx} {f j : Nat} {x : Str} {es : Es} {ds : List D} {σ : Sl} {m m1 : M} {t c : Nat} (hg : IsTPick (C.call f)) (he : evs C es σ m = .ok ds m1) (hj : σ[j]? = some (some (.ref t))) (h : Tp m1 t c) (h0 : 0 < ds.length) (h1 : ds.length < 100000) :
    ∃ (d : D) (m' : M), ev C (.fn x f (.cons (.var j) (.cons (.lst es) .nil))) σ m = .ok d m' ∧ d ∈ ds ∧ Tp m' t c ∧ Kp t c m1 m' := by
  have el : ev C (.lst es) σ m = .ok (.ref m1.length) (m1 ++ [.lst ds]) := by
    rw [ev, he, bind_ok]
    rfl
  obtain ⟨d, m', e, hd, T, K⟩ := hg t c m1.length ds (m1 ++ [.lst ds]) (h.app _) (app_last _ _) h.new h0 h1
  refine ⟨d, m', ?_, hd, T, (Kp.app t c m1 _).trans K⟩
  rw [ev_fn2 (ev_var_ hj) el]
  exact e
end
end Dr

set_option linter.all false
set_option autoImplicit false
set_option Elab.async false
set_option maxRecDepth 100000
set_option maxHeartbeats 4000000
/-! K07a: texts of addresses, in plain lists of codes. -/
namespace K07
noncomputable section
open PySem L2 Mi Dr TL
def mk (w : List Nat) : Str := ⟨w.toArray⟩
theorem tl_mk (w : List Nat) : tl (mk w) = w := by simp [mk, tl]
theorem mk_tl (x : Str) : mk (tl x) = x := by cases x; simp [mk, tl]
theorem mk_inj {a b : List Nat} : mk a = mk b ↔ a = b := ⟨fun h => by rw [← tl_mk a, h, tl_mk], fun h => by rw [h]⟩
theorem len_mk (w : List Nat) : (mk w).length = w.length := by simp [mk, Str.length]
theorem len_tl (x : Str) : (tl x).length = x.length := by simp [tl, Str.length]
def dot : Str := "."
theorem tl_dot : tl dot = [46] := by decide +kernel
/-- a text that may stand -/
structure Tx (x : Str) : Prop where
  ok : PyData.strOk x = true
  len : x.length ≤ 200
theorem Tx.okS {x : Str} (h : Tx x) : okS x = true := by
  unfold Mi.okS
  rw [h.ok, Bool.true_and]
  exact decide_eq_true (by have := h.len; unfold line; omega)
theorem tx_of {x : Str} (h : ∀ c ∈ tl x, c < 0x110000) (hl : x.length ≤ 200) : Tx x := ⟨ok_str.mpr h, hl⟩
/-! ### cut at dots, sign by sign -/
def stepW (W : List (List Nat)) (c : Nat) : List (List Nat) := if c = 46 then W ++ [[]] else W.dropLast ++ [(W.getLast?.getD []) ++ [c]]
def cutW (t : List Nat) : List (List Nat) := t.foldl stepW [[]]
theorem stepW_ne (W : List (List Nat)) (c : Nat) : stepW W c ≠ [] := by
  unfold stepW
  split <;> simp
theorem joinL_snoc (S : List Nat) : ∀ (W : List (List Nat)) (p : List Nat), W ≠ [] → joinL S (W ++ [p]) = joinL S W ++ (S ++ p)
  | [], _, h => absurd rfl h
  | [a], p, _ => rfl
  | a :: b :: W, p, _ => by
    show a ++ (S ++ joinL S ((b :: W) ++ [p])) = a ++ (S ++ joinL S (b :: W)) ++ (S ++ p)
    rw [joinL_snoc S (b :: W) p (by simp)]
    simp
theorem joinL_last (S : List Nat) : ∀ (W : List (List Nat)) (p q : List Nat), joinL S (W ++ [p ++ q]) = joinL S (W ++ [p]) ++ q
  | [], _, _ => rfl
  | a :: W, p, q => by
    by_cases h : W = []
    · subst h
      show a ++ (S ++ (p ++ q)) = a ++ (S ++ p) ++ q
      simp
    · obtain ⟨b, W', rfl⟩ : ∃ b W', W = b :: W' := by
        cases W with
        | nil => exact absurd rfl h
        | cons b W' => exact ⟨b, W', rfl⟩
      show a ++ (S ++ joinL S ((b :: W') ++ [p ++ q])) = a ++ (S ++ joinL S ((b :: W') ++ [p])) ++ q
      rw [joinL_last S (b :: W') p q]
      simp
theorem cut_inv : ∀ (t : List Nat) (W : List (List Nat)), W ≠ [] → (∀ p ∈ W, 46 ∉ p) → t.foldl stepW W ≠ [] ∧ (∀ p ∈ t.foldl stepW W, 46 ∉ p) ∧ joinL [46] (t.foldl stepW W) = joinL [46] W ++ t
  | [], W, h, h2 => ⟨h, h2, by simp⟩
  | c :: t, W, h, h2 => by
    rw [List.foldl_cons]
    have h3 : ∀ p ∈ stepW W c, 46 ∉ p := by
      unfold stepW
      intro p hp
      split at hp
      · rcases List.mem_append.mp hp with q | q
        · exact h2 p q
        · rw [List.mem_singleton.mp q]; simp
      · rename_i hc
        rcases List.mem_append.mp hp with q | q
        · exact h2 p (List.dropLast_subset W q)
        · rw [List.mem_singleton.mp q]
          intro hm
          rcases List.mem_append.mp hm with r | r
          · rw [List.getLast?_eq_some_getLast h] at r
            exact h2 _ (List.getLast_mem h) r
          · exact hc (List.mem_singleton.mp r).symm
    obtain ⟨a1, a2, a3⟩ := cut_inv t (stepW W c) (stepW_ne W c) h3
    refine ⟨a1, a2, ?_⟩
    rw [a3]
    have : joinL [46] (stepW W c) = joinL [46] W ++ [c] := by
      unfold stepW
      split
      · rename_i hc
        rw [joinL_snoc _ _ _ h, hc]
        simp
      · rw [List.getLast?_eq_some_getLast h]
        show joinL [46] (W.dropLast ++ [W.getLast h ++ [c]]) = _
        rw [joinL_last, List.dropLast_concat_getLast h]
    rw [this]
    simp
theorem cut_facts (t : List Nat) : cutW t ≠ [] ∧ (∀ p ∈ cutW t, 46 ∉ p) ∧ joinL [46] (cutW t) = t := by
  have := cut_inv t [[]] (by simp) (by simp)
  exact ⟨this.1, this.2.1, by rw [show joinL [46] [[]] = [] from rfl, List.nil_append] at this; exact this.2.2⟩
theorem join_mk (W : List (List Nat)) : Txt.join dot (W.map mk) = mk (joinL [46] W) := by
  have e : tl (Txt.join dot (W.map mk)) = joinL [46] W := by
    rw [join_eq, tl_join, tl_dot, List.map_map]
    congr 1
    exact (List.map_congr_left fun a _ => tl_mk a).trans (List.map_id _)
  rw [← mk_tl (Txt.join dot (W.map mk)), e]
theorem split_cut (t : Str) : Txt.split t dot = (cutW (tl t)).map mk := by
  obtain ⟨h1, h2, h3⟩ := cut_facts (tl t)
  have := split_join (y := dot) (s := 46) (S := []) tl_dot (by decide +kernel) (parts := (cutW (tl t)).map mk) (fun e => h1 (List.map_eq_nil_iff.mp e)) (fun p hp => by
    obtain ⟨w, hw, rfl⟩ := List.mem_map.mp hp
    rw [tl_mk]
    exact h2 w hw)
  rw [join_mk, h3, mk_tl] at this
  exact this
theorem mem_joinL : ∀ (S : List Nat) (W : List (List Nat)) (w : List Nat) (c : Nat), w ∈ W → c ∈ w → c ∈ joinL S W
  | S, [a], w, c, hw, hc => by rw [List.mem_singleton.mp hw] at hc; exact hc
  | S, a :: b :: W, w, c, hw, hc => by
    show c ∈ a ++ (S ++ joinL S (b :: W))
    rcases List.mem_cons.mp hw with rfl | hw
    · exact List.mem_append_left _ hc
    · exact List.mem_append_right _ (List.mem_append_right _ (mem_joinL S (b :: W) w c hw hc))
theorem len_joinL : ∀ (S : List Nat) (W : List (List Nat)) (w : List Nat), w ∈ W → w.length ≤ (joinL S W).length
  | S, [a], w, hw => by rw [List.mem_singleton.mp hw]; exact Nat.le_refl _
  | S, a :: b :: W, w, hw => by
    show w.length ≤ (a ++ (S ++ joinL S (b :: W))).length
    rw [List.length_append, List.length_append]
    rcases List.mem_cons.mp hw with rfl | hw
    · omega
    · have := len_joinL S (b :: W) w hw
      omega
theorem cut_tx {t : Str} (h : Tx t) : ∀ w ∈ cutW (tl t), Tx (mk w) := fun w hw => by
  obtain ⟨h1, h2, h3⟩ := cut_facts (tl t)
  refine tx_of (fun c hc => ?_) ?_
  · rw [tl_mk] at hc
    have := mem_joinL [46] _ w c hw hc
    rw [h3] at this
    exact ok_str.mp h.ok c this
  · rw [len_mk]
    have := len_joinL [46] _ w hw
    rw [h3, len_tl] at this
    have := h.len
    omega
/-! ### words -/
def digB (c : Nat) : Bool := decide (48 ≤ c ∧ c ≤ 57)
def val (w : List Nat) : Int := w.foldl (fun (n : Int) (c : Nat) => n * 10 + ((c : Int) - 48)) 0
def sI (i : Int) : Str := ((toString i : String) : Str)
/-- what a word means -/
def wv (w : List Nat) : Option Int := if w = [] then none else if w.all digB = false then none else if 255 < val w then none else if sI (val w) = mk w then some (val w) else none
theorem short_n : ∀ n : Nat, n < 256 → (sI (n : Nat)).length ≤ 3 := by
  unfold sI
  decide +kernel
theorem int_1 : ∀ a < 10, PySem.intText? ⟨#[48 + a]⟩ = some ((a : Nat) : Int) := by decide +kernel
theorem int_2 : ∀ a < 10, ∀ b < 10, PySem.intText? ⟨#[48 + a, 48 + b]⟩ = some ((10 * a + b : Nat) : Int) := by decide +kernel
theorem int_3 : ∀ a < 10, ∀ b < 10, ∀ c < 10, PySem.intText? ⟨#[48 + a, 48 + b, 48 + c]⟩ = some ((100 * a + 10 * b + c : Nat) : Int) := by decide +kernel
theorem dig_of {c : Nat} (h : digB c = true) : ∃ a, a < 10 ∧ c = 48 + a := by
  have := of_decide_eq_true h
  exact ⟨c - 48, by omega, by omega⟩
theorem int_val (w : List Nat) (h : w.all digB = true) (h0 : w ≠ []) (h3 : w.length ≤ 3) : PySem.intText? (mk w) = some (val w) := by
  match w, h0, h3 with
  | [a], _, _ =>
    simp only [List.all_cons, List.all_nil, Bool.and_true] at h
    obtain ⟨x, hx, rfl⟩ := dig_of h
    rw [show mk [48 + x] = ⟨#[48 + x]⟩ from rfl, int_1 x hx]
    congr 1
    show _ = (0 : Int) * 10 + (((48 + x : Nat) : Int) - 48)
    omega
  | [a, b], _, _ =>
    simp only [List.all_cons, List.all_nil, Bool.and_true, Bool.and_eq_true] at h
    obtain ⟨x, hx, rfl⟩ := dig_of h.1
    obtain ⟨y, hy, rfl⟩ := dig_of h.2
    rw [show mk [48 + x, 48 + y] = ⟨#[48 + x, 48 + y]⟩ from rfl, int_2 x hx y hy]
    congr 1
    show _ = ((0 : Int) * 10 + (((48 + x : Nat) : Int) - 48)) * 10 + (((48 + y : Nat) : Int) - 48)
    omega
  | [a, b, c], _, _ =>
    simp only [List.all_cons, List.all_nil, Bool.and_true, Bool.and_eq_true] at h
    obtain ⟨x, hx, rfl⟩ := dig_of h.1
    obtain ⟨y, hy, rfl⟩ := dig_of h.2.1
    obtain ⟨z, hz, rfl⟩ := dig_of h.2.2
    rw [show mk [48 + x, 48 + y, 48 + z] = ⟨#[48 + x, 48 + y, 48 + z]⟩ from rfl, int_3 x hx y hy z hz]
    congr 1
    show _ = (((0 : Int) * 10 + (((48 + x : Nat) : Int) - 48)) * 10 + (((48 + y : Nat) : Int) - 48)) * 10 + (((48 + z : Nat) : Int) - 48)
    omega
  | _ :: _ :: _ :: _ :: _, _, h3 => simp at h3
theorem val_nn (w : List Nat) (h : w.all digB = true) : ∀ n : Int, 0 ≤ n → 0 ≤ w.foldl (fun (n : Int) (c : Nat) => n * 10 + ((c : Int) - 48)) n := by
  induction w with
  | nil => intro n hn; exact hn
  | cons c w ih =>
    intro n hn
    rw [List.all_cons, Bool.and_eq_true] at h
    obtain ⟨a, ha, rfl⟩ := dig_of h.1
    exact ih h.2 _ (by show 0 ≤ n * 10 + (((48 + a : Nat) : Int) - 48); omega)
/-- a long word means nothing -/
theorem long_no (w : List Nat) (h : w.all digB = true) (h3 : 3 < w.length) : wv w = none := by
  unfold wv
  rw [if_neg (by intro e; rw [e] at h3; simp at h3), h]
  simp only [Bool.true_eq_false, if_false]
  by_cases c : 255 < val w
  · rw [if_pos c]
  · rw [if_neg c]
    have nn := val_nn w h 0 (by decide)
    refine if_neg fun e => ?_
    have := short_n (val w).toNat (by unfold val at c ⊢; omega)
    rw [show (((val w).toNat : Nat) : Int) = val w by unfold val; omega, e, len_mk] at this
    omega
/-- the whole address -/
def rdP : List (List Nat) → Int → Option Int
  | [], a => some a
  | w :: ws, a => match wv w with
    | some v => rdP ws (a * 256 + v)
    | none => none
def rd (t : List Nat) : Option Int := if (cutW t).length = 4 then rdP (cutW t) 0 else none
/-- the texts of octets are read back -/
theorem oct_rd : ∀ n : Nat, n < 256 → wv (tl (sI (n : Nat))) = some (n : Int) ∧ 46 ∉ tl (sI (n : Nat)) ∧ (sI (n : Nat)).length ≤ 3 ∧ (∀ c ∈ tl (sI (n : Nat)), c < 128) := by
  unfold wv sI
  decide +kernel
def quad (a b c d : Nat) : List Str := [sI a, sI b, sI c, sI d]
theorem quad_cut (a b c d : Nat) (ha : a < 256) (hb : b < 256) (hc : c < 256) (hd : d < 256) : cutW (tl (Txt.join dot (quad a b c d))) = (quad a b c d).map tl := by
  have h := split_join (y := dot) (s := 46) (S := []) tl_dot (by decide +kernel) (parts := quad a b c d) (by simp [quad]) (fun p hp => by
    simp only [quad, List.mem_cons, List.not_mem_nil, or_false] at hp
    rcases hp with rfl | rfl | rfl | rfl
    · exact (oct_rd a ha).2.1
    · exact (oct_rd b hb).2.1
    · exact (oct_rd c hc).2.1
    · exact (oct_rd d hd).2.1)
  rw [split_cut] at h
  have := congrArg (List.map tl) h
  rw [List.map_map] at this
  rw [← this]
  exact ((List.map_congr_left fun a _ => tl_mk a).trans (List.map_id _)).symm
theorem quad_rd (a b c d : Nat) (ha : a < 256) (hb : b < 256) (hc : c < 256) (hd : d < 256) : rd (tl (Txt.join dot (quad a b c d))) = some ((((0 * 256 + (a : Int)) * 256 + b) * 256 + c) * 256 + d) := by
  unfold rd
  rw [quad_cut a b c d ha hb hc hd]
  rw [if_pos (show ((quad a b c d).map tl).length = 4 from rfl)]
  simp only [quad, List.map_cons, List.map_nil, rdP, (oct_rd a ha).1, (oct_rd b hb).1, (oct_rd c hc).1, (oct_rd d hd).1]
theorem quad_tx (a b c d : Nat) (ha : a < 256) (hb : b < 256) (hc : c < 256) (hd : d < 256) : Tx (Txt.join dot (quad a b c d)) ∧ (Txt.join dot (quad a b c d)).length ≤ 15 := by
  have e := join_eq dot (quad a b c d)
  have l : (Str.join dot (quad a b c d)).length = (sI a).length + 1 + ((sI b).length + 1 + ((sI c).length + 1 + (sI d).length)) := by
    simp only [quad, Str.join, Str.length_append]
    rfl
  have h1 := oct_rd a ha
  have h2 := oct_rd b hb
  have h3 := oct_rd c hc
  have h4 := oct_rd d hd
  rw [e]
  refine ⟨⟨ok_join (by decide +kernel) fun t ht => ?_, by rw [l]; omega⟩, by rw [l]; omega⟩
  rw [ok_str]
  intro x hx
  simp only [quad, List.mem_cons, List.not_mem_nil, or_false] at ht
  rcases ht with rfl | rfl | rfl | rfl
  · have := h1.2.2.2 x hx; omega
  · have := h2.2.2.2 x hx; omega
  · have := h3.2.2.2 x hx; omega
  · have := h4.2.2.2 x hx; omega
end
end K07

set_option linter.all false
set_option autoImplicit false
set_option Elab.async false
set_option maxRecDepth 100000
set_option maxHeartbeats 4000000
/-! Dr16: tests of things that are laid on the way; chains of tests that hand out the first word. -/
namespace Dr
noncomputable section
open PySem L2 Mi
section
variable {C : Mi.Cx} {σ : Sl} {m : M}
theorem EV.cmp {a b : E} {o : Cop} {x y : D} {q : Bool} (hc : ∀ m', cmpD o x y m' = .ok (.bl q) m') (h : EV C a σ m x) (h2 : EV C b σ m y) : EV C (.cmp o a b) σ m (.bl q) := fun m' o' => by
  obtain ⟨m1, e1, o1⟩ := h m' o'
  obtain ⟨m2, e2, o2⟩ := h2 m1 (o'.trans o1)
  exact ⟨m2, by rw [ev, e1, bind_ok, e2, bind_ok, hc], o1.trans o2⟩
theorem EV.ltI {a b : E} {i j : Int} (h : EV C a σ m (.int i)) (h2 : EV C b σ m (.int j)) : EV C (.cmp .lt a b) σ m (.bl (decide (i < j))) := .cmp (fun m' => Mi.lt_int i j m') h h2
theorem EV.gtI {a b : E} {i j : Int} (h : EV C a σ m (.int i)) (h2 : EV C b σ m (.int j)) : EV C (.cmp .gt a b) σ m (.bl (decide (i > j))) := .cmp (fun m' => Mi.gt_int i j m') h h2
theorem EV.geI {a b : E} {i j : Int} (h : EV C a σ m (.int i)) (h2 : EV C b σ m (.int j)) : EV C (.cmp .ge a b) σ m (.bl (decide (i ≥ j))) := .cmp (fun m' => Mi.ge_int i j m') h h2
theorem EV.eqI {a b : E} {i j : Int} (h : EV C a σ m (.int i)) (h2 : EV C b σ m (.int j)) : EV C (.cmp .eq a b) σ m (.bl (decide (i = j))) := .cmp (fun m' => Mi.eq_int i j m') h h2
theorem EV.neI {a b : E} {i j : Int} (h : EV C a σ m (.int i)) (h2 : EV C b σ m (.int j)) : EV C (.cmp .ne a b) σ m (.bl (decide (i ≠ j))) := .cmp (fun m' => Mi.ne_int i j m') h h2
theorem EV.eqS {a b : E} {i j : Str} (h : EV C a σ m (.str i)) (h2 : EV C b σ m (.str j)) : EV C (.cmp .eq a b) σ m (.bl (decide (i = j))) := .cmp (fun m' => Mi.eq_str i j m') h h2
theorem EV.or {a b : E} {p q : Bool} (h : EV C a σ m (.bl p)) (h2 : p = false → EV C b σ m (.bl q)) : EV C (.or a b) σ m (.bl (p || q)) := fun m' o' => by
  obtain ⟨m1, e1, o1⟩ := h m' o'
  cases p with
  | true => exact ⟨m1, ev_or_t e1, o1⟩
  | false =>
    obtain ⟨m2, e2, o2⟩ := h2 rfl m1 (o'.trans o1)
    exact ⟨m2, (ev_or_f e1).trans e2, o1.trans o2⟩
theorem EV.and {a b : E} {p q : Bool} (h : EV C a σ m (.bl p)) (h2 : p = true → EV C b σ m (.bl q)) : EV C (.and a b) σ m (.bl (p && q)) := fun m' o' => by
  obtain ⟨m1, e1, o1⟩ := h m' o'
  cases p with
  | false => exact ⟨m1, ev_and_f e1, o1⟩
  | true =>
    obtain ⟨m2, e2, o2⟩ := h2 rfl m1 (o'.trans o1)
    exact ⟨m2, (ev_and_t e1).trans e2, o1.trans o2⟩
theorem EV.nt {a : E} {p : Bool} (h : EV C a σ m (.bl p)) : EV C (.nt a) σ m (.bl (!p)) := fun m' o' => by
  obtain ⟨m1, e1, o1⟩ := h m' o'
  exact ⟨m1, ev_nt_ e1, o1⟩
theorem EV.ife {t a b : E} {q : Bool} {d : D} (h : EV C t σ m (.bl q)) (ha : q = true → EV C a σ m d) (hb : q = false → EV C b σ m d) : EV C (.ife t a b) σ m d := fun m' o' => by
  obtain ⟨m1, e1, o1⟩ := h m' o'
  cases q with
  | true =>
    obtain ⟨m2, e2, o2⟩ := ha rfl m1 (o'.trans o1)
    exact ⟨m2, by rw [ev_ife e1, if_pos rfl, e2], o1.trans o2⟩
  | false =>
    obtain ⟨m2, e2, o2⟩ := hb rfl m1 (o'.trans o1)
    exact ⟨m2, by rw [ev_ife e1, if_neg Bool.false_ne_true, e2], o1.trans o2⟩
theorem EV.to {a : E} {d e : D} (h : EV C a σ m d) (q : d = e) : EV C a σ m e := q ▸ h
theorem EL.to {a : E} {d e : List Int} (h : EL C a σ m d) (q : d = e) : EL C a σ m e := q ▸ h
def inI (i : Int) (is : List Int) : Bool := is.any fun j => decide (j = i)
theorem EV.memT {a : E} {es : Es} {i : Int} {is : List Int} (h : EV C a σ m (.int i)) (h2 : EVs C es σ m (is.map D.int)) : EV C (.cmp .mem a (.tup es)) σ m (.bl (inI i is)) := .cmp (fun m' => mem_t i is m') h (.tup h2)
theorem EV.memL {a b : E} {i : Int} {is : List Int} (h : EV C a σ m (.int i)) (h2 : EL C b σ m is) : EV C (.cmp .mem a b) σ m (.bl (inI i is)) := fun m' o' => by
  obtain ⟨m1, e1, o1⟩ := h m' o'
  obtain ⟨l, m2, e2, a2, o2⟩ := h2 m1 (o'.trans o1)
  exact ⟨m2, by rw [ev, e1, bind_ok, e2, bind_ok, mem_l l i is m2 a2]; rfl, o1.trans o2⟩
theorem EV.nmemL {a b : E} {i : Int} {is : List Int} (h : EV C a σ m (.int i)) (h2 : EL C b σ m is) : EV C (.cmp .nmem a b) σ m (.bl (!inI i is)) := fun m' o' => by
  obtain ⟨m1, e1, o1⟩ := h m' o'
  obtain ⟨l, m2, e2, a2, o2⟩ := h2 m1 (o'.trans o1)
  refine ⟨m2, ?_, o1.trans o2⟩
  have h := mem_l l i is m2 a2
  rw [ev, e1, bind_ok, e2, bind_ok]
  unfold cmpD bO at h ⊢
  dsimp only at h ⊢
  cases hh : inD (.int i) (.ref l) m2 with
  | none => rw [hh] at h; cases h
  | some b =>
    rw [hh] at h
    have : b = inI i is := by
      injection h with h3 _
      injection h3
    rw [this]
    rfl
theorem wp_q {Post : Out → Prop} {e : E} {A r : Ss} {q : Bool} (h : EV C e σ m (.bl q)) (kt : q = true → ∀ m', Old m m' → Bd Post C r (evSs C A σ m')) (kf : q = false → ∀ m', Old m m' → Post (evSs C r σ m')) : Post (evSs C (.cons (.ife e A .nil) r) σ m) := by
  obtain ⟨m1, e1, o1⟩ := h m (Old.refl _)
  cases q with
  | true => exact wp_then (evT_of e1) (kt rfl m1 o1)
  | false => exact wp_no (evT_of e1) (kf rfl m1 o1)
/-! ### the first word -/
def oS : Option Str → D
  | some s => .str s
  | none => .non
def f1 : List (Bool × Str) → Option Str
  | [] => none
  | (q, s) :: r => if q = true then some s else f1 r
theorem f1_t {q : Bool} {s : Str} {r : List (Bool × Str)} (h : q = true) : f1 ((q, s) :: r) = some s := if_pos h
theorem f1_f {q : Bool} {s : Str} {r : List (Bool × Str)} (h : q = false) : f1 ((q, s) :: r) = f1 r := if_neg (by rw [h]; exact Bool.false_ne_true)
theorem f1_app : ∀ (a b : List (Bool × Str)), f1 (a ++ b) = match f1 a with
    | some s => some s
    | none => f1 b
  | [], b => rfl
  | (q, s) :: a, b => by
    cases q with
    | true => rfl
    | false => exact f1_app a b
theorem f1_none {q : Bool} {s : Str} {r : List (Bool × Str)} (h : f1 ((q, s) :: r) = none) : q = false ∧ f1 r = none := by
  cases q with
  | true => cases h
  | false => exact ⟨rfl, h⟩
/-- hands out a word -/
def Wd (m0 : M) (w : Option Str) (u : Out) : Prop := ∃ m', u = .rt (oS w) m' ∧ Old m0 m'
theorem wd_fin {m0 : M} {w : Option Str} {u : Out} (h : Wd m0 w u) : ∃ m', u.fin = .ok (oS w) m' ∧ Old m0 m' := by
  obtain ⟨m', rfl, o⟩ := h
  exact ⟨m', rfl, o⟩
theorem wd_bd {m0 : M} {w : Option Str} {u : Out} {r : Ss} (h : Wd m0 w u) : Bd (Wd m0 w) C r u := by
  obtain ⟨m', rfl, o⟩ := h
  exact ⟨m', rfl, o⟩
theorem wd_ret {m0 : M} {w : Option Str} {e : E} {r : Ss} (o : Old m0 m) (h : EV C e σ m (oS w)) : Wd m0 w (evSs C (.cons (.ret e) r) σ m) := by
  obtain ⟨m1, e1, o1⟩ := h m (Old.refl _)
  exact wp_ret (Post := Wd m0 w) e1 ⟨m1, rfl, o.trans o1⟩
/-- if e: return e2 -/
theorem wd_if {m0 : M} {w w2 : Option Str} {e e2 : E} {r rr : Ss} {q : Bool} (o : Old m0 m) (h : EV C e σ m (.bl q)) (h2 : q = true → w = w2 ∧ ∀ m', Old m m' → EV C e2 σ m' (oS w2)) (k : q = false → ∀ m', Old m m' → Old m0 m' → Wd m0 w (evSs C r σ m')) : Wd m0 w (evSs C (.cons (.ife e (.cons (.ret e2) rr) .nil) r) σ m) := by
  refine wp_q (Post := Wd m0 w) h (fun hq m' o' => ?_) fun hq m' o' => k hq m' o' (o.trans o')
  obtain ⟨rfl, h2⟩ := h2 hq
  obtain ⟨m1, e1, o1⟩ := h2 m' o' m' (Old.refl _)
  exact wp_ret (Post := Bd (Wd m0 w) C r) e1 ⟨m1, rfl, (o.trans o').trans o1⟩
/-- if e: return "s" -/
theorem wd_s {m0 : M} {s : Str} {ws : List (Bool × Str)} {e : E} {r rr : Ss} {q : Bool} (o : Old m0 m) (h : EV C e σ m (.bl q)) (k : q = false → ∀ m', Old m m' → Old m0 m' → Wd m0 (f1 ws) (evSs C r σ m')) : Wd m0 (f1 ((q, s) :: ws)) (evSs C (.cons (.ife e (.cons (.ret (.cst (.str s))) rr) .nil) r) σ m) :=
  wd_if (w2 := some s) o h (fun hq => ⟨f1_t hq, fun m' _ => .cst⟩) fun hq m' o1 o2 => by
    rw [f1_f hq]
    exact k hq m' o1 o2
/-- if e: return s1 if e1 else s2 -/
theorem wd_2 {m0 : M} {s1 s2 : Str} {ws : List (Bool × Str)} {e e1 : E} {r rr : Ss} {q q1 q2 : Bool} (o : Old m0 m) (h : EV C e σ m (.bl q)) (hq : q = (q1 || q2)) (h1 : q = true → ∀ m', Old m m' → EV C e1 σ m' (.bl q1)) (k : q = false → ∀ m', Old m m' → Old m0 m' → Wd m0 (f1 ws) (evSs C r σ m')) : Wd m0 (f1 ((q1, s1) :: (q2, s2) :: ws)) (evSs C (.cons (.ife e (.cons (.ret (.ife e1 (.cst (.str s1)) (.cst (.str s2)))) rr) .nil) r) σ m) := by
  subst hq
  refine wd_if (w2 := if q1 = true then some s1 else some s2) o h (fun hq => ⟨?_, fun m' o' => ?_⟩) fun hq m' o1 o2 => ?_
  · cases q1 with
    | true => rfl
    | false =>
      rw [f1_f rfl, f1_t (by simpa using hq)]
      rfl
  · cases q1 with
    | true => exact .ife (h1 hq m' o') (fun _ => .cst) fun h => Bool.noConfusion h
    | false => exact .ife (h1 hq m' o') (fun h => Bool.noConfusion h) fun _ => .cst
  · rw [Bool.or_eq_false_iff] at hq
    rw [f1_f hq.1, f1_f hq.2]
    exact k (by rw [hq.1, hq.2]; rfl) m' o1 o2
theorem wd_end {m0 : M} {e : E} {r : Ss} {w : Option Str} (o : Old m0 m) (h : EV C e σ m (oS w)) {w' : Option Str} (hw : w' = w) : Wd m0 w' (evSs C (.cons (.ret e) r) σ m) := by
  rw [hw]
  exact wd_ret o h
end
end
end Dr

set_option linter.all false
set_option autoImplicit false
set_option Elab.async false
set_option maxRecDepth 100000
set_option maxHeartbeats 1000000
/-! Dr17: expressions that lay lists of anything; filters; written addresses. -/
namespace Dr
noncomputable section
open PySem L2 Mi TL K07
/-- lays a new list, nothing else -/
def LD (C : Mi.Cx) (e : E) (σ : Sl) (m : M) (xs : List D) : Prop := ∀ m', Old m m' → ∃ (l : Nat) (m'' : M), ev C e σ m' = .ok (.ref l) m'' ∧ m''[l]? = some (.lst xs) ∧ Old m' m''
section
variable {C : Mi.Cx} {σ : Sl} {m : M}
theorem LD.old {e : E} {xs : List D} {m1 : M} (h : LD C e σ m xs) (o : Old m m1) : LD C e σ m1 xs := fun m' o' => h m' (o.trans o')
theorem LD.var {i l : Nat} {xs : List D} (h : σ[i]? = some (some (.ref l))) (hl : m[l]? = some (.lst xs)) : LD C (.var i) σ m xs := fun m' o => ⟨l, m', ev_var_ h, o.at_ _ _ hl, Old.refl _⟩
theorem LD.lst {es : Es} {xs : List D} (h : EVs C es σ m xs) : LD C (.lst es) σ m xs := fun m' o => by
  obtain ⟨m1, e1, o1⟩ := h m' o
  refine ⟨m1.length, m1 ++ [.lst xs], ?_, app_last _ _, o1.trans (Old.app _ _)⟩
  rw [ev, e1, bind_ok]
  rfl
theorem LD.add {a b : E} {xs ys : List D} (ha : LD C a σ m xs) (hb : LD C b σ m ys) (h : xs.length + ys.length ≤ 16777216) : LD C (.bin .add a b) σ m (xs ++ ys) := fun m' o => by
  obtain ⟨l1, m1, e1, h1, o1⟩ := ha m' o
  obtain ⟨l2, m2, e2, h2, o2⟩ := hb m1 (o.trans o1)
  refine ⟨m2.length, m2 ++ [.lst (xs ++ ys)], ?_, app_last _ _, (o1.trans o2).trans (Old.app _ _)⟩
  rw [ev_bin_ e1 e2]
  exact Mi.add_lst l1 l2 _ _ _ (o2.at_ _ _ h1) h2 (by unfold line; exact h)
theorem LD.fn {x : Str} {f : Nat} {es : Es} {ds xs : List D} (h : EVs C es σ m ds) (hf : ∀ m', Old m m' → ∃ (l : Nat) (m'' : M), C.call f ds m' = .ok (.ref l) m'' ∧ m''[l]? = some (.lst xs) ∧ Old m' m'') : LD C (.fn x f es) σ m xs := fun m' o => by
  obtain ⟨m1, e1, o1⟩ := h m' o
  obtain ⟨l, m2, e2, h2, o2⟩ := hf m1 (o.trans o1)
  refine ⟨l, m2, ?_, h2, o1.trans o2⟩
  rw [ev, e1, bind_ok]
  exact e2
theorem EV.fn {x : Str} {f : Nat} {es : Es} {ds : List D} {d : D} (h : EVs C es σ m ds) (hf : ∀ m', Old m m' → ∃ (m'' : M), C.call f ds m' = .ok d m'' ∧ Old m' m'') : EV C (.fn x f es) σ m d := fun m' o => by
  obtain ⟨m1, e1, o1⟩ := h m' o
  obtain ⟨m2, e2, o2⟩ := hf m1 (o.trans o1)
  refine ⟨m2, ?_, o1.trans o2⟩
  rw [ev, e1, bind_ok]
  exact e2
/-- a filter over a tuple -/
theorem LD.lcF {α : Type} {vs : List Nat} {x : Tg} {it : Mi.It} {e t : E} {g q : α → D} {p : α → Bool} {xs : List α} (h1 : ∀ m', Old m m' → evI C it σ m' = .ok (.free (xs.map g)) m')
    (h : ∀ m', Old m m' → ∀ a ∈ xs, ∃ σ', setT x (g a) (wipeM σ vs) = some σ' ∧ evT C t σ' m' = .ok (p a) m' ∧ (p a = true → ev C e σ' m' = .ok (q a) m')) : LD C (.lc vs x it (.cons t .nil) e) σ m ((xs.filter p).map q) := fun m' o => by
  have e1 := run_lcF (h1 m' o) (h m' o)
  refine ⟨m'.length, m' ++ [.lst ((xs.filter p).map q)], ?_, app_last _ _, Old.app _ _⟩
  rw [evL] at e1
  rw [ev, h1 m' o, bind_ok]
  rw [h1 m' o, bind_ok] at e1
  rw [e1, bind_ok]
  rfl
/-- over a list that stands -/
theorem LD.lcFh {α : Type} {vs : List Nat} {x : Tg} {i l : Nat} {e t : E} {g q : α → D} {p : α → Bool} {xs : List α} (hσ : σ[i]? = some (some (.ref l))) (hl : m[l]? = some (.lst (xs.map g)))
    (h : ∀ m', Old m m' → ∀ a ∈ xs, ∃ σ', setT x (g a) (wipeM σ vs) = some σ' ∧ evT C t σ' m' = .ok (p a) m' ∧ (p a = true → ev C e σ' m' = .ok (q a) m')) : LD C (.lc vs x (.seq (.var i)) (.cons t .nil) e) σ m ((xs.filter p).map q) := fun m' o => by
  have hl' := o.at_ _ _ hl
  have e0 := evI_held (C := C) hσ hl'
  have e1 := lc_filter (fun d => setT x d (wipeM σ vs)) (IV.held l (xs.map g)).stands (evTs C (.cons t .nil)) (ev C e) g p q m' hl' xs [] fun a ha => by
    obtain ⟨σ', h1, h2, h3⟩ := h m' o a ha
    refine ⟨σ', h1, ?_, h3⟩
    rw [evTs]
    show ((evT C t σ' m').bind _) = _
    rw [h2, bind_ok]
    cases p a with
    | false => rfl
    | true => rw [if_pos rfl, evTs]
  refine ⟨m'.length, m' ++ [.lst ((xs.filter p).map q)], ?_, app_last _ _, Old.app _ _⟩
  rw [ev, e0, bind_ok]
  rw [show lcD (fun d => setT x d (wipeM σ vs)) (IV.held l (xs.map g)).stands (evTs C (.cons t .nil)) (ev C e) (IV.held l (xs.map g)).xs [] m' = _ from e1, bind_ok]
  rfl
/-- each item lays new things alone -/
theorem LD.lcO {α : Type} {vs : List Nat} {x : Tg} {it : Mi.It} {e : E} {g q : α → D} {xs : List α} (h1 : ∀ m', Old m m' → evI C it σ m' = .ok (.free (xs.map g)) m')
    (h : ∀ a ∈ xs, ∃ σ', setT x (g a) (wipeM σ vs) = some σ' ∧ EV C e σ' m (q a)) : LD C (.lc vs x it .nil e) σ m (xs.map q) := fun m' o => by
  obtain ⟨m2, e2, o2⟩ := ev_lcO (h1 m' o) fun a ha m1 o1 => by
    obtain ⟨σ', s1, s2⟩ := h a ha
    obtain ⟨m2, e2, o2⟩ := s2 m1 (o.trans o1)
    exact ⟨σ', m2, s1, e2, o2⟩
  exact ⟨_, _, e2, app_last _ _, o2.trans (Old.app _ _)⟩
/-- .. over a list that stands -/
theorem LD.lcOh {α : Type} {vs : List Nat} {x : Tg} {i l : Nat} {e : E} {g q : α → D} {xs : List α} (hσ : σ[i]? = some (some (.ref l))) (hl : m[l]? = some (.lst (xs.map g)))
    (h : ∀ a ∈ xs, ∃ σ', setT x (g a) (wipeM σ vs) = some σ' ∧ EV C e σ' m (q a)) : LD C (.lc vs x (.seq (.var i)) .nil e) σ m (xs.map q) := fun m1 o => by
  have hl' := o.at_ _ _ hl
  have e0 := evI_held (C := C) hσ hl'
  obtain ⟨out, m2, e1, p1, p2⟩ := lc_inv (all := xs.map g) (fun d => setT x d (wipeM σ vs)) (IV.held l (xs.map g)).stands (evTs C .nil) (ev C e) (fun pre acc m' => acc = (xs.take pre.length).map q ∧ Old m1 m') (fun pre acc m' hp => hp.2.at_ _ _ hl')
    (fun pre y post acc m' ha hp => by
      obtain ⟨rfl, o'⟩ := hp
      obtain ⟨a, hxa, rfl⟩ : ∃ a, xs[pre.length]? = some a ∧ y = g a := by
        have := congrArg (fun l => l[pre.length]?) ha
        simp only [List.getElem?_append_right (Nat.le_refl _), Nat.sub_self, List.getElem?_cons_zero, List.getElem?_map] at this
        cases w : xs[pre.length]? with
        | none => rw [w] at this; cases this
        | some a => rw [w] at this; exact ⟨a, rfl, (Option.some.inj this).symm⟩
      obtain ⟨σ', s1, s2⟩ := h a (List.mem_of_getElem? hxa)
      obtain ⟨m'', s3, s4⟩ := s2 m' (o.trans o')
      exact ⟨σ', s1, .inl ⟨m', q a, m'', by rw [evTs], s3, by rw [List.length_append, List.length_singleton, List.take_add_one, hxa, List.map_append]; rfl, o'.trans s4⟩⟩) (xs.map g) [] [] m1 rfl ⟨by simp, Old.refl _⟩
  rw [List.length_map, List.take_of_length_le (Nat.le_refl _)] at p1
  subst p1
  refine ⟨m2.length, m2 ++ [.lst (xs.map q)], ?_, app_last _ _, p2.trans (Old.app _ _)⟩
  rw [ev, e0, bind_ok]
  rw [show lcD (fun d => setT x d (wipeM σ vs)) (IV.held l (xs.map g)).stands (evTs C .nil) (ev C e) (IV.held l (xs.map g)).xs [] m1 = _ from e1, bind_ok]
  rfl
theorem wp_LD {Post : Out → Prop} {i : Nat} {e : E} {r : Ss} {xs : List D} (h : LD C e σ m xs) (k : ∀ (l : Nat) (m' : M), m'[l]? = some (.lst xs) → Old m m' → Post (evSs C r (σ.set i (some (.ref l))) m')) : Post (evSs C (.cons (.set (.nm i) e) r) σ m) := by
  obtain ⟨l, m', e1, a1, o1⟩ := h m (Old.refl _)
  exact wp_set e1 rfl (k l m' a1 o1)
theorem wp_retLD {Post : Out → Prop} {e : E} {r : Ss} {xs : List D} (h : LD C e σ m xs) (k : ∀ (l : Nat) (m' : M), m'[l]? = some (.lst xs) → Old m m' → Post (.rt (.ref l) m')) : Post (evSs C (.cons (.ret e) r) σ m) := by
  obtain ⟨l, m', e1, a1, o1⟩ := h m (Old.refl _)
  exact wp_ret e1 (k l m' a1 o1)
theorem wp_retEV {Post : Out → Prop} {e : E} {r : Ss} {d : D} (h : EV C e σ m d) (k : ∀ (m' : M), Old m m' → Post (.rt d m')) : Post (evSs C (.cons (.ret e) r) σ m) := by
  obtain ⟨m', e1, o1⟩ := h m (Old.refl _)
  exact wp_ret e1 (k m' o1)
theorem EV.tupL {e : E} {xs : List D} (h : LD C e σ m xs) : EV C (.bi .tuple (.cons e .nil)) σ m (.tup xs) := fun m' o => by
  obtain ⟨l, m1, e1, a1, o1⟩ := h m' o
  exact ⟨m1, by rw [ev_bi_ e1]; exact tuple_l l xs m1 a1, o1⟩
end
/-! ### texts -/
theorem strsD_of : ∀ ys : List Str, strsD (ys.map D.str) = some ys
  | [] => rfl
  | y :: ys => by
    rw [List.map_cons]
    unfold strsD
    rw [strsD_of ys]
def four : List Int := [16777216, 65536, 256, 1]
/-- a written address -/
def dotT (a : Int) : Str := Txt.join dot (four.map fun z => sI (a / z % 256))
theorem dotT_ok (a : Int) : Tx (dotT a) ∧ (dotT a).length ≤ 15 := by
  have h : ∀ z : Int, ∃ n : Nat, n < 256 ∧ a / z % 256 = (n : Int) := fun z => ⟨(a / z % 256).toNat, by omega, by omega⟩
  obtain ⟨n1, l1, e1⟩ := h 16777216
  obtain ⟨n2, l2, e2⟩ := h 65536
  obtain ⟨n3, l3, e3⟩ := h 256
  obtain ⟨n4, l4, e4⟩ := h 1
  have e : dotT a = Txt.join dot (quad n1 n2 n3 n4) := by
    unfold dotT four quad
    simp only [List.map_cons, List.map_nil, e1, e2, e3, e4]
  rw [e]
  exact quad_tx n1 n2 n3 n4 l1 l2 l3 l4
theorem str_small (i : Int) (m : M) (h : 0 ≤ i ∧ i < 1000000) : biD .str [.int i] m = .ok (.str (sI i)) m := by
  show strD (.int i) m = _
  unfold strD
  dsimp only
  rw [if_pos (by
    have : i.natAbs < 2 ^ 1920 := by
      have : (1000000 : Nat) < 2 ^ 1920 := Nat.lt_of_lt_of_le (by decide : (1000000 : Nat) < 2 ^ 20) (Nat.pow_le_pow_right (by decide) (by decide))
      omega
    exact PySem.Flt.log2_lt_of (by decide) this)]
  have l : (sI i).length ≤ 100 := int_len (by omega)
  have ok : Mi.okS (sI i) = true := by
    unfold Mi.okS
    rw [show PyData.strOk (sI i) = true from ok_int i, Bool.true_and]
    exact decide_eq_true (by unfold line; omega)
  unfold strR
  exact if_pos ok
theorem join_dot (a : Int) (l : Nat) (m : M) (hl : m[l]? = some (.lst (four.map fun z => D.str (sI (a / z % 256))))) : meD .join (.str ".") [.ref l] m = .ok (.str (dotT a)) m := by
  have e : (four.map fun z => D.str (sI (a / z % 256))) = (four.map fun z => sI (a / z % 256)).map D.str := by rw [List.map_map]; rfl
  rw [e] at hl
  unfold meD
  simp only [hl, strsD_of]
  have dl : (".": Str).length = 1 := by decide +kernel
  have sh : ∀ z : Int, (sI (a / z % 256)).length ≤ 3 := fun z => by
    have := short_n (a / z % 256).toNat (by omega)
    rwa [Int.toNat_of_nonneg (by omega)] at this
  have sum : ((four.map fun z => sI (a / z % 256)).map (·.length)).sum + (four.map fun z => sI (a / z % 256)).length * (".": Str).length ≤ 16777216 := by
    rw [dl]
    simp only [four, List.map_cons, List.map_nil, List.sum_cons, List.sum_nil, List.length_cons, List.length_nil]
    have h1 := sh 16777216
    have h2 := sh 65536
    have h3 := sh 256
    have h4 := sh 1
    omega
  rw [if_pos sum]
  unfold strR
  exact if_pos (dotT_ok a).1.okS
/-- ".".join([.. for size in (..)]) -/
theorem dot_e {C : Mi.Cx} {it : Mi.It} {e : E} {σ : Sl} {m : M} {a : Int} {i : Nat} (h1 : ∀ m', Old m m' → evI C it σ m' = .ok (.free (four.map D.int)) m')
    (h : ∀ z ∈ four, ∃ σ', setT (.nm i) (D.int z) (wipeM σ [i]) = some σ' ∧ EV C e σ' m (.str (sI (a / z % 256)))) : EV C (.me .join (.cst (.str ".")) (.cons (.lc [i] (.nm i) it .nil e) .nil)) σ m (.str (dotT a)) := fun m' o => by
  obtain ⟨l, m1, e1, a1, o1⟩ := LD.lcO (xs := four) (g := D.int) (q := fun z => .str (sI (a / z % 256))) h1 h m' o
  have rc : recvB (meTy .join) (.str ".") m' = true := rfl
  refine ⟨m1, ?_, o1⟩
  rw [ev, ev_cst_, bind_ok, if_pos rc, evs, e1, bind_ok, evs, bind_ok, bind_ok]
  exact join_dot a l m1 a1
end
end Dr

set_option linter.all false
set_option autoImplicit false
set_option Elab.async false
set_option maxRecDepth 100000
set_option maxHeartbeats 1000000
/-! Dr18: expressions that read a tape. -/
namespace Dr
noncomputable section
open PySem L2 Mi
/-- a comprehension that reads the tape, its list not laid -/
theorem lcT {C : Mi.Cx} {vs : List Nat} {x : Tg} {it : Mi.It} {e : E} {σ : Sl} {m m1 : M} {xs : List D} {s c : Nat} (P : D → Prop) (h : evI C it σ m = .ok (.free xs) m1) (h1 : Tp m1 s c)
    (step : ∀ y ∈ xs, ∀ m', Tp m' s c → Kp s c m1 m' → ∃ σ', setT x y (wipeM σ vs) = some σ' ∧ ∃ d m'', ev C e σ' m' = .ok d m'' ∧ P d ∧ Tp m'' s c ∧ Kp s c m' m'') :
    ∃ ds m2, evL C (.lc vs x it .nil e) σ m = .ok ds m2 ∧ ds.length = xs.length ∧ (∀ d ∈ ds, P d) ∧ Tp m2 s c ∧ Kp s c m1 m2 := by
  obtain ⟨ds, m2, e1, p1, p2, p3, p4⟩ := lc_inv (all := xs) (fun d => setT x d (wipeM σ vs)) (IV.free xs).stands (evTs C .nil) (ev C e) (fun pre acc m' => acc.length = pre.length ∧ (∀ d ∈ acc, P d) ∧ Tp m' s c ∧ Kp s c m1 m') (fun _ _ _ _ => trivial)
    (fun pre y post acc m' ha hp => by
      obtain ⟨q1, q2, q3, q4⟩ := hp
      obtain ⟨σ', s1, d, m'', s2, s3, s4, s5⟩ := step y (by rw [ha]; simp) m' q3 q4
      exact ⟨σ', s1, .inl ⟨m', d, m'', by rw [evTs], s2, by simp [q1], fun z hz => by
        rcases List.mem_append.mp hz with hz | hz
        · exact q2 z hz
        · rw [List.mem_singleton.mp hz]; exact s3, s4, q4.trans s5⟩⟩) xs [] [] m1 rfl ⟨rfl, fun _ h => (by cases h), h1, Kp.refl _ _ _⟩
  refine ⟨ds, m2, ?_, p1, p2, p3, p4⟩
  rw [evL, h, bind_ok]
  exact e1
theorem laid_lc {C : Mi.Cx} {vs : List Nat} {x : Tg} {it : Mi.It} {ts : Es} {e : E} {σ : Sl} {m m2 : M} {ds : List D} (h : evL C (.lc vs x it ts e) σ m = .ok ds m2) : ev C (.lc vs x it ts e) σ m = .ok (.ref m2.length) (m2 ++ [.lst ds]) := by
  rw [evL] at h
  rw [ev]
  cases hv : evI C it σ m with
  | ok v m3 =>
    rw [hv, bind_ok] at h
    rw [bind_ok, h, bind_ok]
    rfl
  | exc c as m3 => rw [hv, bind_exc] at h; cases h
  | bad => rw [hv, bind_bad] at h; cases h
/-- a number that is drawn -/
theorem draw_e {C : Mi.Cx} {f j : Nat} {x : Str} {e : E} {σ : Sl} {m m1 : M} {t c : Nat} {n : Int} (hg : IsDraw (C.call f)) (hj : σ[j]? = some (some (.ref t))) (he : ev C e σ m = .ok (.int n) m1) (h : Tp m1 t c) (h0 : 0 < n) (h1 : n < 1000000000000) :
    ∃ (r : Int) (m' : M), ev C (.fn x f (.cons (.var j) (.cons e .nil))) σ m = .ok (.int r) m' ∧ 0 ≤ r ∧ r < n ∧ Tp m' t c ∧ Kp t c m1 m' := by
  obtain ⟨r, m', e1, r0, r1, T, K⟩ := hg t c n m1 h h0 h1
  exact ⟨r, m', by rw [ev_fn2 (ev_var_ hj) he]; exact e1, r0, r1, T, K⟩
/-- one of a list that stands -/
theorem pick_var {C : Mi.Cx} {f i j l : Nat} {x : Str} {ds : List D} {σ : Sl} {m : M} {t c : Nat} (hg : IsTPick (C.call f)) (hj : σ[j]? = some (some (.ref t))) (hi : σ[i]? = some (some (.ref l))) (hl : m[l]? = some (.lst ds)) (h : Tp m t c) (hn : l ≠ t ∧ l ≠ c) (h0 : 0 < ds.length) (h1 : ds.length < 100000) :
    ∃ (d : D) (m' : M), ev C (.fn x f (.cons (.var j) (.cons (.var i) .nil))) σ m = .ok d m' ∧ d ∈ ds ∧ Tp m' t c ∧ Kp t c m m' := by
  obtain ⟨d, m', e, hd, T, K⟩ := hg t c l ds m h hl hn h0 h1
  exact ⟨d, m', by rw [ev_fn2 (ev_var_ hj) (ev_var_ hi)]; exact e, hd, T, K⟩
/-- reads the tape, lays new things, nothing else; what it tells is as P says -/
def DT (C : Mi.Cx) (e : E) (σ : Sl) (m0 : M) (t c : Nat) (P : D → Prop) : Prop := ∀ m, Tp m t c → Kp t c m0 m → ∃ (d : D) (m' : M), ev C e σ m = .ok d m' ∧ P d ∧ Tp m' t c ∧ Kp t c m m'
def DTs (C : Mi.Cx) (es : Es) (σ : Sl) (m0 : M) (t c : Nat) (P : List D → Prop) : Prop := ∀ m, Tp m t c → Kp t c m0 m → ∃ (ds : List D) (m' : M), evs C es σ m = .ok ds m' ∧ P ds ∧ Tp m' t c ∧ Kp t c m m'
section
variable {C : Mi.Cx} {σ : Sl} {m0 : M} {t c : Nat}
theorem DT.pure {e : E} {d : D} (h : ∀ m, Kp t c m0 m → ev C e σ m = .ok d m) : DT C e σ m0 t c (fun x => x = d) := fun m T K => ⟨d, m, h m K, rfl, T, Kp.refl _ _ _⟩
theorem DT.cst {d : D} : DT C (.cst d) σ m0 t c (fun x => x = d) := DT.pure fun m _ => ev_cst_
theorem DT.var {i : Nat} {d : D} (h : σ[i]? = some (some d)) : DT C (.var i) σ m0 t c (fun x => x = d) := DT.pure fun m _ => ev_var_ h
theorem DT.mono {e : E} {P Q : D → Prop} (h : DT C e σ m0 t c P) (k : ∀ d, P d → Q d) : DT C e σ m0 t c Q := fun m T K => let ⟨d, m', e1, p, T1, K1⟩ := h m T K; ⟨d, m', e1, k d p, T1, K1⟩
theorem DT.any {e : E} {P : D → Prop} (h : DT C e σ m0 t c P) : DT C e σ m0 t c (fun _ => True) := h.mono fun _ _ => trivial
theorem DTs.mono {e : Es} {P Q : List D → Prop} (h : DTs C e σ m0 t c P) (k : ∀ d, P d → Q d) : DTs C e σ m0 t c Q := fun m T K => let ⟨d, m', e1, p, T1, K1⟩ := h m T K; ⟨d, m', e1, k d p, T1, K1⟩
theorem DTs.nil : DTs C .nil σ m0 t c (fun x => x = []) := fun m T K => ⟨[], m, evs_n, rfl, T, Kp.refl _ _ _⟩
theorem DTs.cons {e : E} {es : Es} {P : D → Prop} {Q : List D → Prop} (h : DT C e σ m0 t c P) (hs : DTs C es σ m0 t c Q) : DTs C (.cons e es) σ m0 t c (fun x => ∃ d r, x = d :: r ∧ P d ∧ Q r) := fun m T K => by
  obtain ⟨d, m1, e1, p1, T1, K1⟩ := h m T K
  obtain ⟨r, m2, e2, p2, T2, K2⟩ := hs m1 T1 (K.trans K1)
  exact ⟨d :: r, m2, evs_c e1 e2, ⟨d, r, rfl, p1, p2⟩, T2, K1.trans K2⟩
theorem DT.tup {es : Es} {Q : List D → Prop} (hs : DTs C es σ m0 t c Q) : DT C (.tup es) σ m0 t c (fun x => ∃ ds, x = .tup ds ∧ Q ds) := fun m T K => by
  obtain ⟨ds, m1, e1, p1, T1, K1⟩ := hs m T K
  exact ⟨.tup ds, m1, ev_tup e1, ⟨ds, rfl, p1⟩, T1, K1⟩
theorem DT.pickL {f j : Nat} {x : Str} {es : Es} {Q : List D → Prop} (hg : IsTPick (C.call f)) (hj : σ[j]? = some (some (.ref t))) (hs : DTs C es σ m0 t c Q) (hq : ∀ ds, Q ds → 0 < ds.length ∧ ds.length < 100000) : DT C (.fn x f (.cons (.var j) (.cons (.lst es) .nil))) σ m0 t c (fun d => ∃ ds, Q ds ∧ d ∈ ds) := fun m T K => by
  obtain ⟨ds, m1, e1, p1, T1, K1⟩ := hs m T K
  obtain ⟨d, m2, e2, hd, T2, K2⟩ := pick_lst hg e1 hj T1 (hq ds p1).1 (hq ds p1).2 (x := x)
  exact ⟨d, m2, e2, ⟨ds, p1, hd⟩, T2, K1.trans K2⟩
theorem DT.draw {f j : Nat} {x : Str} {e : E} {n : Int} (hg : IsDraw (C.call f)) (hj : σ[j]? = some (some (.ref t))) (he : ∀ m, Kp t c m0 m → ev C e σ m = .ok (.int n) m) (h0 : 0 < n) (h1 : n < 1000000000000) : DT C (.fn x f (.cons (.var j) (.cons e .nil))) σ m0 t c (fun d => ∃ r : Int, d = .int r ∧ 0 ≤ r ∧ r < n) := fun m T K => by
  obtain ⟨r, m1, e1, r0, r1, T1, K1⟩ := draw_e (x := x) hg hj (he m K) T h0 h1
  exact ⟨.int r, m1, e1, ⟨r, rfl, r0, r1⟩, T1, K1⟩
theorem DT.addI {a b : E} {P Q : Int → Prop} (ha : DT C a σ m0 t c (fun d => ∃ r : Int, d = .int r ∧ P r)) (hb : DT C b σ m0 t c (fun d => ∃ r : Int, d = .int r ∧ Q r)) : DT C (.bin .add a b) σ m0 t c (fun d => ∃ r : Int, d = .int r ∧ ∃ x y, P x ∧ Q y ∧ r = x + y) := fun m T K => by
  obtain ⟨_, m1, e1, ⟨x, rfl, px⟩, T1, K1⟩ := ha m T K
  obtain ⟨_, m2, e2, ⟨y, rfl, py⟩, T2, K2⟩ := hb m1 T1 (K.trans K1)
  exact ⟨.int (x + y), m2, add_t e1 e2, ⟨x + y, rfl, x, y, px, py, rfl⟩, T2, K1.trans K2⟩
theorem DTs.nilA {P : D → Prop} : DTs C .nil σ m0 t c (fun ds => ds.length = 0 ∧ ∀ d ∈ ds, P d) := DTs.nil.mono fun ds h => by subst h; exact ⟨rfl, fun _ h => by cases h⟩
theorem DTs.consA {e : E} {es : Es} {P : D → Prop} {n : Nat} (h : DT C e σ m0 t c P) (hs : DTs C es σ m0 t c (fun ds => ds.length = n ∧ ∀ d ∈ ds, P d)) : DTs C (.cons e es) σ m0 t c (fun ds => ds.length = n + 1 ∧ ∀ d ∈ ds, P d) := (DTs.cons h hs).mono fun ds q => by
  obtain ⟨d, r, rfl, p, hl, ha⟩ := q
  refine ⟨by rw [List.length_cons, hl], fun x hx => ?_⟩
  rcases List.mem_cons.mp hx with rfl | hx
  · exact p
  · exact ha x hx
/-- one of a row, all of whose items are so -/
theorem DT.pickA {f j : Nat} {x : Str} {es : Es} {P : D → Prop} {n : Nat} (hg : IsTPick (C.call f)) (hj : σ[j]? = some (some (.ref t))) (hs : DTs C es σ m0 t c (fun ds => ds.length = n ∧ ∀ d ∈ ds, P d)) (hn : 0 < n ∧ n < 100000) : DT C (.fn x f (.cons (.var j) (.cons (.lst es) .nil))) σ m0 t c P :=
  (DT.pickL hg hj hs fun ds q => by rw [q.1]; exact hn).mono fun d q => let ⟨ds, q1, q2⟩ := q; q1.2 d q2
/-- t[:n] -/
theorem DT.slT {a e : E} {xs : List D} (ha : ∀ m, Kp t c m0 m → ev C a σ m = .ok (.tup xs) m) (he : DT C e σ m0 t c (fun d => ∃ r : Int, d = .int r)) : DT C (.sl a .no (.so e)) σ m0 t c (fun d => ∃ n, d = .tup (cutD xs none (some n))) := fun m T K => by
  obtain ⟨_, m1, e1, ⟨r, rfl⟩, T1, K1⟩ := he m T K
  refine ⟨.tup (cutD xs none (some r)), m1, ?_, ⟨r, rfl⟩, T1, K1⟩
  rw [ev, ha m K, bind_ok]
  show ((evo C .no σ m).bind fun l2 m2 => (evo C (.so e) σ m2).bind fun h m3 => slD (.tup xs) l2 h m3) = _
  rw [evo, bind_ok, evo, e1, bind_ok]
  show (R.ok (some r) m1).bind _ = _
  rw [bind_ok]
  rfl
/-- o[key] = e, o a dict that stands -/
theorem wp_sixT {Post : Out → Prop} {i lp : Nat} {w : Str} {e : E} {r : Ss} {P : D → Prop} {kvs : List (Key × D)} (h : DT C e σ m0 t c P) (T : Tp m0 t c) (hi : σ[i]? = some (some (.ref lp))) (hl : m0[lp]? = some (.dic kvs)) (hn : lp ≠ t ∧ lp ≠ c) (hk : kvs.length < line)
    (k : ∀ (d : D) (m' : M), P d → Tp (m'.set lp (.dic (putKD kvs (.inr w) d))) t c → Kp t c m0 m' → (m'.set lp (.dic (putKD kvs (.inr w) d)))[lp]? = some (.dic (putKD kvs (.inr w) d)) → Post (evSs C r σ (m'.set lp (.dic (putKD kvs (.inr w) d))))) : Post (evSs C (.cons (.six (.var i) (.cst (.str w)) e) r) σ m0) := by
  obtain ⟨d, m', e1, p, T1, K1⟩ := h m0 T (Kp.refl _ _ _)
  have hl' := K1.at_ _ _ hn.1 hn.2 hl
  refine wp_st (σ1 := σ) (m1 := m'.set lp (.dic (putKD kvs (.inr w) d))) ?_ (k d m' p (T1.setO hn.1 hn.2 _) K1 (List.getElem?_set_self (List.getElem?_eq_some_iff.mp hl').1))
  have e2 : ev C (.var i) σ m' = .ok (.ref lp) m' := ev_var_ hi
  have e3 : ev C (.cst (.str w)) σ m' = .ok (.str w) m' := ev_cst_
  have e4 := set_dic hl' w d hk
  simp only [evS, e1, e2, e3, out_ok, e4]
theorem len_repK (k : Key) (v : D) : ∀ kvs : List (Key × D), (repK kvs k v).length = kvs.length
  | [] => rfl
  | (j, d) :: r => by
    rw [repK, List.length_cons, List.length_cons, len_repK k v r]
theorem len_putKD (kvs : List (Key × D)) (k : Key) (v : D) : (putKD kvs k v).length ≤ kvs.length + 1 := by
  unfold putKD
  split
  · rw [len_repK]; omega
  · rw [List.length_append, List.length_singleton]; omega
theorem wp_setT {Post : Out → Prop} {i : Nat} {e : E} {r : Ss} {P : D → Prop} (h : DT C e σ m0 t c P) (T : Tp m0 t c) (k : ∀ (d : D) (m' : M), P d → Tp m' t c → Kp t c m0 m' → Post (evSs C r (σ.set i (some d)) m')) : Post (evSs C (.cons (.set (.nm i) e) r) σ m0) := by
  obtain ⟨d, m', e1, p, T1, K1⟩ := h m0 T (Kp.refl _ _ _)
  exact wp_set e1 rfl (k d m' p T1 K1)
end
end
end Dr

set_option linter.all false
set_option autoImplicit false
set_option Elab.async false
set_option maxRecDepth 100000
set_option maxHeartbeats 8000000
/-! G49: the terms of the defs (printed by gen.py). -/
namespace G49
noncomputable section
open PySem L2 Mi
/-- slots: 0 address 1 size -/
def b_show_address_e1 : E :=
(.bi .str (.cons (.bin .mod (.bin .fdiv (.var 0) (.var 1)) (.cst (.int 256))) .nil))
def b_show_address : Ss :=
(.cons (.ret (.me .join (.cst (.str ".")) (.cons (.lc [1] (.nm 1) (.seq (.tup (.cons (.bin .pow (.cst (.int 2)) (.cst (.int 24))) (.cons (.cst (.int 65536)) (.cons (.cst (.int 256)) (.cons (.cst (.int 1)) .nil)))))) .nil b_show_address_e1) .nil)))
 .nil)
/-- slots: 0 trusted 1 address 2 low 3 high -/
def b_is_trusted_e1 : E :=
(.ch2 .le .le (.var 2) (.var 1) (.var 3))
def b_is_trusted : Ss :=
(.cons (.ret (.bt .any (.lc [2, 3] (.tp [2, 3]) (.seq (.var 0)) .nil b_is_trusted_e1)))
 .nil)
/-- slots: 0 given 1 names 2 name 3 value -/
def b_named_by_connection_f1 : Ss :=
(.cons (.ife (.cmp .eq (.var 2) (.cst (.str "connection"))) (.cons (.exp (.me .extend (.var 1) (.cons (.me .split (.lrp (.var 3) "," " ") (.cons (.cst (.str " ")) .nil)) .nil)))
 .nil) .nil)
 .nil)
def b_named_by_connection_e1 : E :=
(.var 2)
def b_named_by_connection : Ss :=
(.cons (.set (.nm 1) (.lst .nil))
 (.cons (.for (.tp [2, 3]) (.seq (.var 0)) b_named_by_connection_f1)
 (.cons (.ret (.lc [2] (.nm 2) (.seq (.var 1)) (.cons (.cmp .ne (.var 2) (.cst (.str "host"))) .nil) b_named_by_connection_e1))
 .nil)))
/-- slots: 0 headers 1 side 2 given 3 rows 4 row -/
def b_shut_names_e1 : E :=
(.ix (.var 4) (.cst (.int 2)))
def b_shut_names : Ss :=
(.cons (.set (.nm 3) (.lc [4] (.nm 4) (.seq (.var 0)) (.cons (.and (.cmp .ne (.ix (.var 4) (.cst (.int 0))) (.cst (.str "from"))) (.cmp .eq (.ix (.var 4) (.cst (.int 1))) (.var 1))) .nil) b_shut_names_e1))
 (.cons (.ret (.bin .add (.bin .add (.lst (.cons (.cst (.str "connection")) .nil)) (.fn "named_by_connection" 2 (.cons (.var 2) .nil))) (.var 3)))
 .nil))
/-- slots: 0 headers 1 side 2 row -/
def b_set_headers_e1 : E :=
(.tup (.cons (.ix (.var 2) (.cst (.int 2))) (.cons (.ix (.var 2) (.cst (.int 3))) .nil)))
def b_set_headers : Ss :=
(.cons (.ret (.lc [2] (.nm 2) (.seq (.var 0)) (.cons (.and (.cmp .eq (.ix (.var 2) (.cst (.int 0))) (.cst (.str "set"))) (.cmp .eq (.ix (.var 2) (.cst (.int 1))) (.var 1))) .nil) b_set_headers_e1))
 .nil)
/-- slots: 0 name 1 trusted 2 client 3 given 4 first 5 own 6 other 7 value -/
def b_from_value_e1 : E :=
(.var 7)
def b_from_value : Ss :=
(.cons (.set (.nm 4) (.sl (.lc [6, 7] (.tp [6, 7]) (.seq (.var 3)) (.cons (.cmp .eq (.var 6) (.var 0)) .nil) b_from_value_e1) .no (.so (.cst (.int 1)))))
 (.cons (.set (.nm 5) (.fn "show_address" 0 (.cons (.var 2) .nil)))
 (.cons (.ret (.ife (.and (.cmp .ne (.var 4) (.lst .nil)) (.fn "is_trusted" 1 (.cons (.var 1) (.cons (.var 2) .nil)))) (.bin .add (.bin .add (.ix (.var 4) (.cst (.int 0))) (.cst (.str ", "))) (.var 5)) (.var 5)))
 .nil)))
/-- slots: 0 headers 1 trusted 2 client 3 name 4 given 5 tellers 6 shut 7 kept 8 row 9 one -/
def b_inside_headers_e1 : E :=
(.ix (.var 8) (.cst (.int 1)))
def b_inside_headers_e2 : E :=
(.var 9)
def b_inside_headers_e3 : E :=
(.tup (.cons (.var 9) (.cons (.fn "from_value" 5 (.cons (.var 9) (.cons (.var 1) (.cons (.var 2) (.cons (.var 4) .nil))))) .nil)))
def b_inside_headers : Ss :=
(.cons (.set (.nm 5) (.lc [8] (.nm 8) (.seq (.var 0)) (.cons (.cmp .eq (.ix (.var 8) (.cst (.int 0))) (.cst (.str "from"))) .nil) b_inside_headers_e1))
 (.cons (.set (.nm 6) (.bin .add (.bin .add (.fn "shut_names" 3 (.cons (.var 0) (.cons (.cst (.str "request")) (.cons (.var 4) .nil)))) (.var 5)) (.lst (.cons (.cst (.str "request")) .nil))))
 (.cons (.set (.nm 7) (.bin .add (.lc [9] (.nm 9) (.seq (.var 4)) (.cons (.cmp .nmem (.ix (.var 9) (.cst (.int 0))) (.var 6)) .nil) b_inside_headers_e2) (.fn "set_headers" 4 (.cons (.var 0) (.cons (.cst (.str "request")) .nil)))))
 (.cons (.set (.nm 7) (.bin .add (.var 7) (.lc [9] (.nm 9) (.seq (.var 5)) .nil b_inside_headers_e3)))
 (.cons (.ret (.bi .tuple (.cons (.bin .add (.var 7) (.lst (.cons (.tup (.cons (.cst (.str "request")) (.cons (.bin .add (.bin .add (.bi .str (.cons (.ix (.var 3) (.cst (.int 0))) .nil)) (.cst (.str "."))) (.bi .str (.cons (.ix (.var 3) (.cst (.int 1))) .nil))) .nil))) .nil))) .nil)))
 .nil)))))
/-- slots: 0 headers 1 given 2 shut 3 one -/
def b_outside_headers_e1 : E :=
(.var 3)
def b_outside_headers : Ss :=
(.cons (.set (.nm 2) (.fn "shut_names" 3 (.cons (.var 0) (.cons (.cst (.str "answer")) (.cons (.var 1) .nil)))))
 (.cons (.ret (.bi .tuple (.cons (.bin .add (.lc [3] (.nm 3) (.seq (.var 1)) (.cons (.cmp .nmem (.ix (.var 3) (.cst (.int 0))) (.var 2)) .nil) b_outside_headers_e1) (.fn "set_headers" 4 (.cons (.var 0) (.cons (.cst (.str "answer")) .nil)))) .nil)))
 .nil))
/-- slots: 0 tape 1 many 2 cell 3 mixed 4 rest -/
def b__law_draw : Ss :=
(.cons (.ife (.cmp .eq (.ix (.var 0) (.cst (.int 0))) (.cst (.int 0))) (.cons (.set (.nm 2) (.cst (.int 0)))
 (.cons (.ife (.cmp .lt (.ix (.var 0) (.cst (.int 2))) (.bi .len (.cons (.ix (.var 0) (.cst (.int 1))) .nil))) (.cons (.set (.nm 2) (.bi .abs (.cons (.bi .int (.cons (.ix (.ix (.var 0) (.cst (.int 1))) (.ix (.var 0) (.cst (.int 2)))) .nil)) .nil)))
 .nil) .nil)
 (.cons (.six (.var 0) (.cst (.int 2)) (.bin .add (.ix (.var 0) (.cst (.int 2))) (.cst (.int 1))))
 (.cons (.six (.var 0) (.cst (.int 0)) (.var 2))
 (.cons (.ife (.cmp .lt (.var 2) (.bin .pow (.cst (.int 10)) (.cst (.int 18)))) (.cons (.set (.nm 3) (.bin .mod (.bi .int (.cons (.bin .add (.bin .add (.bin .mul (.var 2) (.cst (.int 48271))) (.bin .mul (.ix (.var 0) (.cst (.int 2))) (.cst (.int 69621)))) (.cst (.int 12345))) .nil)) (.cst (.int 2147483647))))
 (.cons (.six (.var 0) (.cst (.int 0)) (.bin .add (.bin .mul (.var 3) (.cst (.int 2147483629))) (.bin .mod (.bi .int (.cons (.bin .add (.bin .mul (.var 3) (.cst (.int 16807))) (.cst (.int 11))) .nil)) (.cst (.int 2147483629)))))
 .nil)) .nil)
 .nil))))) .nil)
 (.cons (.set (.nm 4) (.ix (.var 0) (.cst (.int 0))))
 (.cons (.six (.var 0) (.cst (.int 0)) (.bin .fdiv (.var 4) (.var 1)))
 (.cons (.ret (.bin .mod (.bi .int (.cons (.var 4) .nil)) (.var 1)))
 .nil))))
/-- slots: 0 tape 1 row -/
def b__law_pick : Ss :=
(.cons (.ret (.ix (.var 1) (.fn "_law_draw" 8 (.cons (.var 0) (.cons (.bi .len (.cons (.var 1) .nil)) .nil)))))
 .nil)
/-- slots: 0 method -/
def b__law_marks : Ss :=
(.cons .halt .nil)
/-- slots: 0 tape 1 signs 2 many 3 k -/
def b__law_string : Ss :=
(.cons .halt .nil)
/-- slots: 0 tape 1 names -/
def b__law_name : Ss :=
(.cons .halt (.cons .halt (.cons .halt .nil)))
/-- slots: 0 tape 1 value -/
def b__law_value : Ss :=
(.cons .halt (.cons .halt (.cons .halt .nil)))
/-- slots: 0 tape 1 least 2 k -/
def b__law_headers : Ss :=
(.cons .halt .nil)
/-- slots: 0 tape 1 k -/
def b__law_body : Ss :=
(.cons .halt .nil)
/-- slots: 0 tape -/
def b__law_target : Ss :=
(.cons .halt .nil)
/-- slots: 0 tape 1 method 2 headers 3 body -/
def b__law_request : Ss :=
(.cons .halt (.cons .halt (.cons .halt (.cons .halt (.cons .halt (.cons .halt (.cons .halt .nil)))))))
/-- slots: 0 tape 1 method 2 status 3 body -/
def b__law_answer : Ss :=
(.cons .halt (.cons .halt (.cons .halt (.cons .halt .nil))))
/-- slots: 0 text 1 sign -/
def b__law_octets : Ss :=
(.cons .halt .nil)
/-- slots: 0 tape 1 name 2 servers 3 rows 4 k 5 side 6 one 7 routes 8 host 9 prefix 10 methods 11 put 12 limits 13 taken 14 words 15 errors 16 trusted 17 policy 18 row -/
def b__law_policy_f1 : Ss :=
(.cons (.set (.nm 5) (.fn "_law_pick" 9 (.cons (.var 0) (.cons (.lst (.cons (.cst (.str "request")) (.cons (.cst (.str "answer")) .nil))) .nil))))
 (.cons (.set (.nm 6) (.ix (.lst (.cons (.cst (.str "a")) (.cons (.cst (.str "b-2")) (.cons (.cst (.str "x")) (.cons (.cst (.str "cookie")) (.cons (.cst (.str "accept")) (.cons (.cst (.str "9")) .nil))))))) (.var 4)))
 (.cons (.exp (.me .append (.var 3) (.cons (.fn "_law_pick" 9 (.cons (.var 0) (.cons (.lst (.cons (.tup (.cons (.cst (.str "hide")) (.cons (.var 5) (.cons (.var 6) .nil)))) (.cons (.tup (.cons (.cst (.str "set")) (.cons (.var 5) (.cons (.var 6) (.cons (.fn "_law_pick" 9 (.cons (.var 0) (.cons (.lst (.cons (.cst (.str "")) (.cons (.cst (.str "new")) (.cons (.cst (.str "v, w")) .nil)))) .nil))) .nil))))) (.cons (.tup (.cons (.cst (.str "from")) (.cons (.var 6) .nil))) .nil)))) .nil))) .nil)))
 .nil)))
def b__law_policy_e1 : E :=
(.var 18)
def b__law_policy_e2 : E :=
(.var 18)
def b__law_policy_f2 : Ss :=
(.cons (.ife (.cmp .gt (.fn "_law_draw" 8 (.cons (.var 0) (.cons (.cst (.int 4)) .nil))) (.cst (.int 0))) (.cons (.set (.nm 10) (.sl (.tup (.cons (.cst (.str "GET")) (.cons (.cst (.str "HEAD")) (.cons (.cst (.str "PUT")) (.cons (.cst (.str "POST")) (.cons (.cst (.str "DELETE")) .nil)))))) .no (.so (.fn "_law_pick" 9 (.cons (.var 0) (.cons (.lst (.cons (.cst (.int 5)) (.cons (.cst (.int 5)) (.cons (.cst (.int 4)) (.cons (.cst (.int 1)) .nil))))) .nil))))))
 (.cons (.set (.nm 11) (.fn "_law_pick" 9 (.cons (.var 0) (.cons (.lst (.cons (.tup .nil) (.cons (.tup (.cons (.cst (.str "in")) .nil)) (.cons (.tup (.cons (.cst (.str "p")) (.cons (.cst (.str "q")) .nil))) (.cons (.tup (.cons (.cst (.str "p")) (.cons (.cst (.str "q")) (.cons (.cst (.str "r")) (.cons (.cst (.str "s")) .nil))))) .nil))))) .nil))))
 (.cons (.set (.nm 12) (.sl (.tup (.cons (.cst (.str "few")) .nil)) .no (.so (.fn "_law_draw" 8 (.cons (.var 0) (.cons (.cst (.int 2)) .nil))))))
 (.cons (.set (.nm 13) (.fn "_law_draw" 8 (.cons (.var 0) (.cons (.bin .add (.bi .len (.cons (.var 9) .nil)) (.cst (.int 1))) .nil))))
 (.cons (.exp (.me .append (.var 7) (.cons (.tup (.cons (.var 8) (.cons (.var 9) (.cons (.var 10) (.cons (.var 1) (.cons (.var 13) (.cons (.var 11) (.cons (.var 12) (.cons (.fn "_law_pick" 9 (.cons (.var 0) (.cons (.lst (.cons (.cst (.int 1)) (.cons (.cst (.int 2)) (.cons (.cst (.int 5)) (.cons (.cst (.int 9)) .nil))))) .nil))) (.cons (.bin .add (.cst (.int 1)) (.fn "_law_draw" 8 (.cons (.var 0) (.cons (.cst (.int 3)) .nil)))) .nil)))))))))) .nil)))
 .nil))))) .nil)
 .nil)
def b__law_policy_f3 : Ss :=
(.cons (.for (.nm 9) (.seq (.tup (.cons (.tup .nil) (.cons (.tup (.cons (.cst (.str "b")) .nil)) (.cons (.tup (.cons (.cst (.str "b")) (.cons (.cst (.str "c")) .nil))) (.cons (.tup (.cons (.cst (.str "b")) (.cons (.cst (.str "c")) (.cons (.cst (.str "d")) (.cons (.cst (.str "e")) (.cons (.cst (.str "f")) .nil)))))) .nil)))))) b__law_policy_f2)
 .nil)
def b__law_policy_e3 : E :=
(.tup (.cons (.ix (.var 14) (.var 4)) (.cons (.bin .add (.bin .add (.cst (.int 400)) (.bin .mul (.cst (.int 7)) (.var 4))) (.fn "_law_draw" 8 (.cons (.var 0) (.cons (.cst (.int 5)) .nil)))) (.cons (.fn "_law_pick" 9 (.cons (.var 0) (.cons (.lst (.cons (.cst (.str "")) (.cons (.cst (.str "no")) (.cons (.bin .add (.cst (.str "sorry: ")) (.ix (.var 14) (.var 4))) .nil)))) .nil))) .nil))))
def b__law_policy : Ss :=
(.cons (.set (.nm 3) (.lst .nil))
 (.cons (.for (.nm 4) (.rng1 (.fn "_law_draw" 8 (.cons (.var 0) (.cons (.cst (.int 6)) .nil)))) b__law_policy_f1)
 (.cons (.set (.nm 3) (.bin .add (.lc [18] (.nm 18) (.seq (.var 3)) (.cons (.cmp .ne (.ix (.var 18) (.cst (.int 0))) (.cst (.str "from"))) .nil) b__law_policy_e1) (.sl (.lc [18] (.nm 18) (.seq (.var 3)) (.cons (.cmp .eq (.ix (.var 18) (.cst (.int 0))) (.cst (.str "from"))) .nil) b__law_policy_e2) .no (.so (.cst (.int 4))))))
 (.cons (.set (.nm 7) (.lst .nil))
 (.cons (.for (.nm 8) (.seq (.tup (.cons (.cst (.str "a")) (.cons (.cst (.str "*")) .nil)))) b__law_policy_f3)
 (.cons (.set (.nm 14) (.lst (.cons (.cst (.str "refused")) (.cons (.cst (.str "no route")) (.cons (.cst (.str "none")) (.cons (.cst (.str "limit")) (.cons (.cst (.str "broken")) (.cons (.cst (.str "late")) .nil))))))))
 (.cons (.set (.nm 15) (.bt .tuple (.lc [4] (.nm 4) (.rng1 (.cst (.int 6))) .nil b__law_policy_e3)))
 (.cons (.set (.nm 16) (.fn "_law_pick" 9 (.cons (.var 0) (.cons (.lst (.cons (.tup .nil) (.cons (.tup (.cons (.tup (.cons (.cst (.int 16909060)) (.cons (.cst (.int 16909070)) .nil))) .nil)) (.cons (.tup (.cons (.tup (.cons (.cst (.int 0)) (.cons (.cst (.int 134744071)) .nil))) (.cons (.tup (.cons (.cst (.int 134744073)) (.cons (.cst (.int 4294967295)) .nil))) .nil))) .nil)))) .nil))))
 (.cons (.set (.nm 17) (.dct [.str "routes", .str "headers", .str "errors", .str "trusted"] (.cons (.bi .tuple (.cons (.var 7) .nil)) (.cons (.bi .tuple (.cons (.var 3) .nil)) (.cons (.var 15) (.cons (.var 16) .nil))))))
 (.cons (.six (.var 17) (.cst (.str "services")) (.tup (.cons (.tup (.cons (.var 1) (.cons (.var 2) (.cons (.cst (.str "turns")) (.cons (.cst .non) .nil))))) .nil)))
 (.cons (.six (.var 17) (.cst (.str "limits")) (.tup (.cons (.tup (.cons (.cst (.str "few")) (.cons (.cst (.str "open")) (.cons (.tup (.cons (.fn "_law_pick" 9 (.cons (.var 0) (.cons (.lst (.cons (.cst (.int 1)) (.cons (.cst (.int 2)) (.cons (.cst (.int 9)) .nil)))) .nil))) .nil)) (.cons (.fn "_law_pick" 9 (.cons (.var 0) (.cons (.lst (.cons (.tup .nil) (.cons (.tup (.cons (.cst (.str "outside")) .nil)) .nil))) .nil))) .nil))))) .nil)))
 (.cons (.six (.var 17) (.cst (.str "rules")) (.tup (.cons (.tup .nil) (.cons (.tup (.cons (.tup (.cons (.cst (.str "drop")) .nil)) (.cons (.tup .nil) .nil))) .nil))))
 (.cons (.six (.var 17) (.cst (.str "times")) (.bin .add (.tup (.cons (.cst (.str "times")) .nil)) (.bin .mul (.tup (.cons (.cst (.int 60)) .nil)) (.cst (.int 9)))))
 (.cons (.six (.var 17) (.cst (.str "room")) (.cst (.int 8)))
 (.cons (.six (.var 17) (.cst (.str "keep")) (.cst (.str "stay")))
 (.cons (.ret (.var 17))
 .nil))))))))))))))))
/-- slots: 0 rows 1 side 2 given 3 shut 4 name 5 value 6 row 7 word -/
def b__law_shut_e1 : E :=
(.var 7)
def b__law_shut_f1 : Ss :=
(.cons (.ife (.cmp .eq (.var 4) (.cst (.str "connection"))) (.cons (.set (.nm 3) (.bin .add (.var 3) (.lc [7] (.nm 7) (.seq (.me .split (.lrp (.var 5) "," " ") (.cons (.cst (.str " ")) .nil))) (.cons (.cmp .ne (.var 7) (.cst (.str "host"))) .nil) b__law_shut_e1)))
 .nil) .nil)
 .nil)
def b__law_shut_f2 : Ss :=
(.cons (.ife (.and (.cmp .eq (.ix (.var 6) (.cst (.int 0))) (.cst (.str "from"))) (.cmp .eq (.var 1) (.cst (.str "request")))) (.cons (.exp (.me .append (.var 3) (.cons (.ix (.var 6) (.cst (.int 1))) .nil)))
 .nil) .nil)
 (.cons (.ife (.and (.cmp .ne (.ix (.var 6) (.cst (.int 0))) (.cst (.str "from"))) (.cmp .eq (.ix (.var 6) (.cst (.int 1))) (.var 1))) (.cons (.exp (.me .append (.var 3) (.cons (.ix (.var 6) (.cst (.int 2))) .nil)))
 .nil) .nil)
 .nil))
def b__law_shut : Ss :=
(.cons (.set (.nm 3) (.lst (.cons (.cst (.str "connection")) .nil)))
 (.cons (.for (.tp [4, 5]) (.seq (.var 2)) b__law_shut_f1)
 (.cons (.for (.nm 6) (.seq (.var 0)) b__law_shut_f2)
 (.cons (.ret (.var 3))
 .nil))))
/-- slots: 0 address 1 k -/
def b__law_dotted_e1 : E :=
(.bi .str (.cons (.bin .mod (.bi .int (.cons (.bin .fdiv (.var 0) (.var 1)) .nil)) (.cst (.int 256))) .nil))
def b__law_dotted : Ss :=
(.cons (.ret (.me .join (.cst (.str ".")) (.cons (.lc [1] (.nm 1) (.seq (.tup (.cons (.cst (.int 16777216)) (.cons (.cst (.int 65536)) (.cons (.cst (.int 256)) (.cons (.cst (.int 1)) .nil)))))) .nil b__law_dotted_e1) .nil)))
 .nil)
/-- slots: 0 policy 1 client 2 name 3 given 4 rows 5 shut 6 found 7 is_trusted_v 8 row 9 first 10 value 11 low 12 high 13 other -/
def b__law_inside_e1 : E :=
(.var 8)
def b__law_inside_e2 : E :=
(.tup (.cons (.ix (.var 8) (.cst (.int 2))) (.cons (.ix (.var 8) (.cst (.int 3))) .nil)))
def b__law_inside_e3 : E :=
(.ch2 .le .le (.var 11) (.var 1) (.var 12))
def b__law_inside_e4 : E :=
(.var 10)
def b__law_inside_f1 : Ss :=
(.cons (.ife (.cmp .eq (.ix (.var 8) (.cst (.int 0))) (.cst (.str "from"))) (.cons (.set (.nm 9) (.sl (.lc [13, 10] (.tp [13, 10]) (.seq (.var 3)) (.cons (.cmp .eq (.var 13) (.ix (.var 8) (.cst (.int 1)))) .nil) b__law_inside_e4) .no (.so (.cst (.int 1)))))
 (.cons (.set (.nm 10) (.fn "_law_dotted" 22 (.cons (.var 1) .nil)))
 (.cons (.ife (.and (.cmp .ne (.var 9) (.lst .nil)) (.var 7)) (.cons (.set (.nm 10) (.bin .add (.bin .add (.ix (.var 9) (.cst (.int 0))) (.cst (.str ", "))) (.var 10)))
 .nil) .nil)
 (.cons (.exp (.me .append (.var 6) (.cons (.tup (.cons (.ix (.var 8) (.cst (.int 1))) (.cons (.var 10) .nil))) .nil)))
 .nil)))) .nil)
 .nil)
def b__law_inside : Ss :=
(.cons (.set (.nm 4) (.ix (.var 0) (.cst (.str "headers"))))
 (.cons (.set (.nm 5) (.bin .add (.fn "_law_shut" 21 (.cons (.var 4) (.cons (.cst (.str "request")) (.cons (.var 3) .nil)))) (.lst (.cons (.cst (.str "request")) .nil))))
 (.cons (.set (.nm 6) (.lc [8] (.nm 8) (.seq (.var 3)) (.cons (.cmp .nmem (.ix (.var 8) (.cst (.int 0))) (.var 5)) .nil) b__law_inside_e1))
 (.cons (.set (.nm 6) (.bin .add (.var 6) (.lc [8] (.nm 8) (.seq (.var 4)) (.cons (.cmp .eq (.sl (.var 8) .no (.so (.cst (.int 2)))) (.tup (.cons (.cst (.str "set")) (.cons (.cst (.str "request")) .nil)))) .nil) b__law_inside_e2)))
 (.cons (.set (.nm 7) (.bt .any (.lc [11, 12] (.tp [11, 12]) (.seq (.ix (.var 0) (.cst (.str "trusted")))) .nil b__law_inside_e3)))
 (.cons (.for (.nm 8) (.seq (.var 4)) b__law_inside_f1)
 (.cons (.ret (.bin .add (.var 6) (.lst (.cons (.tup (.cons (.cst (.str "request")) (.cons (.bin .add (.bin .add (.bi .str (.cons (.ix (.var 2) (.cst (.int 0))) .nil)) (.cst (.str "."))) (.bi .str (.cons (.ix (.var 2) (.cst (.int 1))) .nil))) .nil))) .nil))))
 .nil)))))))
/-- slots: 0 policy 1 given 2 shut 3 found 4 row -/
def b__law_outside_e1 : E :=
(.var 4)
def b__law_outside_e2 : E :=
(.tup (.cons (.ix (.var 4) (.cst (.int 2))) (.cons (.ix (.var 4) (.cst (.int 3))) .nil)))
def b__law_outside : Ss :=
(.cons (.set (.nm 2) (.fn "_law_shut" 21 (.cons (.ix (.var 0) (.cst (.str "headers"))) (.cons (.cst (.str "answer")) (.cons (.var 1) .nil)))))
 (.cons (.set (.nm 3) (.lc [4] (.nm 4) (.seq (.var 1)) (.cons (.cmp .nmem (.ix (.var 4) (.cst (.int 0))) (.var 2)) .nil) b__law_outside_e1))
 (.cons (.ret (.bin .add (.var 3) (.lc [4] (.nm 4) (.seq (.ix (.var 0) (.cst (.str "headers")))) (.cons (.cmp .eq (.sl (.var 4) .no (.so (.cst (.int 2)))) (.tup (.cons (.cst (.str "set")) (.cons (.cst (.str "answer")) .nil)))) .nil) b__law_outside_e2)))
 .nil)))
/-- slots: 0 tape 1 names 2 rows 3 value 4 k -/
def b__law_given_e1 : E :=
(.tup (.cons (.fn "_law_pick" 9 (.cons (.var 0) (.cons (.var 1) .nil))) (.cons (.fn "_law_pick" 9 (.cons (.var 0) (.cons (.lst (.cons (.cst (.str "")) (.cons (.cst (.str "1")) (.cons (.cst (.str "1.2.3.4")) (.cons (.cst (.str "u, v")) (.cons (.cst (.str "w")) .nil)))))) .nil))) .nil)))
def b__law_given : Ss :=
(.cons (.set (.nm 1) (.lst (.cons (.cst (.str "a")) (.cons (.cst (.str "b-2")) (.cons (.cst (.str "x")) (.cons (.cst (.str "cookie")) (.cons (.cst (.str "accept")) (.cons (.cst (.str "9")) (.cons (.cst (.str "host")) (.cons (.cst (.str "request")) (.cons (.cst (.str "y")) (.cons (.cst (.str "a")) .nil))))))))))))
 (.cons (.set (.nm 2) (.lc [4] (.nm 4) (.rng1 (.fn "_law_draw" 8 (.cons (.var 0) (.cons (.cst (.int 9)) .nil)))) .nil b__law_given_e1))
 (.cons (.ife (.cmp .eq (.fn "_law_draw" 8 (.cons (.var 0) (.cons (.cst (.int 2)) .nil))) (.cst (.int 0))) (.cons (.set (.nm 3) (.fn "_law_pick" 9 (.cons (.var 0) (.cons (.lst (.cons (.cst (.str "close")) (.cons (.cst (.str "A,x")) (.cons (.cst (.str "host, Cookie")) (.cons (.cst (.str "y  accept")) (.cons (.cst (.str "b-2,,9")) (.cons (.cst (.str "request")) (.cons (.cst (.str "connection")) (.cons (.cst (.str "")) .nil))))))))) .nil))))
 (.cons (.exp (.me .insert (.var 2) (.cons (.fn "_law_draw" 8 (.cons (.var 0) (.cons (.bin .add (.bi .len (.cons (.var 2) .nil)) (.cst (.int 1))) .nil))) (.cons (.tup (.cons (.cst (.str "connection")) (.cons (.var 3) .nil))) .nil))))
 .nil)) .nil)
 (.cons (.ret (.bi .tuple (.cons (.var 2) .nil)))
 .nil))))
/-- slots: 0 script 1 tape 2 turn 3 policy 4 given 5 client 6 name 7 due 8 told -/
def b_law_f1 : Ss :=
(.cons (.set (.nm 3) (.fn "_law_policy" 20 (.cons (.var 1) (.cons (.cst (.str "web")) (.cons (.tup (.cons (.tup (.cons (.cst (.str "s")) (.cons (.cst (.int 167772161)) (.cons (.cst (.int 80)) (.cons (.cst (.int 1)) (.cons (.cst (.str "up")) .nil)))))) .nil)) .nil)))))
 (.cons (.set (.nm 4) (.fn "_law_given" 25 (.cons (.var 1) .nil)))
 (.cons (.set (.nm 5) (.fn "_law_pick" 9 (.cons (.var 1) (.cons (.lst (.cons (.cst (.int 16909059)) (.cons (.cst (.int 16909060)) (.cons (.cst (.int 16909070)) (.cons (.cst (.int 16909071)) (.cons (.cst (.int 134744071)) (.cons (.cst (.int 134744072)) (.cons (.cst (.int 134744073)) (.cons (.cst (.int 3758096383)) .nil))))))))) .nil))))
 (.cons (.set (.nm 6) (.tup (.cons (.fn "_law_draw" 8 (.cons (.var 1) (.cons (.cst (.int 300)) .nil))) (.cons (.fn "_law_draw" 8 (.cons (.var 1) (.cons (.cst (.int 12)) .nil))) .nil))))
 (.cons (.set (.nm 7) (.bi .tuple (.cons (.fn "_law_inside" 23 (.cons (.var 3) (.cons (.var 5) (.cons (.var 6) (.cons (.var 4) .nil))))) .nil)))
 (.cons (.set (.nm 8) (.fn "inside_headers" 6 (.cons (.ix (.var 3) (.cst (.str "headers"))) (.cons (.ix (.var 3) (.cst (.str "trusted"))) (.cons (.var 5) (.cons (.var 6) (.cons (.var 4) .nil)))))))
 (.cons (.ife (.or (.nt (.isi (.var 8) true [.tuple])) (.cmp .ne (.var 8) (.var 7))) (.cons (.ret (.cst (.bl false)))
 .nil) .nil)
 (.cons (.set (.nm 8) (.fn "outside_headers" 7 (.cons (.ix (.var 3) (.cst (.str "headers"))) (.cons (.var 4) .nil))))
 (.cons (.ife (.or (.nt (.isi (.var 8) true [.tuple])) (.cmp .ne (.var 8) (.bi .tuple (.cons (.fn "_law_outside" 24 (.cons (.var 3) (.cons (.var 4) .nil))) .nil)))) (.cons (.ret (.cst (.bl false)))
 .nil) .nil)
 .nil)))))))))
def b_law : Ss :=
(.cons (.set (.nm 1) (.lst (.cons (.cst (.int 0)) (.cons (.bi .list (.cons (.var 0) .nil)) (.cons (.cst (.int 0)) .nil)))))
 (.cons (.for (.nm 2) (.rng1 (.cst (.int 4))) b_law_f1)
 (.cons (.ret (.cst (.bl true)))
 .nil)))
def T : List Fn := [⟨1, 2, b_show_address⟩,
  ⟨2, 4, b_is_trusted⟩,
  ⟨1, 4, b_named_by_connection⟩,
  ⟨3, 5, b_shut_names⟩,
  ⟨2, 3, b_set_headers⟩,
  ⟨4, 8, b_from_value⟩,
  ⟨5, 10, b_inside_headers⟩,
  ⟨2, 4, b_outside_headers⟩,
  ⟨2, 5, b__law_draw⟩,
  ⟨2, 2, b__law_pick⟩,
  ⟨1, 1, b__law_marks⟩,
  ⟨3, 4, b__law_string⟩,
  ⟨1, 2, b__law_name⟩,
  ⟨1, 2, b__law_value⟩,
  ⟨2, 3, b__law_headers⟩,
  ⟨1, 2, b__law_body⟩,
  ⟨1, 1, b__law_target⟩,
  ⟨1, 4, b__law_request⟩,
  ⟨2, 4, b__law_answer⟩,
  ⟨1, 2, b__law_octets⟩,
  ⟨3, 19, b__law_policy⟩,
  ⟨3, 8, b__law_shut⟩,
  ⟨1, 2, b__law_dotted⟩,
  ⟨4, 14, b__law_inside⟩,
  ⟨2, 5, b__law_outside⟩,
  ⟨1, 5, b__law_given⟩,
  ⟨1, 9, b_law⟩]
def FU : Nat := 1000000000
def CON : Nat → Option D := fun _ => none
def I : Inf := ⟨[("show_address", 0, 1), ("is_trusted", 1, 2), ("named_by_connection", 2, 1), ("shut_names", 3, 3), ("set_headers", 4, 2), ("from_value", 5, 4), ("inside_headers", 6, 5), ("outside_headers", 7, 2), ("_law_draw", 8, 2), ("_law_pick", 9, 2), ("_law_marks", 10, 1), ("_law_string", 11, 3), ("_law_name", 12, 1), ("_law_value", 13, 1), ("_law_headers", 14, 2), ("_law_body", 15, 1), ("_law_target", 16, 1), ("_law_request", 17, 1), ("_law_answer", 18, 2), ("_law_octets", 19, 1), ("_law_policy", 20, 3), ("_law_shut", 21, 3), ("_law_dotted", 22, 1), ("_law_inside", 23, 4), ("_law_outside", 24, 2), ("_law_given", 25, 1), ("law", 26, 1)], [], []⟩
abbrev call (k f : Nat) (ds : List D) (m : M) : R D := callF T FU CON k f ds m
abbrev cx (k : Nat) : Mi.Cx := ⟨callF T FU CON k, FU, CON⟩
theorem c_show_address (k : Nat) (x0 : D) (m : M) : callF T FU CON (k + 1) 0 [x0] m = (evSs (cx k) b_show_address [some x0, none] m).fin := rfl
theorem c_is_trusted (k : Nat) (x0 x1 : D) (m : M) : callF T FU CON (k + 1) 1 [x0, x1] m = (evSs (cx k) b_is_trusted [some x0, some x1, none, none] m).fin := rfl
theorem c_named_by_connection (k : Nat) (x0 : D) (m : M) : callF T FU CON (k + 1) 2 [x0] m = (evSs (cx k) b_named_by_connection [some x0, none, none, none] m).fin := rfl
theorem c_shut_names (k : Nat) (x0 x1 x2 : D) (m : M) : callF T FU CON (k + 1) 3 [x0, x1, x2] m = (evSs (cx k) b_shut_names [some x0, some x1, some x2, none, none] m).fin := rfl
theorem c_set_headers (k : Nat) (x0 x1 : D) (m : M) : callF T FU CON (k + 1) 4 [x0, x1] m = (evSs (cx k) b_set_headers [some x0, some x1, none] m).fin := rfl
theorem c_from_value (k : Nat) (x0 x1 x2 x3 : D) (m : M) : callF T FU CON (k + 1) 5 [x0, x1, x2, x3] m = (evSs (cx k) b_from_value [some x0, some x1, some x2, some x3, none, none, none, none] m).fin := rfl
theorem c_inside_headers (k : Nat) (x0 x1 x2 x3 x4 : D) (m : M) : callF T FU CON (k + 1) 6 [x0, x1, x2, x3, x4] m = (evSs (cx k) b_inside_headers [some x0, some x1, some x2, some x3, some x4, none, none, none, none, none] m).fin := rfl
theorem c_outside_headers (k : Nat) (x0 x1 : D) (m : M) : callF T FU CON (k + 1) 7 [x0, x1] m = (evSs (cx k) b_outside_headers [some x0, some x1, none, none] m).fin := rfl
theorem c__law_draw (k : Nat) (x0 x1 : D) (m : M) : callF T FU CON (k + 1) 8 [x0, x1] m = (evSs (cx k) b__law_draw [some x0, some x1, none, none, none] m).fin := rfl
theorem c__law_pick (k : Nat) (x0 x1 : D) (m : M) : callF T FU CON (k + 1) 9 [x0, x1] m = (evSs (cx k) b__law_pick [some x0, some x1] m).fin := rfl
theorem c__law_marks (k : Nat) (x0 : D) (m : M) : callF T FU CON (k + 1) 10 [x0] m = (evSs (cx k) b__law_marks [some x0] m).fin := rfl
theorem c__law_string (k : Nat) (x0 x1 x2 : D) (m : M) : callF T FU CON (k + 1) 11 [x0, x1, x2] m = (evSs (cx k) b__law_string [some x0, some x1, some x2, none] m).fin := rfl
theorem c__law_name (k : Nat) (x0 : D) (m : M) : callF T FU CON (k + 1) 12 [x0] m = (evSs (cx k) b__law_name [some x0, none] m).fin := rfl
theorem c__law_value (k : Nat) (x0 : D) (m : M) : callF T FU CON (k + 1) 13 [x0] m = (evSs (cx k) b__law_value [some x0, none] m).fin := rfl
theorem c__law_headers (k : Nat) (x0 x1 : D) (m : M) : callF T FU CON (k + 1) 14 [x0, x1] m = (evSs (cx k) b__law_headers [some x0, some x1, none] m).fin := rfl
theorem c__law_body (k : Nat) (x0 : D) (m : M) : callF T FU CON (k + 1) 15 [x0] m = (evSs (cx k) b__law_body [some x0, none] m).fin := rfl
theorem c__law_target (k : Nat) (x0 : D) (m : M) : callF T FU CON (k + 1) 16 [x0] m = (evSs (cx k) b__law_target [some x0] m).fin := rfl
theorem c__law_request (k : Nat) (x0 : D) (m : M) : callF T FU CON (k + 1) 17 [x0] m = (evSs (cx k) b__law_request [some x0, none, none, none] m).fin := rfl
theorem c__law_answer (k : Nat) (x0 x1 : D) (m : M) : callF T FU CON (k + 1) 18 [x0, x1] m = (evSs (cx k) b__law_answer [some x0, some x1, none, none] m).fin := rfl
theorem c__law_octets (k : Nat) (x0 : D) (m : M) : callF T FU CON (k + 1) 19 [x0] m = (evSs (cx k) b__law_octets [some x0, none] m).fin := rfl
theorem c__law_policy (k : Nat) (x0 x1 x2 : D) (m : M) : callF T FU CON (k + 1) 20 [x0, x1, x2] m = (evSs (cx k) b__law_policy [some x0, some x1, some x2, none, none, none, none, none, none, none, none, none, none, none, none, none, none, none, none] m).fin := rfl
theorem c__law_shut (k : Nat) (x0 x1 x2 : D) (m : M) : callF T FU CON (k + 1) 21 [x0, x1, x2] m = (evSs (cx k) b__law_shut [some x0, some x1, some x2, none, none, none, none, none] m).fin := rfl
theorem c__law_dotted (k : Nat) (x0 : D) (m : M) : callF T FU CON (k + 1) 22 [x0] m = (evSs (cx k) b__law_dotted [some x0, none] m).fin := rfl
theorem c__law_inside (k : Nat) (x0 x1 x2 x3 : D) (m : M) : callF T FU CON (k + 1) 23 [x0, x1, x2, x3] m = (evSs (cx k) b__law_inside [some x0, some x1, some x2, some x3, none, none, none, none, none, none, none, none, none, none] m).fin := rfl
theorem c__law_outside (k : Nat) (x0 x1 : D) (m : M) : callF T FU CON (k + 1) 24 [x0, x1] m = (evSs (cx k) b__law_outside [some x0, some x1, none, none, none] m).fin := rfl
theorem c__law_given (k : Nat) (x0 : D) (m : M) : callF T FU CON (k + 1) 25 [x0] m = (evSs (cx k) b__law_given [some x0, none, none, none, none] m).fin := rfl
theorem c_law (k : Nat) (x0 : D) (m : M) : callF T FU CON (k + 1) 26 [x0] m = (evSs (cx k) b_law [some x0, none, none, none, none, none, none, none, none] m).fin := rfl
end
end G49

set_option linter.all false
set_option autoImplicit false
set_option Elab.async false
set_option maxRecDepth 100000
set_option maxHeartbeats 1000000
/-! K49a: what the program tells of headers. -/
namespace K49
noncomputable section
open PySem L2 Mi G49 Dr TL K07
theorem draw_k (k : Nat) : IsDraw (callF T FU CON (k + 1) 8) := fun t c most m h h0 h1 => by
  rw [c__law_draw]
  exact draw_s (cx k) t c most m h h0 h1
theorem pick_k (k : Nat) : IsTPick (callF T FU CON (k + 2) 9) := fun t c l ds m h hl hn h0 h1 => by
  rw [c__law_pick]
  exact tpick_s (cx (k + 1)) 8 (draw_k k) t c l ds m h hl hn h0 h1
/-! ### rows -/
inductive HR where
  | hide (s n : Str)
  | set (s n v : Str)
  | frm (n : Str)
def hrD : HR → D
  | .hide s n => .tup [.str "hide", .str s, .str n]
  | .set s n v => .tup [.str "set", .str s, .str n, .str v]
  | .frm n => .tup [.str "from", .str n]
def HR.kd : HR → Str
  | .hide _ _ => "hide"
  | .set _ _ _ => "set"
  | .frm _ => "from"
/-- what stands second, third, fourth -/
def HR.at1 : HR → Str
  | .hide s _ => s
  | .set s _ _ => s
  | .frm n => n
def HR.at2 : HR → Str
  | .hide _ n => n
  | .set _ n _ => n
  | .frm n => n
def HR.at3 : HR → Str
  | .set _ _ v => v
  | _ => ""
def HR.isF : HR → Bool
  | .frm _ => true
  | _ => false
def HR.isS : HR → Bool
  | .set _ _ _ => true
  | _ => false
theorem kne : ("hide" : Str) ≠ "set" ∧ ("hide" : Str) ≠ "from" ∧ ("set" : Str) ≠ "from" ∧ ("from" : Str) ≠ "set" := by decide +kernel
theorem kd_from (r : HR) : decide (r.kd = "from") = r.isF := by
  obtain ⟨h1, h2, h3, h4⟩ := kne
  cases r with
  | hide => exact decide_eq_false h2
  | set => exact decide_eq_false h3
  | frm => exact decide_eq_true rfl
theorem kd_set (r : HR) : decide (r.kd = "set") = r.isS := by
  obtain ⟨h1, h2, h3, h4⟩ := kne
  cases r with
  | hide => exact decide_eq_false h1
  | set => exact decide_eq_true rfl
  | frm => exact decide_eq_false h4
theorem ix0 (r : HR) (m : M) : ixD (hrD r) (.int 0) m = .ok (.str r.kd) m := by
  cases r <;> exact Mi.ix_tup _ _ _ _ (Mi.at_0 _ _)
theorem ix1 (r : HR) (m : M) : ixD (hrD r) (.int 1) m = .ok (.str r.at1) m := by
  cases r <;> exact Mi.ix_tup _ _ _ _ (Mi.at_1 _ _ _)
theorem ix2 (r : HR) (h : r.isF = false) (m : M) : ixD (hrD r) (.int 2) m = .ok (.str r.at2) m := by
  cases r with
  | frm => cases h
  | hide => exact Mi.ix_tup _ _ _ _ (Dr.at_2 _ _ _ _)
  | set => exact Mi.ix_tup _ _ _ _ (Dr.at_2 _ _ _ _)
theorem ix3 (r : HR) (h : r.isS = true) (m : M) : ixD (hrD r) (.int 3) m = .ok (.str r.at3) m := by
  cases r with
  | set => exact Mi.ix_tup _ _ _ _ (Dr.at_3 _ _ _ _ _)
  | frm => cases h
  | hide => cases h
/-! ### pairs -/
def gD (p : Str × Str) : D := .tup [.str p.1, .str p.2]
theorem g0 (p : Str × Str) (m : M) : ixD (gD p) (.int 0) m = .ok (.str p.1) m := Mi.ix_tup _ _ _ _ (Mi.at_0 _ _)
theorem in_l (x : Str) (ys : List Str) (l : Nat) (m : M) (hl : m[l]? = some (.lst (ys.map D.str))) : inD (.str x) (.ref l) m = some (decide (x ∈ ys)) := by
  unfold inD dicD inS seqD
  simp only [hl]
  have hf : (ys.map D.str).all flat = true := by
    rw [List.all_eq_true]
    intro d hd
    obtain ⟨j, _, rfl⟩ := List.mem_map.mp hd
    rfl
  rw [if_pos ⟨rfl, hf⟩, List.any_map]
  congr 1
  rw [Bool.eq_iff_iff, List.any_eq_true, decide_eq_true_eq]
  constructor
  · rintro ⟨j, hj, e⟩
    have e : decide (j = x) = true := e
    rw [← of_decide_eq_true e]
    exact hj
  · exact fun h => ⟨x, h, show decide (x = x) = true from decide_eq_true rfl⟩
theorem nmem_l (x : Str) (ys : List Str) (l : Nat) (m : M) (hl : m[l]? = some (.lst (ys.map D.str))) : cmpD .nmem (.str x) (.ref l) m = .ok (.bl (!decide (x ∈ ys))) m := by
  unfold cmpD
  dsimp only
  rw [in_l x ys l m hl]
  rfl
/-- one[0] not in a list -/
theorem kept_e {C : Mi.Cx} {σ : Sl} {m : M} {i j v l : Nat} {gs : List (Str × Str)} {ys : List Str} (hg : σ[i]? = some (some (.tup (gs.map gD)))) (hj : σ[j]? = some (some (.ref l))) (hl : m[l]? = some (.lst (ys.map D.str))) (hv : v < σ.length) (hij : j ≠ v) :
    LD C (.lc [v] (.nm v) (.seq (.var i)) (.cons (.cmp .nmem (.ix (.var v) (.cst (.int 0))) (.var j)) .nil) (.var v)) σ m ((gs.filter fun p => !decide (p.1 ∈ ys)).map gD) := by
  refine LD.lcF (g := gD) (p := fun p => !decide (p.1 ∈ ys)) (q := gD) (xs := gs) (fun m' o => evI_tup (ev_var_ hg)) fun m' o p hp => ⟨_, rfl, ?_, fun _ => ?_⟩
  · have e1 : ((wipeM σ [v]).set v (some (gD p)))[v]? = some (some (gD p)) := List.getElem?_set_self (by simp only [wipeM, List.length_set]; exact hv)
    have e2 : ((wipeM σ [v]).set v (some (gD p)))[j]? = some (some (.ref l)) := by
      rw [List.getElem?_set_ne (Ne.symm hij)]
      simp only [wipeM]
      rw [List.getElem?_set_ne (Ne.symm hij)]
      exact hj
    refine evT_of ?_
    rw [ev_cmp_ (ev_ix_ (ev_var_ e1) ev_cst_ |>.trans (g0 p m')) (ev_var_ e2)]
    exact nmem_l p.1 ys l m' (o.at_ _ _ hl)
  · exact ev_var_ (List.getElem?_set_self (by simp only [wipeM, List.length_set]; exact hv))
/-! ### words of a value -/
def repT (v : Str) : Str := Txt.replace (Txt.lower v) "," " "
def wds (v : Str) : List Str := Txt.split (repT v) " "
def okV (v : Str) : Bool := decide (v.length ≤ 5592405 ∧ (Txt.lower v).length + ((Txt.lower v).length + 1) * (" " : Str).length ≤ 16777216 ∧ (repT v).length + 2 ≤ 16777216 ∧ (wds v).length ≤ 100) && (okS (repT v) && (wds v).all okS)
theorem lrp_v {v : Str} (h : okV v = true) (m : M) : lrpD "," " " (.str v) m = .ok (.str (repT v)) m := by
  unfold okV at h
  rw [Bool.and_eq_true, Bool.and_eq_true, decide_eq_true_eq] at h
  obtain ⟨⟨h1, h2, h3, _⟩, h4, h5⟩ := h
  unfold lrpD strR
  dsimp only
  rw [if_pos ⟨h1, h2⟩]
  exact if_pos h4
theorem split_v {v : Str} (h : okV v = true) (m : M) : meD .split (.str (repT v)) [.str " "] m = .ok (.ref m.length) (m ++ [.lst ((wds v).map D.str)]) := by
  unfold okV at h
  rw [Bool.and_eq_true, Bool.and_eq_true, decide_eq_true_eq] at h
  obtain ⟨⟨h1, h2, h3, _⟩, h4, h5⟩ := h
  unfold meD
  dsimp only
  have sp : (" " : Str).length ≠ 0 := by decide +kernel
  rw [if_pos ⟨sp, by unfold line; exact h3, h5⟩]
  rfl
theorem wds_len {v : Str} (h : okV v = true) : (wds v).length ≤ 100 := by
  unfold okV at h
  rw [Bool.and_eq_true, decide_eq_true_eq] at h
  exact h.1.2.2.2
/-- value.lower().replace(",", " ").split(" ") -/
theorem wds_e {C : Mi.Cx} {σ : Sl} {m : M} {i : Nat} {v : Str} (hi : σ[i]? = some (some (.str v))) (h : okV v = true) : LD C (.me .split (.lrp (.var i) "," " ") (.cons (.cst (.str " ")) .nil)) σ m ((wds v).map D.str) := fun m' o => by
  refine ⟨m'.length, _, ?_, app_last _ _, Old.app _ _⟩
  have e1 : ev C (.lrp (.var i) "," " ") σ m' = .ok (.str (repT v)) m' := by
    rw [ev, ev_var_ hi, bind_ok]
    exact lrp_v h m'
  have rc : recvB (meTy .split) (.str (repT v)) m' = true := rfl
  rw [ev, e1, bind_ok, if_pos rc, evs, ev_cst_, bind_ok, evs, bind_ok, bind_ok]
  exact split_v h m'
def isC (p : Str × Str) : Bool := decide (p.1 = ("connection" : Str))
def conns (gs : List (Str × Str)) : List Str := (gs.filter isC).flatMap fun (p : Str × Str) => wds p.2
def notH (w : Str) : Bool := !decide (w = ("host" : Str))
def named (gs : List (Str × Str)) : List Str := (conns gs).filter notH
/-- what may come -/
structure GOk (gs : List (Str × Str)) : Prop where
  len : gs.length ≤ 100
  v : ∀ p ∈ gs, p.1 = "connection" → okV p.2 = true
  s : ∀ p ∈ gs, p.2.length ≤ 100
theorem GOk.conns {gs : List (Str × Str)} (h : ∀ p ∈ gs, p.1 = "connection" → okV p.2 = true) : (conns gs).length ≤ 100 * gs.length := by
  induction gs with
  | nil => simp [K49.conns]
  | cons p gs ih =>
    have ih := ih fun q hq => h q (List.mem_cons_of_mem _ hq)
    unfold K49.conns at ih ⊢
    by_cases c : p.1 = "connection"
    · rw [List.filter_cons_of_pos (by unfold isC; exact decide_eq_true c), List.flatMap_cons, List.length_append, List.length_cons]
      have := wds_len (h p (List.mem_cons_self ..) c)
      omega
    · rw [List.filter_cons_of_neg (by unfold isC; rw [decide_eq_false c]; decide), List.length_cons]
      omega
theorem conns_nil : conns [] = [] := by simp [conns]
theorem conns_snoc (gs : List (Str × Str)) (p : Str × Str) : conns (gs ++ [p]) = conns gs ++ if p.1 = "connection" then wds p.2 else [] := by
  have e : conns (gs ++ [p]) = conns gs ++ conns [p] := by
    unfold conns
    rw [List.filter_append, List.flatMap_append]
  rw [e]
  congr 1
  by_cases c : p.1 = "connection"
  · rw [if_pos c]
    simp [conns, isC, c]
  · rw [if_neg c]
    simp [conns, isC, c]
theorem pair_get {gs : List (Str × Str)} {pre : List D} {y : D} {post : List D} (h : gs.map gD = pre ++ y :: post) : ∃ p, gs[pre.length]? = some p ∧ y = gD p ∧ gs.take (pre.length + 1) = gs.take pre.length ++ [p] := by
  have := congrArg (fun l => l[pre.length]?) h
  simp only [List.getElem?_append_right (Nat.le_refl _), Nat.sub_self, List.getElem?_cons_zero, List.getElem?_map] at this
  cases w : gs[pre.length]? with
  | none => rw [w] at this; cases this
  | some a => rw [w] at this; exact ⟨a, rfl, (Option.some.inj this).symm, by rw [List.take_add_one, w]; rfl⟩
theorem named_k (k : Nat) (gs : List (Str × Str)) (h : GOk gs) (m : M) : ∃ (l : Nat) (m' : M), callF T FU CON (k + 1) 2 [.tup (gs.map gD)] m = .ok (.ref l) m' ∧ m'[l]? = some (.lst ((named gs).map D.str)) ∧ Old m m' := by
  rw [c_named_by_connection]
  let Post : Out → Prop := fun u => ∃ (l : Nat) (m' : M), u.fin = .ok (.ref l) m' ∧ m'[l]? = some (.lst ((named gs).map D.str)) ∧ Old m m'
  show Post _
  unfold b_named_by_connection
  refine wp_set (d := .ref m.length) (m1 := m ++ [.lst []]) (by simp only [evSs, evS, ev, evs, evL, evTs, evo, evI, evT, bind_ok, bind_bad, out_ok, out_bad, obind_nx, obind_rt, obind_bk, obind_ct, obind_bad, fin_nx, fin_rt, fin_bad, tru_bl, tru_non, tru_int, chD_bl, Mi.add_int, Mi.sub_int, Mi.lt_int, Mi.le_int, Mi.gt_int, Mi.ge_int, Mi.eq_int, Mi.ne_int, Mi.eq_bl, Mi.ne_bl, Mi.eq_str, Mi.ne_str, Mi.is_non, Mi.nis_non, Mi.is_bl, Mi.nis_bl, isn_non, isn_bl, isn_int, isn_str, isn_tup, isn_fl, isn_ref, Mi.bi_len, Mi.bi_abs, Mi.bi_int, Mi.bi_intb, Mi.bi_min, Mi.bi_max, Mi.len_str, Mi.len_tup, Mi.len_fl, isi_int, isi_bl, isi_str, isi_non, isi_tup, isi_fl, isTy, List.any_cons, List.any_nil, setT_nm, Mi.lstT_nm, Mi.lstT_tup, List.getElem?_cons_zero, List.getElem?_cons_succ, List.set_cons_zero, List.set_cons_succ, decide_eq_true_eq, Bool.or_false, Bool.or_true, Bool.false_or, Bool.true_or, Bool.not_true, Bool.not_false, Bool.false_eq_true, if_true, if_false, reduceIte, negD, optD, ne_eq, not_true_eq_false, not_false_eq_true, decide_true, decide_false]; rfl) rfl ?_
  simp only [List.set_cons_succ, List.set_cons_zero]
  refine wp_for (m1 := m ++ [Mi.O.lst []]) (fun pre σ m' => (∃ x2 x3, σ = [some (.tup (gs.map gD)), some (.ref m.length), x2, x3]) ∧ m'[m.length]? = some (.lst ((conns (gs.take pre.length)).map D.str)) ∧ Old m m') (evI_tup (ev_var_ rfl)) ⟨⟨_, _, rfl⟩, by rw [List.length_nil, List.take_zero, conns_nil]; exact app_last m _, Old.app _ _⟩ ?_ ?_
  · rintro pre y post σ m1 hy ⟨⟨x2, x3, rfl⟩, hl, o⟩
    obtain ⟨p, hp, rfl, tk⟩ := pair_get hy
    have hp' := List.mem_of_getElem? hp
    refine ⟨[some (.tup (gs.map gD)), some (.ref m.length), some (.str p.1), some (.str p.2)], rfl, ?_⟩
    unfold b_named_by_connection_f1
    by_cases c : p.1 = "connection"
    · refine Dr.wp_then (m1 := m1) (by unfold evT; simp only [evSs, evS, ev, evs, evL, evTs, evo, evI, evT, bind_ok, bind_bad, out_ok, out_bad, obind_nx, obind_rt, obind_bk, obind_ct, obind_bad, fin_nx, fin_rt, fin_bad, tru_bl, tru_non, tru_int, chD_bl, Mi.add_int, Mi.sub_int, Mi.lt_int, Mi.le_int, Mi.gt_int, Mi.ge_int, Mi.eq_int, Mi.ne_int, Mi.eq_bl, Mi.ne_bl, Mi.eq_str, Mi.ne_str, Mi.is_non, Mi.nis_non, Mi.is_bl, Mi.nis_bl, isn_non, isn_bl, isn_int, isn_str, isn_tup, isn_fl, isn_ref, Mi.bi_len, Mi.bi_abs, Mi.bi_int, Mi.bi_intb, Mi.bi_min, Mi.bi_max, Mi.len_str, Mi.len_tup, Mi.len_fl, isi_int, isi_bl, isi_str, isi_non, isi_tup, isi_fl, isTy, List.any_cons, List.any_nil, setT_nm, Mi.lstT_nm, Mi.lstT_tup, List.getElem?_cons_zero, List.getElem?_cons_succ, List.set_cons_zero, List.set_cons_succ, decide_eq_true_eq, Bool.or_false, Bool.or_true, Bool.false_or, Bool.true_or, Bool.not_true, Bool.not_false, Bool.false_eq_true, if_true, if_false, reduceIte, negD, optD, ne_eq, not_true_eq_false, not_false_eq_true, decide_true, decide_false, c]) ?_
      obtain ⟨l2, m2, e2, h2, o2⟩ := wds_e (C := cx k) (σ := [some (.tup (gs.map gD)), some (.ref m.length), some (.str p.1), some (.str p.2)]) (i := 3) rfl (h.v p hp' c) m1 (Old.refl _)
      have hl2 := o2.at_ _ _ hl
      have ext : meD .extend (.ref m.length) [.ref l2] m2 = .ok .non (m2.set m.length (.lst ((conns (gs.take pre.length)).map D.str ++ (wds p.2).map D.str))) := by
        have a1 := GOk.conns (gs := gs.take pre.length) fun q hq => h.v q (List.mem_of_mem_take hq)
        have a2 := wds_len (h.v p hp' c)
        have a3 : (gs.take pre.length).length ≤ 100 := by rw [List.length_take]; have := h.len; omega
        unfold meD Mi.one lstM
        simp only [hl2, h2]
        exact if_pos (by rw [List.length_map, List.length_map]; unfold line; omega)
      have rc : recvB (meTy .extend) (.ref m.length) m1 = true := by
        simp only [recvB, hl]
        rfl
      refine wp_exp (d := .non) (m1 := m2.set m.length (.lst ((conns (gs.take pre.length)).map D.str ++ (wds p.2).map D.str))) ?_ ?_
      · rw [ev, ev_var_ (x := .ref m.length) rfl, bind_ok, if_pos rc, evs, e2, bind_ok, evs, bind_ok, bind_ok]
        exact ext
      · refine bd_nil (nc_nil ⟨⟨_, _, rfl⟩, ?_, (o.trans o2).setNew (Nat.le_refl _) _⟩)
        rw [List.getElem?_set_self (List.getElem?_eq_some_iff.mp hl2).1, List.length_append, List.length_singleton, tk, conns_snoc, if_pos c, List.map_append]
    · refine Dr.wp_no (m1 := m1) (by unfold evT; simp only [evSs, evS, ev, evs, evL, evTs, evo, evI, evT, bind_ok, bind_bad, out_ok, out_bad, obind_nx, obind_rt, obind_bk, obind_ct, obind_bad, fin_nx, fin_rt, fin_bad, tru_bl, tru_non, tru_int, chD_bl, Mi.add_int, Mi.sub_int, Mi.lt_int, Mi.le_int, Mi.gt_int, Mi.ge_int, Mi.eq_int, Mi.ne_int, Mi.eq_bl, Mi.ne_bl, Mi.eq_str, Mi.ne_str, Mi.is_non, Mi.nis_non, Mi.is_bl, Mi.nis_bl, isn_non, isn_bl, isn_int, isn_str, isn_tup, isn_fl, isn_ref, Mi.bi_len, Mi.bi_abs, Mi.bi_int, Mi.bi_intb, Mi.bi_min, Mi.bi_max, Mi.len_str, Mi.len_tup, Mi.len_fl, isi_int, isi_bl, isi_str, isi_non, isi_tup, isi_fl, isTy, List.any_cons, List.any_nil, setT_nm, Mi.lstT_nm, Mi.lstT_tup, List.getElem?_cons_zero, List.getElem?_cons_succ, List.set_cons_zero, List.set_cons_succ, decide_eq_true_eq, Bool.or_false, Bool.or_true, Bool.false_or, Bool.true_or, Bool.not_true, Bool.not_false, Bool.false_eq_true, if_true, if_false, reduceIte, negD, optD, ne_eq, not_true_eq_false, not_false_eq_true, decide_true, decide_false, c]) ?_
      refine nc_nil ⟨⟨_, _, rfl⟩, ?_, o⟩
      rw [List.length_append, List.length_singleton, tk, conns_snoc, if_neg c, List.append_nil]
      exact hl
  rintro σ m1 ⟨⟨x2, x3, rfl⟩, hl, o⟩
  rw [List.length_map, List.take_of_length_le (Nat.le_refl _)] at hl
  refine wp_retLD (LD.lcFh (g := D.str) (q := D.str) (p := notH) (i := 1) rfl hl fun m' o' w hw => ⟨_, rfl, ?_, fun _ => ?_⟩) fun l m' h1 o1 => ⟨l, m', rfl, h1, o.trans o1⟩
  · refine evT_of ?_
    rw [ev_cmp_ (ev_var_ rfl) ev_cst_, Mi.ne_str]
    congr 2
    unfold notH
    exact decide_not
  · unfold b_named_by_connection_e1
    exact ev_var_ rfl
end
end K49

set_option linter.all false
set_option autoImplicit false
set_option Elab.async false
set_option maxRecDepth 100000
set_option maxHeartbeats 1000000
/-! K49b: the headers that go on, by the program. -/
namespace K49
noncomputable section
open PySem L2 Mi G49 Dr TL K07
theorem and_p {C : Mi.Cx} {a b : E} {σ : Sl} {m : M} {p q : Bool} (ha : ev C a σ m = .ok (.bl p) m) (hb : p = true → ev C b σ m = .ok (.bl q) m) : ev C (.and a b) σ m = .ok (.bl (p && q)) m := by
  cases p with
  | false => rw [ev, ha, bind_ok]; rfl
  | true =>
    rw [ev, ha, bind_ok]
    show (R.bind (R.ok true m) fun k m2 => if k = true then ev C b σ m2 else R.ok (D.bl true) m2) = _
    rw [bind_ok, if_pos rfl, hb rfl]
    rfl
theorem eqs_p {C : Mi.Cx} {a b : E} {σ : Sl} {m : M} {x y : Str} (ha : ev C a σ m = .ok (.str x) m) (hb : ev C b σ m = .ok (.str y) m) : ev C (.cmp .eq a b) σ m = .ok (.bl (decide (x = y))) m := by
  rw [ev_cmp_ ha hb, Mi.eq_str]
theorem nes_p {C : Mi.Cx} {a b : E} {σ : Sl} {m : M} {x y : Str} (ha : ev C a σ m = .ok (.str x) m) (hb : ev C b σ m = .ok (.str y) m) : ev C (.cmp .ne a b) σ m = .ok (.bl (!decide (x = y))) m := by
  rw [ev_cmp_ ha hb, Mi.ne_str]
  congr 2
  exact decide_not
theorem ix_p {C : Mi.Cx} {i : Nat} {c : Int} {σ : Sl} {m : M} {x d : D} (h : σ[i]? = some (some x)) (hd : ixD x (.int c) m = .ok d m) : ev C (.ix (.var i) (.cst (.int c))) σ m = .ok d m := by
  rw [ev_ix_ (ev_var_ h) ev_cst_]
  exact hd
/-! ### the rows of a side -/
def sdB (s : Str) (r : HR) : Bool := !r.isF && decide (r.at1 = s)
def stB (s : Str) (r : HR) : Bool := r.isS && decide (r.at1 = s)
theorem nf_kd (r : HR) : (!decide (r.kd = "from")) = !r.isF := by rw [kd_from]
def shutR (s : Str) (rs : List HR) (gs : List (Str × Str)) : List Str := [("connection" : Str)] ++ named gs ++ (rs.filter (sdB s)).map HR.at2
theorem shut_k (k : Nat) (rs : List HR) (s : Str) (gs : List (Str × Str)) (h : GOk gs) (hr : rs.length ≤ 100) (m : M) : ∃ (l : Nat) (m' : M), callF T FU CON (k + 2) 3 [.tup (rs.map hrD), .str s, .tup (gs.map gD)] m = .ok (.ref l) m' ∧ m'[l]? = some (.lst ((shutR s rs gs).map D.str)) ∧ Old m m' := by
  rw [c_shut_names]
  let Post : Out → Prop := fun u => ∃ (l : Nat) (m' : M), u.fin = .ok (.ref l) m' ∧ m'[l]? = some (.lst ((shutR s rs gs).map D.str)) ∧ Old m m'
  show Post _
  unfold b_shut_names
  refine wp_LD (LD.lcF (g := hrD) (p := sdB s) (q := fun r => .str r.at2) (xs := rs) (fun m' o => evI_tup (ev_var_ rfl)) fun m' o r hr => ⟨_, rfl, ?_, fun hp => ?_⟩) fun l m1 h1 o1 => ?_
  · refine evT_of ?_
    have e1 := nes_p (C := cx (k + 1)) (σ := [some (.tup (rs.map hrD)), some (.str s), some (.tup (gs.map gD)), none, some (hrD r)]) (m := m') (ix_p (i := 4) rfl (ix0 r m')) (ev_cst_ (d := .str "from"))
    rw [kd_from] at e1
    exact and_p e1 fun _ => eqs_p (ix_p (i := 4) rfl (ix1 r m')) (ev_var_ rfl)
  · unfold sdB at hp
    rw [Bool.and_eq_true] at hp
    unfold b_shut_names_e1
    exact ix_p (i := 4) rfl (ix2 r (by cases q : r.isF <;> simp_all) m')
  · simp only [List.set_cons_succ, List.set_cons_zero]
    have cl := GOk.conns h.v
    have hl := h.len
    have fl : (named gs).length ≤ (conns gs).length := List.length_filter_le _ _
    have fr : (rs.filter (sdB s)).length ≤ rs.length := List.length_filter_le _ _
    refine wp_retLD (LD.add (LD.add (LD.lst (xs := [.str "connection"]) (EVs.cons EV.cst EVs.nil)) (LD.fn (xs := (named gs).map D.str) (EVs.cons (EV.var rfl) EVs.nil) fun m' o => named_k k gs h m') (by rw [List.length_map, List.length_singleton]; omega)) (LD.var rfl h1) ?_) fun l2 m2 h2 o2 => ⟨l2, m2, rfl, ?_, o1.trans o2⟩
    · rw [List.length_append, List.length_map, List.length_map, List.length_singleton]
      omega
    · rw [h2]
      unfold shutR
      rw [List.map_append, List.map_append, List.map_map]
      rfl
def setH (s : Str) (rs : List HR) : List (Str × Str) := (rs.filter (stB s)).map fun r => (r.at2, r.at3)
theorem set_k (k : Nat) (rs : List HR) (s : Str) (m : M) : ∃ (l : Nat) (m' : M), callF T FU CON (k + 1) 4 [.tup (rs.map hrD), .str s] m = .ok (.ref l) m' ∧ m'[l]? = some (.lst ((setH s rs).map gD)) ∧ Old m m' := by
  rw [c_set_headers]
  let Post : Out → Prop := fun u => ∃ (l : Nat) (m' : M), u.fin = .ok (.ref l) m' ∧ m'[l]? = some (.lst ((setH s rs).map gD)) ∧ Old m m'
  show Post _
  unfold b_set_headers
  refine wp_retLD (LD.lcF (g := hrD) (p := stB s) (q := fun r => gD (r.at2, r.at3)) (xs := rs) (fun m' o => evI_tup (ev_var_ rfl)) fun m' o r hr => ⟨_, rfl, ?_, fun hp => ?_⟩) fun l m1 h1 o1 => ⟨l, m1, rfl, ?_, o1⟩
  · refine evT_of ?_
    have e1 := eqs_p (C := cx k) (σ := [some (.tup (rs.map hrD)), some (.str s), some (hrD r)]) (m := m') (ix_p (i := 2) rfl (ix0 r m')) (ev_cst_ (d := .str "set"))
    rw [kd_set] at e1
    exact and_p e1 fun _ => eqs_p (ix_p (i := 2) rfl (ix1 r m')) (ev_var_ rfl)
  · unfold stB at hp
    rw [Bool.and_eq_true] at hp
    unfold b_set_headers_e1
    have nf : r.isF = false := by
      cases r with
      | set => rfl
      | hide => cases hp.1
      | frm => cases hp.1
    exact ev_tup (evs_c (ix_p (i := 2) rfl (ix2 r nf m')) (evs_c (ix_p (i := 2) rfl (ix3 r hp.1 m')) evs_n))
  · rw [h1]
    unfold setH
    rw [List.map_map]
    rfl
/-! ### trusted -/
def tD (p : Int × Int) : D := .tup [.int p.1, .int p.2]
def trB (ts : List (Int × Int)) (a : Int) : Bool := ts.any fun p => decide (p.1 ≤ a) && decide (a ≤ p.2)
theorem ch_p {C : Mi.Cx} {a b c : E} {σ : Sl} {m : M} {x y z : Int} (ha : ev C a σ m = .ok (.int x) m) (hb : ev C b σ m = .ok (.int y) m) (hc : ev C c σ m = .ok (.int z) m) : ev C (.ch2 .le .le a b c) σ m = .ok (.bl (decide (x ≤ y) && decide (y ≤ z))) m := by
  rw [ev, ha, bind_ok, hb, bind_ok]
  by_cases q : x ≤ y
  · have e : cmpD .le (.int x) (.int y) m = .ok (.bl true) m := by rw [Mi.le_int, decide_eq_true q]
    rw [e, bind_ok]
    show (ev C c σ m).bind _ = _
    rw [hc, bind_ok, Mi.le_int, decide_eq_true q]
    rfl
  · have e : cmpD .le (.int x) (.int y) m = .ok (.bl false) m := by rw [Mi.le_int, decide_eq_false q]
    rw [e, bind_ok, decide_eq_false q]
    rfl
/-- any([low <= a <= high for low, high in ts]) -/
theorem any_e {C : Mi.Cx} {it : Mi.It} {σ : Sl} {m : M} {i j c : Nat} {ts : List (Int × Int)} {a : Int} (h1 : evI C it σ m = .ok (.free (ts.map tD)) m) (hc : σ[c]? = some (some (.int a))) (hij : i ≠ j) (hci : c ≠ i) (hcj : c ≠ j) (hi : i < σ.length) (hj : j < σ.length) :
    ev C (.bt .any (.lc [i, j] (.tp [i, j]) it .nil (.ch2 .le .le (.var i) (.var c) (.var j)))) σ m = .ok (.bl (trB ts a)) m := by
  refine ev_any (run_lcL (g := tD) (q := fun p => .bl (decide (p.1 ≤ a) && decide (a ≤ p.2))) (xs := ts) h1 fun p hp => ⟨_, rfl, ?_⟩)
  have n : ∀ s : Sl, s.length = σ.length → s[c]? = some (some (.int a)) → ∀ x y : Option D, ((s.set i x).set j y)[c]? = some (some (.int a)) := fun s hs e x y => by
    rw [List.getElem?_set_ne (Ne.symm hcj), List.getElem?_set_ne (Ne.symm hci)]
    exact e
  refine ch_p (ev_var_ ?_) (ev_var_ ?_) (ev_var_ ?_)
  · show (((wipeM σ [i, j]).set i _).set j _)[i]? = _
    rw [List.getElem?_set_ne (Ne.symm hij), List.getElem?_set_self (by simp only [wipeM, List.length_set]; exact hi)]
  · show (((wipeM σ [i, j]).set i _).set j _)[c]? = _
    rw [List.getElem?_set_ne (Ne.symm hcj), List.getElem?_set_ne (Ne.symm hci)]
    simp only [wipeM]
    rw [List.getElem?_set_ne (Ne.symm hci), List.getElem?_set_ne (Ne.symm hcj)]
    exact hc
  · show (((wipeM σ [i, j]).set i _).set j _)[j]? = _
    rw [List.getElem?_set_self (by simp only [wipeM, List.length_set]; exact hj)]
theorem tr_k (k : Nat) (ts : List (Int × Int)) (a : Int) (m : M) : callF T FU CON (k + 1) 1 [.tup (ts.map tD), .int a] m = .ok (.bl (trB ts a)) m := by
  rw [c_is_trusted]
  let Post : Out → Prop := fun u => u.fin = .ok (.bl (trB ts a)) m
  show Post _
  unfold b_is_trusted
  refine wp_ret (d := .bl (trB ts a)) (m1 := m) ?_ rfl
  unfold b_is_trusted_e1
  exact any_e (evI_tup (ev_var_ rfl)) rfl (by decide) (by decide) (by decide) (Nat.le_of_ble_eq_true rfl) (Nat.le_of_ble_eq_true rfl)
theorem show_k (k : Nat) (a : Int) (m : M) : ∃ m', callF T FU CON (k + 1) 0 [.int a] m = .ok (.str (dotT a)) m' ∧ Old m m' := by
  rw [c_show_address]
  let Post : Out → Prop := fun u => ∃ m', u.fin = .ok (.str (dotT a)) m' ∧ Old m m'
  show Post _
  unfold b_show_address
  have pw : ∀ m : M, binD .pow (.int 2) (.int 24) m = .ok (.int 16777216) m := fun m => Mi.pow_int 2 24 m ⟨by decide, by decide, sm _ (by decide)⟩
  refine wp_retEV (dot_e (i := 1) (fun m' o => evI_tup (by simp only [evSs, evS, ev, evs, evL, evTs, evo, evI, evT, bind_ok, bind_bad, out_ok, out_bad, obind_nx, obind_rt, obind_bk, obind_ct, obind_bad, fin_nx, fin_rt, fin_bad, tru_bl, tru_non, tru_int, chD_bl, Mi.add_int, Mi.sub_int, Mi.lt_int, Mi.le_int, Mi.gt_int, Mi.ge_int, Mi.eq_int, Mi.ne_int, Mi.eq_bl, Mi.ne_bl, Mi.eq_str, Mi.ne_str, Mi.is_non, Mi.nis_non, Mi.is_bl, Mi.nis_bl, isn_non, isn_bl, isn_int, isn_str, isn_tup, isn_fl, isn_ref, Mi.bi_len, Mi.bi_abs, Mi.bi_int, Mi.bi_intb, Mi.bi_min, Mi.bi_max, Mi.len_str, Mi.len_tup, Mi.len_fl, isi_int, isi_bl, isi_str, isi_non, isi_tup, isi_fl, isTy, List.any_cons, List.any_nil, setT_nm, Mi.lstT_nm, Mi.lstT_tup, List.getElem?_cons_zero, List.getElem?_cons_succ, List.set_cons_zero, List.set_cons_succ, decide_eq_true_eq, Bool.or_false, Bool.or_true, Bool.false_or, Bool.true_or, Bool.not_true, Bool.not_false, Bool.false_eq_true, if_true, if_false, reduceIte, negD, optD, ne_eq, not_true_eq_false, not_false_eq_true, decide_true, decide_false, pw]; rfl)) fun z hz => ⟨_, rfl, EV.pure fun m' => ?_⟩) fun m1 o1 => ⟨m1, rfl, o1⟩
  have zb : 0 < z ∧ z < 100000000 := by
    simp only [four, List.mem_cons, List.not_mem_nil, or_false] at hz
    omega
  have sz := str_small (a / z % 256) m' (by omega)
  unfold b_show_address_e1
  simp only [wipeM, List.set_cons_succ, List.set_cons_zero, evSs, evS, ev, evs, evL, evTs, evo, evI, evT, bind_ok, bind_bad, out_ok, out_bad, obind_nx, obind_rt, obind_bk, obind_ct, obind_bad, fin_nx, fin_rt, fin_bad, tru_bl, tru_non, tru_int, chD_bl, Mi.add_int, Mi.sub_int, Mi.lt_int, Mi.le_int, Mi.gt_int, Mi.ge_int, Mi.eq_int, Mi.ne_int, Mi.eq_bl, Mi.ne_bl, Mi.eq_str, Mi.ne_str, Mi.is_non, Mi.nis_non, Mi.is_bl, Mi.nis_bl, isn_non, isn_bl, isn_int, isn_str, isn_tup, isn_fl, isn_ref, Mi.bi_len, Mi.bi_abs, Mi.bi_int, Mi.bi_intb, Mi.bi_min, Mi.bi_max, Mi.len_str, Mi.len_tup, Mi.len_fl, isi_int, isi_bl, isi_str, isi_non, isi_tup, isi_fl, isTy, List.any_cons, List.any_nil, setT_nm, Mi.lstT_nm, Mi.lstT_tup, List.getElem?_cons_zero, List.getElem?_cons_succ, List.set_cons_zero, List.set_cons_succ, decide_eq_true_eq, Bool.or_false, Bool.or_true, Bool.false_or, Bool.true_or, Bool.not_true, Bool.not_false, Bool.false_eq_true, if_true, if_false, reduceIte, negD, optD, ne_eq, not_true_eq_false, not_false_eq_true, decide_true, decide_false, Mi.fdiv_int _ z _ (by omega), Mi.mod_int _ 256 _ (by decide), sz]
end
end K49

set_option linter.all false
set_option autoImplicit false
set_option Elab.async false
set_option maxRecDepth 100000
set_option maxHeartbeats 1000000
/-! K49c: inside_headers and outside_headers. -/
namespace K49
noncomputable section
open PySem L2 Mi G49 Dr TL K07
theorem cut1 (xs : List D) : cutD xs none (some 1) = xs.take 1 := by
  cases xs with
  | nil => simp [cutD]
  | cons x xs => exact cutDL (x :: xs) 1 (by simp)
theorem LD.sl1 {C : Mi.Cx} {e : E} {σ : Sl} {m : M} {xs : List D} (h : LD C e σ m xs) : LD C (.sl e .no (.so (.cst (.int 1)))) σ m (xs.take 1) := fun m' o => by
  obtain ⟨l, m1, e1, h1, o1⟩ := h m' o
  refine ⟨m1.length, m1 ++ [.lst (xs.take 1)], ?_, app_last _ _, o1.trans (Old.app _ _)⟩
  have s : slD (.ref l) none (some 1) m1 = .ok (.ref m1.length) (m1 ++ [.lst (xs.take 1)]) := by
    unfold slD
    simp only [h1]
    rw [cut1]
    rfl
  rw [ev, e1, bind_ok]
  show ((evo C .no σ m1).bind fun l2 m2 => (evo C (.so (.cst (.int 1))) σ m2).bind fun h m3 => slD (.ref l) l2 h m3) = _
  rw [evo, bind_ok, evo, ev_cst_, bind_ok]
  show (R.ok (some 1) m1).bind _ = _
  rw [bind_ok]
  exact s
theorem mapO_s (n : Nat) (m : M) : ∀ ys : List Str, mapO (toPy (n + 1) m) (ys.map D.str) = some (ys.map PyData.str)
  | [] => rfl
  | y :: ys => by
    rw [List.map_cons]
    unfold mapO
    rw [show toPy (n + 1) m (.str y) = some (.str y) from rfl, mapO_s n m ys]
    rfl
theorem ne_nil_l {ys : List Str} {l l2 : Nat} {m : M} (h : m[l]? = some (.lst (ys.map D.str))) (h2 : m[l2]? = some (.lst [])) : cmpD .ne (.ref l) (.ref l2) m = .ok (.bl (!ys.isEmpty)) m := by
  have e1 : toPy 60 m (.ref l) = some (.list (ys.map PyData.str)) := by
    unfold toPy
    simp only [h]
    rw [mapO_s 58 m ys]
    rfl
  have e2 : toPy 60 m (.ref l2) = some (.list []) := by
    unfold toPy
    simp only [h2]
    rfl
  rw [ne_of_py m _ _ _ _ e1 e2]
  cases ys with
  | nil => rfl
  | cons y ys => rfl
def firsts (gs : List (Str × Str)) (n : Str) : List Str := ((gs.filter fun (p : Str × Str) => decide (p.1 = n)).map fun (p : Str × Str) => p.2).take 1
def comma : Str := ", "
def fromV (ts : List (Int × Int)) (c : Int) (gs : List (Str × Str)) (n : Str) : Str := if ((!(firsts gs n).isEmpty) && trB ts c) = true then (firsts gs n).headD comma ++ comma ++ dotT c else dotT c
theorem adds_p {C : Mi.Cx} {a b : E} {σ : Sl} {m : M} {x y : Str} (ha : EV C a σ m (.str x)) (hb : EV C b σ m (.str y)) (h : x.length + y.length ≤ 16777216) : EV C (.bin .add a b) σ m (.str (x ++ y)) := EV.bin (fun m' => by
  show (if x.length + y.length ≤ line then R.ok (D.str (x ++ y)) m' else .bad) = _
  exact if_pos (by unfold line; exact h)) ha hb
theorem len_app (x y : Str) : (x ++ y).length = x.length + y.length := by
  cases x with
  | mk a => cases y with
    | mk b => show (a ++ b).size = a.size + b.size; simp
theorem comma_len : comma.length = 2 := by decide +kernel
theorem firsts_len {gs : List (Str × Str)} (h : GOk gs) (n : Str) : ∀ v ∈ firsts gs n, v.length ≤ 100 := fun v hv => by
  unfold firsts at hv
  obtain ⟨p, hp, rfl⟩ := List.mem_map.mp (List.mem_of_mem_take hv)
  exact h.s p (List.mem_filter.mp hp).1
theorem pair_e {gs : List (Str × Str)} {C : Mi.Cx} {σ : Sl} {m : M} {it : Mi.It} {i j b : Nat} {n : Str} (h1 : ∀ m', Old m m' → evI C it σ m' = .ok (.free (gs.map gD)) m') (hb : σ[b]? = some (some (.str n))) (hij : i ≠ j) (hbi : b ≠ i) (hbj : b ≠ j) (hi : i < σ.length) (hj : j < σ.length) :
    LD C (.lc [i, j] (.tp [i, j]) it (.cons (.cmp .eq (.var i) (.var b)) .nil) (.var j)) σ m (((gs.filter fun (p : Str × Str) => decide (p.1 = n)).map fun (p : Str × Str) => p.2).map D.str) := by
  rw [List.map_map]
  refine LD.lcF (g := gD) (p := fun (p : Str × Str) => decide (p.1 = n)) (q := fun p => .str p.2) (xs := gs) h1 fun m' o p hp => ⟨_, rfl, ?_, fun _ => ?_⟩
  · refine evT_of (eqs_p (ev_var_ ?_) (ev_var_ ?_))
    · show (((wipeM σ [i, j]).set i _).set j _)[i]? = _
      rw [List.getElem?_set_ne (Ne.symm hij), List.getElem?_set_self (by simp only [wipeM, List.length_set]; exact hi)]
    · show (((wipeM σ [i, j]).set i _).set j _)[b]? = _
      rw [List.getElem?_set_ne (Ne.symm hbj), List.getElem?_set_ne (Ne.symm hbi)]
      simp only [wipeM]
      rw [List.getElem?_set_ne (Ne.symm hbi), List.getElem?_set_ne (Ne.symm hbj)]
      exact hb
  · refine ev_var_ ?_
    show (((wipeM σ [i, j]).set i _).set j _)[j]? = _
    rw [List.getElem?_set_self (by simp only [wipeM, List.length_set]; exact hj)]
/-- first[0] + ", " + own if first != [] and is_trusted -/
theorem fv_e {C : Mi.Cx} {σ : Sl} {m : M} {i j l : Nat} {t : E} {gs : List (Str × Str)} {ts : List (Int × Int)} {c : Int} {n : Str} (h : GOk gs) (hi : σ[i]? = some (some (.ref l))) (hl : m[l]? = some (.lst ((firsts gs n).map D.str))) (hj : σ[j]? = some (some (.str (dotT c)))) (ht : EV C t σ m (.bl (trB ts c))) :
    EV C (.and (.cmp .ne (.var i) (.lst .nil)) t) σ m (.bl ((!(firsts gs n).isEmpty) && trB ts c)) ∧ (((!(firsts gs n).isEmpty) && trB ts c) = true → EV C (.bin .add (.bin .add (.ix (.var i) (.cst (.int 0))) (.cst (.str ", "))) (.var j)) σ m (.str ((firsts gs n).headD comma ++ comma ++ dotT c))) := by
  constructor
  · refine EV.and (fun m' o => ?_) fun _ => ht
    obtain ⟨l2, m2, e2, h2, o2⟩ := LD.lst (C := C) (σ := σ) (m := m) EVs.nil m' o
    exact ⟨m2, by rw [ev_cmp_ (ev_var_ hi) e2]; exact ne_nil_l (o2.at_ _ _ (o.at_ _ _ hl)) h2, o2⟩
  · intro hp
    rw [Bool.and_eq_true] at hp
    cases hf : firsts gs n with
    | nil => rw [hf] at hp; exact absurd hp.1 (by decide)
    | cons v vs =>
      have vl := firsts_len h n v (by rw [hf]; exact List.mem_cons_self ..)
      have dl := (dotT_ok c).2
      have cl := comma_len
      show EV C _ σ m (.str (v ++ comma ++ dotT c))
      refine adds_p (adds_p (fun m' o => ⟨m', ?_, Old.refl _⟩) EV.cst (show v.length + comma.length ≤ 16777216 by omega)) (EV.var hj) (by rw [len_app]; omega)
      refine ix_p hi (ix_ref l _ 0 _ m' (o.at_ _ _ hl) ?_)
      rw [hf, List.map_cons]
      exact Mi.at_0 _ _
theorem from_k (k : Nat) (ts : List (Int × Int)) (c : Int) (gs : List (Str × Str)) (n : Str) (h : GOk gs) (m : M) : ∃ m', callF T FU CON (k + 2) 5 [.str n, .tup (ts.map tD), .int c, .tup (gs.map gD)] m = .ok (.str (fromV ts c gs n)) m' ∧ Old m m' := by
  rw [c_from_value]
  let Post : Out → Prop := fun u => ∃ m', u.fin = .ok (.str (fromV ts c gs n)) m' ∧ Old m m'
  show Post _
  unfold b_from_value
  refine wp_LD (LD.sl1 (pair_e (gs := gs) (n := n) (fun m' o => evI_tup (ev_var_ rfl)) rfl (by decide) (by decide) (by decide) (Nat.le_of_ble_eq_true rfl) (Nat.le_of_ble_eq_true rfl))) fun l m1 h1 o1 => ?_
  simp only [List.set_cons_succ, List.set_cons_zero]
  rw [← List.map_take] at h1
  refine wp_EV (EV.fn (d := .str (dotT c)) (EVs.cons (EV.var rfl) EVs.nil) fun m' o => show_k k c m') fun m2 o2 => ?_
  simp only [List.set_cons_succ, List.set_cons_zero]
  have h2 := o2.at_ _ _ h1
  obtain ⟨f1, f2⟩ := fv_e (C := cx (k + 1)) (σ := [some (.str n), some (.tup (ts.map tD)), some (.int c), some (.tup (gs.map gD)), some (.ref l), some (.str (dotT c)), none, none]) (i := 4) (j := 5) (t := .fn "is_trusted" 1 (.cons (.var 1) (.cons (.var 2) .nil))) (ts := ts) (c := c) h rfl h2 rfl (EV.fn (EVs.cons (EV.var rfl) (EVs.cons (EV.var rfl) EVs.nil)) fun m' o => ⟨m', tr_k k ts c m', Old.refl _⟩)
  refine wp_retEV (d := .str (fromV ts c gs n)) (EV.ife f1 (fun hp => ?_) fun hp => ?_) fun m3 o3 => ⟨m3, rfl, (o1.trans o2).trans o3⟩
  · unfold fromV
    rw [if_pos hp]
    exact f2 hp
  · unfold fromV
    rw [if_neg (by rw [hp]; decide)]
    exact EV.var rfl
/-! ### whole -/
def tellers (rs : List HR) : List Str := (rs.filter HR.isF).map HR.at1
def reqT : Str := "request"
def nmT (a b : Int) : Str := sI a ++ "." ++ sI b
def insR (rs : List HR) (ts : List (Int × Int)) (c a b : Int) (gs : List (Str × Str)) : List (Str × Str) :=
  (gs.filter fun (p : Str × Str) => !decide (p.1 ∈ shutR reqT rs gs ++ tellers rs ++ [reqT])) ++ setH reqT rs ++ (tellers rs).map (fun n => (n, fromV ts c gs n)) ++ [(reqT, nmT a b)]
def ansT : Str := "answer"
def outR (rs : List HR) (gs : List (Str × Str)) : List (Str × Str) := (gs.filter fun (p : Str × Str) => !decide (p.1 ∈ shutR ansT rs gs)) ++ setH ansT rs
theorem shutR_len {s : Str} {rs : List HR} {gs : List (Str × Str)} (h : GOk gs) (hr : rs.length ≤ 100) : (shutR s rs gs).length ≤ 20000 := by
  have cl := GOk.conns h.v
  have hl := h.len
  have fl : (named gs).length ≤ (conns gs).length := List.length_filter_le _ _
  have fr : (rs.filter (sdB s)).length ≤ rs.length := List.length_filter_le _ _
  unfold shutR
  rw [List.length_append, List.length_append, List.length_map, List.length_singleton]
  omega
theorem nmT_e {C : Mi.Cx} {σ : Sl} {m : M} {i : Nat} {a b : Int} (hi : σ[i]? = some (some (.tup [.int a, .int b]))) (ha : 0 ≤ a ∧ a < 1000000) (hb : 0 ≤ b ∧ b < 1000000) :
    EV C (.bin .add (.bin .add (.bi .str (.cons (.ix (.var i) (.cst (.int 0))) .nil)) (.cst (.str "."))) (.bi .str (.cons (.ix (.var i) (.cst (.int 1))) .nil))) σ m (.str (nmT a b)) := by
  have l1 : (sI a).length ≤ 100 := int_len (by omega)
  have l2 : (sI b).length ≤ 100 := int_len (by omega)
  have dl : (".": Str).length = 1 := by decide +kernel
  refine adds_p (adds_p (EV.pure fun m' => ?_) EV.cst (by omega)) (EV.pure fun m' => ?_) (by rw [len_app]; omega)
  · rw [ev_bi_ (ix_p hi (Mi.ix_tup _ _ _ _ (Mi.at_0 _ _)))]
    exact str_small a m' ha
  · rw [ev_bi_ (ix_p hi (Mi.ix_tup _ _ _ _ (Mi.at_1 _ _ _)))]
    exact str_small b m' hb
theorem inside_k (k : Nat) (rs : List HR) (ts : List (Int × Int)) (c a b : Int) (gs : List (Str × Str)) (h : GOk gs) (hr : rs.length ≤ 100) (ha : 0 ≤ a ∧ a < 1000000) (hb : 0 ≤ b ∧ b < 1000000) (m : M) :
    ∃ m', callF T FU CON (k + 3) 6 [.tup (rs.map hrD), .tup (ts.map tD), .int c, .tup [.int a, .int b], .tup (gs.map gD)] m = .ok (.tup ((insR rs ts c a b gs).map gD)) m' ∧ Old m m' := by
  rw [c_inside_headers]
  let Post : Out → Prop := fun u => ∃ m', u.fin = .ok (.tup ((insR rs ts c a b gs).map gD)) m' ∧ Old m m'
  show Post _
  have tl : (tellers rs).length ≤ rs.length := by unfold tellers; rw [List.length_map]; exact List.length_filter_le _ _
  have sl := shutR_len (s := reqT) h hr
  have stl : (setH reqT rs).length ≤ rs.length := by unfold setH; rw [List.length_map]; exact List.length_filter_le _ _
  have gl := h.len
  unfold b_inside_headers
  refine wp_LD (xs := (tellers rs).map D.str) ?_ fun l m1 h1 o1 => ?_
  · unfold tellers
    rw [List.map_map]
    refine LD.lcF (g := hrD) (p := HR.isF) (q := fun r => .str r.at1) (xs := rs) (fun m' o => evI_tup (ev_var_ rfl)) fun m' o r hr => ⟨_, rfl, ?_, fun hp => ?_⟩
    · refine evT_of ?_
      rw [← kd_from]
      exact eqs_p (ix_p (i := 8) rfl (ix0 r m')) ev_cst_
    · unfold b_inside_headers_e1
      exact ix_p (i := 8) rfl (ix1 r m')
  simp only [List.set_cons_succ, List.set_cons_zero]
  refine wp_LD (xs := (shutR reqT rs gs ++ tellers rs ++ [reqT]).map D.str) ?_ fun l2 m2 h2 o2 => ?_
  · rw [List.map_append, List.map_append]
    exact LD.add (LD.add (LD.fn (EVs.cons (EV.var rfl) (EVs.cons EV.cst (EVs.cons (EV.var rfl) EVs.nil))) fun m' o => shut_k k rs reqT gs h hr m') (LD.var rfl h1) (by rw [List.length_map, List.length_map]; omega)) (LD.lst (EVs.cons EV.cst EVs.nil)) (by rw [List.length_append, List.length_map, List.length_map, List.length_map, List.length_singleton]; omega)
  simp only [List.set_cons_succ, List.set_cons_zero]
  have h1' := o2.at_ _ _ h1
  have kl : ∀ ys : List Str, (gs.filter fun (p : Str × Str) => !decide (p.1 ∈ ys)).length ≤ gs.length := fun ys => List.length_filter_le _ _
  have kl := kl (shutR reqT rs gs ++ tellers rs ++ [reqT])
  refine wp_LD (xs := ((gs.filter fun (p : Str × Str) => !decide (p.1 ∈ shutR reqT rs gs ++ tellers rs ++ [reqT])) ++ setH reqT rs).map gD) ?_ fun l3 m3 h3 o3 => ?_
  · rw [List.map_append]
    unfold b_inside_headers_e2
    exact LD.add (kept_e (gs := gs) rfl rfl h2 (Nat.le_of_ble_eq_true rfl) (by decide)) (LD.fn (EVs.cons (EV.var rfl) (EVs.cons EV.cst EVs.nil)) fun m' o => set_k (k + 1) rs reqT m') (by rw [List.length_map, List.length_map]; omega)
  simp only [List.set_cons_succ, List.set_cons_zero]
  have h1'' := o3.at_ _ _ h1'
  refine wp_LD (xs := ((gs.filter fun (p : Str × Str) => !decide (p.1 ∈ shutR reqT rs gs ++ tellers rs ++ [reqT])) ++ setH reqT rs ++ (tellers rs).map (fun n => (n, fromV ts c gs n))).map gD) ?_ fun l4 m4 h4 o4 => ?_
  · rw [List.map_append (l₁ := _ ++ setH reqT rs), List.map_map (l := tellers rs)]
    refine LD.add (LD.var rfl h3) (LD.lcOh (g := D.str) (q := fun n => gD (n, fromV ts c gs n)) (xs := tellers rs) (i := 5) rfl h1'' fun n hn => ⟨_, rfl, ?_⟩) (by rw [List.length_map, List.length_map, List.length_append]; omega)
    unfold b_inside_headers_e3
    exact EV.tup (EVs.cons (EV.var rfl) (EVs.cons (EV.fn (EVs.cons (EV.var rfl) (EVs.cons (EV.var rfl) (EVs.cons (EV.var rfl) (EVs.cons (EV.var rfl) EVs.nil)))) fun m' o => from_k k ts c gs n h m') EVs.nil))
  simp only [List.set_cons_succ, List.set_cons_zero]
  refine wp_retEV (d := .tup ((insR rs ts c a b gs).map gD)) (EV.tupL ?_) fun m5 o5 => ⟨m5, rfl, (((o1.trans o2).trans o3).trans o4).trans o5⟩
  unfold insR
  rw [List.map_append (l₂ := [(reqT, nmT a b)])]
  refine LD.add (LD.var rfl h4) (LD.lst (EVs.cons (EV.tup (EVs.cons EV.cst (EVs.cons (nmT_e (i := 3) rfl ha hb) EVs.nil))) EVs.nil)) ?_
  rw [List.length_map, List.length_append, List.length_append, List.length_map, List.length_map, List.length_singleton]
  omega
theorem outside_k (k : Nat) (rs : List HR) (gs : List (Str × Str)) (h : GOk gs) (hr : rs.length ≤ 100) (m : M) :
    ∃ m', callF T FU CON (k + 3) 7 [.tup (rs.map hrD), .tup (gs.map gD)] m = .ok (.tup ((outR rs gs).map gD)) m' ∧ Old m m' := by
  rw [c_outside_headers]
  let Post : Out → Prop := fun u => ∃ m', u.fin = .ok (.tup ((outR rs gs).map gD)) m' ∧ Old m m'
  show Post _
  have stl : (setH ansT rs).length ≤ rs.length := by unfold setH; rw [List.length_map]; exact List.length_filter_le _ _
  have gl := h.len
  have kl : ∀ ys : List Str, (gs.filter fun (p : Str × Str) => !decide (p.1 ∈ ys)).length ≤ gs.length := fun ys => List.length_filter_le _ _
  have kl := kl (shutR ansT rs gs)
  unfold b_outside_headers
  refine wp_LD (LD.fn (EVs.cons (EV.var rfl) (EVs.cons EV.cst (EVs.cons (EV.var rfl) EVs.nil))) fun m' o => shut_k k rs ansT gs h hr m') fun l2 m2 h2 o2 => ?_
  simp only [List.set_cons_succ, List.set_cons_zero]
  refine wp_retEV (d := .tup ((outR rs gs).map gD)) (EV.tupL ?_) fun m5 o5 => ⟨m5, rfl, o2.trans o5⟩
  unfold outR b_outside_headers_e1
  rw [List.map_append]
  exact LD.add (kept_e (gs := gs) rfl rfl h2 (Nat.le_of_ble_eq_true rfl) (by decide)) (LD.fn (EVs.cons (EV.var rfl) (EVs.cons EV.cst EVs.nil)) fun m' o => set_k (k + 1) rs ansT m') (by rw [List.length_map, List.length_map]; omega)
end
end K49

set_option linter.all false
set_option autoImplicit false
set_option Elab.async false
set_option maxRecDepth 100000
set_option maxHeartbeats 1000000
/-! K49d: the headers that go on, by the law. -/
namespace K49
noncomputable section
open PySem L2 Mi G49 Dr TL K07
/-- a filter over a list that is laid there -/
theorem LD.lcFe {C : Mi.Cx} {σ : Sl} {m : M} {α : Type} {vs : List Nat} {x : Tg} {u e t : E} {g q : α → D} {p : α → Bool} {xs : List α} (hu : LD C u σ m (xs.map g))
    (h : ∀ m', Old m m' → ∀ a ∈ xs, ∃ σ', setT x (g a) (wipeM σ vs) = some σ' ∧ evT C t σ' m' = .ok (p a) m' ∧ (p a = true → ev C e σ' m' = .ok (q a) m')) : LD C (.lc vs x (.seq u) (.cons t .nil) e) σ m ((xs.filter p).map q) := fun m' o => by
  obtain ⟨l, m1, e0, hl, o1⟩ := hu m' o
  have ei : evI C (.seq u) σ m' = .ok (.held l (xs.map g)) m1 := evI_l e0 hl
  have e1 := lc_filter (fun d => setT x d (wipeM σ vs)) (IV.held l (xs.map g)).stands (evTs C (.cons t .nil)) (ev C e) g p q m1 hl xs [] fun a ha => by
    obtain ⟨σ', h1, h2, h3⟩ := h m1 (o.trans o1) a ha
    refine ⟨σ', h1, ?_, h3⟩
    rw [evTs]
    show ((evT C t σ' m1).bind _) = _
    rw [h2, bind_ok]
    cases p a with
    | false => rfl
    | true => rw [if_pos rfl, evTs]
  refine ⟨m1.length, m1 ++ [.lst ((xs.filter p).map q)], ?_, app_last _ _, o1.trans (Old.app _ _)⟩
  rw [ev, ei, bind_ok]
  rw [show lcD (fun d => setT x d (wipeM σ vs)) (IV.held l (xs.map g)).stands (evTs C (.cons t .nil)) (ev C e) (IV.held l (xs.map g)).xs [] m1 = _ from e1, bind_ok]
  rfl
/-- .. and the list is new -/
def LN (C : Mi.Cx) (e : E) (σ : Sl) (m : M) (xs : List D) : Prop := ∀ m', Old m m' → ∃ (l : Nat) (m'' : M), ev C e σ m' = .ok (.ref l) m'' ∧ m''[l]? = some (.lst xs) ∧ Old m' m'' ∧ m'.length ≤ l
theorem LN.lst {C : Mi.Cx} {σ : Sl} {m : M} {es : Es} {xs : List D} (h : EVs C es σ m xs) : LN C (.lst es) σ m xs := fun m' o => by
  obtain ⟨m1, e1, o1⟩ := h m' o
  refine ⟨m1.length, m1 ++ [.lst xs], ?_, app_last _ _, o1.trans (Old.app _ _), o1.len⟩
  rw [ev, e1, bind_ok]
  rfl
theorem LN.add {C : Mi.Cx} {σ : Sl} {m : M} {a b : E} {xs ys : List D} (ha : LD C a σ m xs) (hb : LD C b σ m ys) (h : xs.length + ys.length ≤ 16777216) : LN C (.bin .add a b) σ m (xs ++ ys) := fun m' o => by
  obtain ⟨l1, m1, e1, h1, o1⟩ := ha m' o
  obtain ⟨l2, m2, e2, h2, o2⟩ := hb m1 (o.trans o1)
  refine ⟨m2.length, m2 ++ [.lst (xs ++ ys)], ?_, app_last _ _, (o1.trans o2).trans (Old.app _ _), (o1.trans o2).len⟩
  rw [ev_bin_ e1 e2]
  exact Mi.add_lst l1 l2 _ _ _ (o2.at_ _ _ h1) h2 (by unfold line; exact h)
theorem wp_LN {C : Mi.Cx} {σ : Sl} {m : M} {Post : Out → Prop} {i : Nat} {e : E} {r : Ss} {xs : List D} (h : LN C e σ m xs) (k : ∀ (l : Nat) (m' : M), m'[l]? = some (.lst xs) → Old m m' → m.length ≤ l → Post (evSs C r (σ.set i (some (.ref l))) m')) : Post (evSs C (.cons (.set (.nm i) e) r) σ m) := by
  obtain ⟨l, m', e1, a1, o1, n1⟩ := h m (Old.refl _)
  exact wp_set e1 rfl (k l m' a1 o1 n1)
theorem named_nil : named [] = [] := by
  unfold named
  rw [conns_nil]
  rfl
theorem named_snoc (gs : List (Str × Str)) (p : Str × Str) : named (gs ++ [p]) = named gs ++ if p.1 = "connection" then (wds p.2).filter notH else [] := by
  unfold named
  rw [conns_snoc, List.filter_append]
  congr 1
  split
  · rfl
  · rfl
def oneL (s : Str) (r : HR) : List Str := (if (r.isF && decide (s = reqT)) = true then [r.at1] else []) ++ if sdB s r = true then [r.at2] else []
def shutL (s : Str) (rs : List HR) (gs : List (Str × Str)) : List Str := [(("connection" : Str))] ++ named gs ++ rs.flatMap (oneL s)
theorem oneL_len (s : Str) (r : HR) : (oneL s r).length ≤ 2 := by
  unfold oneL
  rw [List.length_append]
  split <;> split <;> simp
theorem oneLs_len (s : Str) : ∀ rs : List HR, (rs.flatMap (oneL s)).length ≤ 2 * rs.length
  | [] => by simp
  | r :: rs => by
    rw [List.flatMap_cons, List.length_append, List.length_cons]
    have := oneL_len s r
    have := oneLs_len s rs
    omega
theorem row_get {rs : List HR} {pre : List D} {y : D} {post : List D} (h : rs.map hrD = pre ++ y :: post) : ∃ r, rs[pre.length]? = some r ∧ y = hrD r ∧ rs.take (pre.length + 1) = rs.take pre.length ++ [r] := by
  have := congrArg (fun l => l[pre.length]?) h
  simp only [List.getElem?_append_right (Nat.le_refl _), Nat.sub_self, List.getElem?_cons_zero, List.getElem?_map] at this
  cases w : rs[pre.length]? with
  | none => rw [w] at this; cases this
  | some a => rw [w] at this; exact ⟨a, rfl, (Option.some.inj this).symm, by rw [List.take_add_one, w]; rfl⟩
theorem lshut_k (k : Nat) (rs : List HR) (s : Str) (gs : List (Str × Str)) (h : GOk gs) (hr : rs.length ≤ 100) (m : M) : ∃ (l : Nat) (m' : M), callF T FU CON (k + 1) 21 [.tup (rs.map hrD), .str s, .tup (gs.map gD)] m = .ok (.ref l) m' ∧ m'[l]? = some (.lst ((shutL s rs gs).map D.str)) ∧ Old m m' := by
  rw [c__law_shut]
  let Post : Out → Prop := fun u => ∃ (l : Nat) (m' : M), u.fin = .ok (.ref l) m' ∧ m'[l]? = some (.lst ((shutL s rs gs).map D.str)) ∧ Old m m'
  show Post _
  have nl : ∀ i, (named (gs.take i)).length ≤ 10000 := fun i => by
    have a1 := GOk.conns (gs := gs.take i) fun q hq => h.v q (List.mem_of_mem_take hq)
    have fl : (named (gs.take i)).length ≤ (conns (gs.take i)).length := List.length_filter_le _ _
    have := h.len
    rw [List.length_take] at a1
    omega
  unfold b__law_shut
  refine wp_LN (LN.lst (xs := [D.str "connection"]) (EVs.cons EV.cst EVs.nil)) fun l0 m0 h0 o0 n0 => ?_
  simp only [List.set_cons_succ, List.set_cons_zero]
  refine wp_for (m1 := m0) (fun pre σ m' => ∃ x4 x5 l, σ = [some (.tup (rs.map hrD)), some (.str s), some (.tup (gs.map gD)), some (.ref l), x4, x5, none, none] ∧ m'[l]? = some (.lst (([("connection" : Str)] ++ named (gs.take pre.length)).map D.str)) ∧ Old m m' ∧ m.length ≤ l) (evI_tup (ev_var_ rfl)) ⟨_, _, l0, rfl, by rw [List.length_nil, List.take_zero, named_nil]; exact h0, o0, n0⟩ ?_ ?_
  · rintro pre y post σ m1 hy ⟨x4, x5, l, rfl, hl, o, nw⟩
    obtain ⟨p, hp, rfl, tk⟩ := pair_get hy
    have hp' := List.mem_of_getElem? hp
    refine ⟨[some (.tup (rs.map hrD)), some (.str s), some (.tup (gs.map gD)), some (.ref l), some (.str p.1), some (.str p.2), none, none], rfl, ?_⟩
    unfold b__law_shut_f1
    by_cases c : p.1 = "connection"
    · refine Dr.wp_then (m1 := m1) (by unfold evT; simp only [evSs, evS, ev, evs, evL, evTs, evo, evI, evT, bind_ok, bind_bad, out_ok, out_bad, obind_nx, obind_rt, obind_bk, obind_ct, obind_bad, fin_nx, fin_rt, fin_bad, tru_bl, tru_non, tru_int, chD_bl, Mi.add_int, Mi.sub_int, Mi.lt_int, Mi.le_int, Mi.gt_int, Mi.ge_int, Mi.eq_int, Mi.ne_int, Mi.eq_bl, Mi.ne_bl, Mi.eq_str, Mi.ne_str, Mi.is_non, Mi.nis_non, Mi.is_bl, Mi.nis_bl, isn_non, isn_bl, isn_int, isn_str, isn_tup, isn_fl, isn_ref, Mi.bi_len, Mi.bi_abs, Mi.bi_int, Mi.bi_intb, Mi.bi_min, Mi.bi_max, Mi.len_str, Mi.len_tup, Mi.len_fl, isi_int, isi_bl, isi_str, isi_non, isi_tup, isi_fl, isTy, List.any_cons, List.any_nil, setT_nm, Mi.lstT_nm, Mi.lstT_tup, List.getElem?_cons_zero, List.getElem?_cons_succ, List.set_cons_zero, List.set_cons_succ, decide_eq_true_eq, Bool.or_false, Bool.or_true, Bool.false_or, Bool.true_or, Bool.not_true, Bool.not_false, Bool.false_eq_true, if_true, if_false, reduceIte, negD, optD, ne_eq, not_true_eq_false, not_false_eq_true, decide_true, decide_false, c]) ?_
      have w1 := wds_len (h.v p hp' c)
      have w2 := nl pre.length
      have w3 : ((wds p.2).filter notH).length ≤ (wds p.2).length := List.length_filter_le _ _
      refine wp_LN (xs := ([("connection" : Str)] ++ named (gs.take pre.length)).map D.str ++ ((wds p.2).filter notH).map D.str) (LN.add (LD.var rfl hl) (LD.lcFe (g := D.str) (q := D.str) (p := notH) (wds_e (i := 5) rfl (h.v p hp' c)) fun m' o' w hw => ⟨_, rfl, ?_, fun _ => ?_⟩) (by rw [List.length_map, List.length_map, List.length_append, List.length_singleton]; omega)) fun l2 m2 h2 o2 n2 => ?_
      · refine evT_of ?_
        exact nes_p (ev_var_ rfl) ev_cst_
      · unfold b__law_shut_e1
        exact ev_var_ rfl
      · simp only [List.set_cons_succ, List.set_cons_zero]
        refine bd_nil (nc_nil ⟨_, _, l2, rfl, ?_, o.trans o2, Nat.le_trans o.len n2⟩)
        rw [h2, List.length_append, List.length_singleton, tk, named_snoc, if_pos c, ← List.map_append, List.append_assoc]
    · refine Dr.wp_no (m1 := m1) (by unfold evT; simp only [evSs, evS, ev, evs, evL, evTs, evo, evI, evT, bind_ok, bind_bad, out_ok, out_bad, obind_nx, obind_rt, obind_bk, obind_ct, obind_bad, fin_nx, fin_rt, fin_bad, tru_bl, tru_non, tru_int, chD_bl, Mi.add_int, Mi.sub_int, Mi.lt_int, Mi.le_int, Mi.gt_int, Mi.ge_int, Mi.eq_int, Mi.ne_int, Mi.eq_bl, Mi.ne_bl, Mi.eq_str, Mi.ne_str, Mi.is_non, Mi.nis_non, Mi.is_bl, Mi.nis_bl, isn_non, isn_bl, isn_int, isn_str, isn_tup, isn_fl, isn_ref, Mi.bi_len, Mi.bi_abs, Mi.bi_int, Mi.bi_intb, Mi.bi_min, Mi.bi_max, Mi.len_str, Mi.len_tup, Mi.len_fl, isi_int, isi_bl, isi_str, isi_non, isi_tup, isi_fl, isTy, List.any_cons, List.any_nil, setT_nm, Mi.lstT_nm, Mi.lstT_tup, List.getElem?_cons_zero, List.getElem?_cons_succ, List.set_cons_zero, List.set_cons_succ, decide_eq_true_eq, Bool.or_false, Bool.or_true, Bool.false_or, Bool.true_or, Bool.not_true, Bool.not_false, Bool.false_eq_true, if_true, if_false, reduceIte, negD, optD, ne_eq, not_true_eq_false, not_false_eq_true, decide_true, decide_false, c]) ?_
      refine nc_nil ⟨_, _, l, rfl, ?_, o, nw⟩
      rw [List.length_append, List.length_singleton, tk, named_snoc, if_neg c, List.append_nil]
      exact hl
  rintro σ m1 ⟨x4, x5, l, rfl, hl, o, nw⟩
  rw [List.length_map, List.take_of_length_le (Nat.le_refl _)] at hl
  have cn : (([(("connection" : Str))] ++ named gs)).length ≤ 10001 := by
    have := nl gs.length
    rw [List.take_of_length_le (Nat.le_refl _)] at this
    rw [List.length_append, List.length_singleton]
    omega
  refine wp_for (m1 := m1) (fun pre σ m' => ∃ x6, σ = [some (.tup (rs.map hrD)), some (.str s), some (.tup (gs.map gD)), some (.ref l), x4, x5, x6, none] ∧ m'[l]? = some (.lst (([("connection" : Str)] ++ named gs ++ (rs.take pre.length).flatMap (oneL s)).map D.str)) ∧ Old m m') (evI_tup (ev_var_ rfl)) ⟨_, rfl, by rw [List.length_nil, List.take_zero, List.flatMap_nil, List.append_nil]; exact hl, o⟩ ?_ ?_
  · rintro pre y post σ m2 hy ⟨x6, rfl, hl2, o2⟩
    obtain ⟨r, hr', rfl, tk⟩ := row_get hy
    refine ⟨[some (.tup (rs.map hrD)), some (.str s), some (.tup (gs.map gD)), some (.ref l), x4, x5, some (hrD r), none], rfl, ?_⟩
    have fl := oneLs_len s (rs.take pre.length)
    rw [List.length_take] at fl
    have tot : ((rs.take (pre.length + 1)).flatMap (oneL s)) = (rs.take pre.length).flatMap (oneL s) ++ oneL s r := by rw [tk, List.flatMap_append]; simp
    rw [List.length_append, List.length_singleton, tot]
    generalize hW : [("connection" : Str)] ++ named gs ++ (rs.take pre.length).flatMap (oneL s) = W at *
    have Wl : W.length ≤ 10300 := by
      rw [← hW, List.length_append]
      omega
    rw [← List.append_assoc, hW]
    clear hW tot
    unfold b__law_shut_f2
    let σ0 : Sl := [some (.tup (rs.map hrD)), some (.str s), some (.tup (gs.map gD)), some (.ref l), x4, x5, some (hrD r), none]
    have t1 : evT (cx k) (.and (.cmp .eq (.ix (.var 6) (.cst (.int 0))) (.cst (.str "from"))) (.cmp .eq (.var 1) (.cst (.str "request")))) σ0 m2 = .ok (r.isF && decide (s = reqT)) m2 := by
      refine evT_of ?_
      rw [← kd_from]
      exact and_p (eqs_p (ix_p (i := 6) rfl (ix0 r m2)) ev_cst_) fun _ => eqs_p (ev_var_ rfl) ev_cst_
    have t2 : ∀ m', evT (cx k) (.and (.cmp .ne (.ix (.var 6) (.cst (.int 0))) (.cst (.str "from"))) (.cmp .eq (.ix (.var 6) (.cst (.int 1))) (.var 1))) σ0 m' = .ok (sdB s r) m' := fun m' => by
      refine evT_of ?_
      have e1 := nes_p (C := cx k) (σ := σ0) (m := m') (ix_p (i := 6) rfl (ix0 r m')) (ev_cst_ (d := .str "from"))
      rw [kd_from] at e1
      exact and_p e1 fun _ => eqs_p (ix_p (i := 6) rfl (ix1 r m')) (ev_var_ rfl)
    have sec : ∀ (W : List Str) (m3 : M), W.length ≤ 10301 → m3[l]? = some (.lst (W.map D.str)) → Old m m3 → NC (fun σ m' => ∃ x6, σ = [some (.tup (rs.map hrD)), some (.str s), some (.tup (gs.map gD)), some (.ref l), x4, x5, x6, none] ∧ m'[l]? = some (.lst ((W ++ if sdB s r = true then [r.at2] else []).map D.str)) ∧ Old m m') (evSs (cx k) (.cons (.ife (.and (.cmp .ne (.ix (.var 6) (.cst (.int 0))) (.cst (.str "from"))) (.cmp .eq (.ix (.var 6) (.cst (.int 1))) (.var 1))) (.cons (.exp (.me .append (.var 3) (.cons (.ix (.var 6) (.cst (.int 2))) .nil))) .nil) .nil) .nil) σ0 m3) := by
      intro W m3 hW h3 o3
      have t2 := t2 m3
      cases hs : sdB s r with
      | false =>
        rw [hs] at t2
        refine Dr.wp_no t2 (nc_nil ⟨_, rfl, ?_, o3⟩)
        rw [if_neg (by decide), List.append_nil]
        exact h3
      | true =>
        rw [hs] at t2
        have nf : r.isF = false := by
          unfold sdB at hs
          rw [Bool.and_eq_true] at hs
          cases q : r.isF with
          | false => rfl
          | true => rw [q] at hs; exact absurd hs.1 (by decide)
        refine Dr.wp_then t2 ?_
        refine wp_append (i := 3) (d := .str r.at2) (m2 := m3) rfl h3 (ix_p (i := 6) rfl (ix2 r nf m3)) h3 (by rw [List.length_map]; unfold line; omega) ?_
        refine bd_nil (nc_nil ⟨_, rfl, ?_, o3.setNew nw _⟩)
        rw [List.getElem?_set_self (List.getElem?_eq_some_iff.mp h3).1, if_pos rfl, List.map_append]
        rfl
    cases hf : (r.isF && decide (s = reqT)) with
    | false =>
      rw [hf] at t1
      refine Dr.wp_no t1 ?_
      have e := sec W m2 (by omega) hl2 o2
      unfold oneL
      rw [hf, if_neg (by decide), List.nil_append]
      exact e
    | true =>
      rw [hf] at t1
      refine Dr.wp_then t1 ?_
      refine wp_append (i := 3) (d := .str r.at1) (m2 := m2) rfl hl2 (ix_p (i := 6) rfl (ix1 r m2)) hl2 (by rw [List.length_map]; unfold line; omega) ?_
      refine bd_nil ?_
      have e := sec (W ++ [r.at1]) (m2.set l (.lst (W.map D.str ++ [.str r.at1]))) (by rw [List.length_append, List.length_singleton]; omega) (by rw [List.getElem?_set_self (List.getElem?_eq_some_iff.mp hl2).1, List.map_append]; rfl) (o2.setNew nw _)
      unfold oneL
      rw [hf, if_pos rfl, ← List.append_assoc]
      exact e
  rintro σ m2 ⟨x6, rfl, hl2, o2⟩
  rw [List.length_map, List.take_of_length_le (Nat.le_refl _)] at hl2
  exact wp_ret (d := .ref l) (m1 := m2) (ev_var_ rfl) ⟨l, m2, rfl, hl2, o2⟩
end
end K49

set_option linter.all false
set_option autoImplicit false
set_option Elab.async false
set_option maxRecDepth 100000
set_option maxHeartbeats 1000000
/-! K49e: the law's headers, whole. -/
namespace K49
noncomputable section
open PySem L2 Mi G49 Dr TL K07
theorem bd_nc {P : Sl → M → Prop} {C : Mi.Cx} {o : Out} (h : NC P o) : Bd (NC P) C .nil o := by
  obtain ⟨σ, m, h1 | h1, h2⟩ := h
  · rw [h1]
    exact bd_nil (nc_nil h2)
  · rw [h1]
    exact ⟨σ, m, .inr rfl, h2⟩
theorem dotted_k (k : Nat) (a : Int) (m : M) : ∃ m', callF T FU CON (k + 1) 22 [.int a] m = .ok (.str (dotT a)) m' ∧ Old m m' := by
  rw [c__law_dotted]
  let Post : Out → Prop := fun u => ∃ m', u.fin = .ok (.str (dotT a)) m' ∧ Old m m'
  show Post _
  unfold b__law_dotted
  refine wp_retEV (dot_e (i := 1) (fun m' o => evI_tup (by simp only [evSs, evS, ev, evs, evL, evTs, evo, evI, evT, bind_ok, bind_bad, out_ok, out_bad, obind_nx, obind_rt, obind_bk, obind_ct, obind_bad, fin_nx, fin_rt, fin_bad, tru_bl, tru_non, tru_int, chD_bl, Mi.add_int, Mi.sub_int, Mi.lt_int, Mi.le_int, Mi.gt_int, Mi.ge_int, Mi.eq_int, Mi.ne_int, Mi.eq_bl, Mi.ne_bl, Mi.eq_str, Mi.ne_str, Mi.is_non, Mi.nis_non, Mi.is_bl, Mi.nis_bl, isn_non, isn_bl, isn_int, isn_str, isn_tup, isn_fl, isn_ref, Mi.bi_len, Mi.bi_abs, Mi.bi_int, Mi.bi_intb, Mi.bi_min, Mi.bi_max, Mi.len_str, Mi.len_tup, Mi.len_fl, isi_int, isi_bl, isi_str, isi_non, isi_tup, isi_fl, isTy, List.any_cons, List.any_nil, setT_nm, Mi.lstT_nm, Mi.lstT_tup, List.getElem?_cons_zero, List.getElem?_cons_succ, List.set_cons_zero, List.set_cons_succ, decide_eq_true_eq, Bool.or_false, Bool.or_true, Bool.false_or, Bool.true_or, Bool.not_true, Bool.not_false, Bool.false_eq_true, if_true, if_false, reduceIte, negD, optD, ne_eq, not_true_eq_false, not_false_eq_true, decide_true, decide_false]; rfl)) fun z hz => ⟨_, rfl, EV.pure fun m' => ?_⟩) fun m1 o1 => ⟨m1, rfl, o1⟩
  have zb : 0 < z ∧ z < 100000000 := by
    simp only [four, List.mem_cons, List.not_mem_nil, or_false] at hz
    omega
  have sz := str_small (a / z % 256) m' (by omega)
  unfold b__law_dotted_e1
  simp only [wipeM, List.set_cons_succ, List.set_cons_zero, evSs, evS, ev, evs, evL, evTs, evo, evI, evT, bind_ok, bind_bad, out_ok, out_bad, obind_nx, obind_rt, obind_bk, obind_ct, obind_bad, fin_nx, fin_rt, fin_bad, tru_bl, tru_non, tru_int, chD_bl, Mi.add_int, Mi.sub_int, Mi.lt_int, Mi.le_int, Mi.gt_int, Mi.ge_int, Mi.eq_int, Mi.ne_int, Mi.eq_bl, Mi.ne_bl, Mi.eq_str, Mi.ne_str, Mi.is_non, Mi.nis_non, Mi.is_bl, Mi.nis_bl, isn_non, isn_bl, isn_int, isn_str, isn_tup, isn_fl, isn_ref, Mi.bi_len, Mi.bi_abs, Mi.bi_int, Mi.bi_intb, Mi.bi_min, Mi.bi_max, Mi.len_str, Mi.len_tup, Mi.len_fl, isi_int, isi_bl, isi_str, isi_non, isi_tup, isi_fl, isTy, List.any_cons, List.any_nil, setT_nm, Mi.lstT_nm, Mi.lstT_tup, List.getElem?_cons_zero, List.getElem?_cons_succ, List.set_cons_zero, List.set_cons_succ, decide_eq_true_eq, Bool.or_false, Bool.or_true, Bool.false_or, Bool.true_or, Bool.not_true, Bool.not_false, Bool.false_eq_true, if_true, if_false, reduceIte, negD, optD, ne_eq, not_true_eq_false, not_false_eq_true, decide_true, decide_false, Mi.fdiv_int _ z _ (by omega), Mi.mod_int _ 256 _ (by decide), sz]
/-! ### row[:2] -/
def snP (a b : Str) : PyData := .tuple [.str a, .str b]
theorem eqv_sn (a b c d : Str) : PyData.eqv (snP a b) (snP c d) = (decide (a = c) && decide (b = d)) := by
  unfold snP
  rw [PyData.eqv, PyData.eqvAll, PyData.eqvAll, PyData.eqvAll, PyData.eqv, PyData.eqv, Bool.and_true, Bool.eq_iff_iff, Bool.and_eq_true, Bool.and_eq_true, beq_iff_eq, beq_iff_eq, decide_eq_true_eq, decide_eq_true_eq]
theorem cut2 (r : HR) (m : M) : slD (hrD r) none (some 2) m = .ok (.tup [.str r.kd, .str r.at1]) m := by
  have h : ∀ xs : List D, 2 ≤ xs.length → slD (.tup xs) none (some 2) m = .ok (.tup (xs.take 2)) m := fun xs hx => by
    show R.ok (D.tup (cutD xs none (some ((2 : Nat) : Int)))) m = _
    rw [cutDL xs 2 hx]
  cases r <;> exact h _ (by simp)
theorem head_e {C : Mi.Cx} {σ : Sl} {m : M} {i : Nat} {r : HR} {s : Str} (hi : σ[i]? = some (some (hrD r))) : evT C (.cmp .eq (.sl (.var i) .no (.so (.cst (.int 2)))) (.tup (.cons (.cst (.str "set")) (.cons (.cst (.str s)) .nil)))) σ m = .ok (stB s r) m := by
  refine evT_of ?_
  have e1 : ev C (.sl (.var i) .no (.so (.cst (.int 2)))) σ m = .ok (.tup [.str r.kd, .str r.at1]) m := by
    rw [ev, ev_var_ hi, bind_ok]
    show ((evo C .no σ m).bind fun l2 m2 => (evo C (.so (.cst (.int 2))) σ m2).bind fun h m3 => slD (hrD r) l2 h m3) = _
    rw [evo, bind_ok, evo, ev_cst_, bind_ok]
    show (R.ok (some 2) m).bind _ = _
    rw [bind_ok]
    exact cut2 r m
  rw [ev_cmp_ e1 (ev_tup (evs_c ev_cst_ (evs_c ev_cst_ evs_n)))]
  have q : cmpD .eq (.tup [.str r.kd, .str r.at1]) (.tup [.str "set", .str s]) m = .ok (.bl (PyData.eqv (snP r.kd r.at1) (snP "set" s))) m := rfl
  rw [q, eqv_sn, kd_set]
  rfl
def kvP (rs : List HR) (ts : List (Int × Int)) : Key → Option D
  | .inr x => if x = "headers" then some (.tup (rs.map hrD)) else if x = "trusted" then some (.tup (ts.map tD)) else none
  | _ => none
/-- a policy: what it tells of headers and of trusted addresses -/
def Pol (m : M) (l : Nat) (rs : List HR) (ts : List (Int × Int)) : Prop := ∃ kvs, m[l]? = some (.dic kvs) ∧ valK kvs (.inr "headers") = some (.tup (rs.map hrD)) ∧ valK kvs (.inr "trusted") = some (.tup (ts.map tD))
theorem Pol.old {m m' : M} {l : Nat} {rs : List HR} {ts : List (Int × Int)} (h : Pol m l rs ts) (o : Old m m') : Pol m' l rs ts := by
  obtain ⟨kvs, h1, h2⟩ := h
  exact ⟨kvs, o.at_ _ _ h1, h2⟩
theorem Pol.hd {m : M} {l i : Nat} {rs : List HR} {ts : List (Int × Int)} {C : Mi.Cx} {σ : Sl} (h : Pol m l rs ts) (hi : σ[i]? = some (some (.ref l))) : ev C (.ix (.var i) (.cst (.str "headers"))) σ m = .ok (.tup (rs.map hrD)) m := by
  obtain ⟨kvs, h1, h2, h3⟩ := h
  rw [ev_ix_ (ev_var_ hi) ev_cst_]
  exact ix_dic h1 _ _ h2
theorem Pol.tr {m : M} {l i : Nat} {rs : List HR} {ts : List (Int × Int)} {C : Mi.Cx} {σ : Sl} (h : Pol m l rs ts) (hi : σ[i]? = some (some (.ref l))) : ev C (.ix (.var i) (.cst (.str "trusted"))) σ m = .ok (.tup (ts.map tD)) m := by
  obtain ⟨kvs, h1, h2, h3⟩ := h
  rw [ev_ix_ (ev_var_ hi) ev_cst_]
  exact ix_dic h1 _ _ h3
def insL (rs : List HR) (ts : List (Int × Int)) (c a b : Int) (gs : List (Str × Str)) : List (Str × Str) :=
  (gs.filter fun (p : Str × Str) => !decide (p.1 ∈ shutL reqT rs gs ++ [reqT])) ++ setH reqT rs ++ (rs.filter HR.isF).map (fun r => (r.at1, fromV ts c gs r.at1)) ++ [(reqT, nmT a b)]
def outL (rs : List HR) (gs : List (Str × Str)) : List (Str × Str) := (gs.filter fun (p : Str × Str) => !decide (p.1 ∈ shutL ansT rs gs)) ++ setH ansT rs
theorem shutL_len {s : Str} {rs : List HR} {gs : List (Str × Str)} (h : GOk gs) (hr : rs.length ≤ 100) : (shutL s rs gs).length ≤ 20000 := by
  have cl := GOk.conns h.v
  have hl := h.len
  have fl : (named gs).length ≤ (conns gs).length := List.length_filter_le _ _
  have fr := oneLs_len s rs
  unfold shutL
  rw [List.length_append, List.length_append, List.length_singleton]
  omega
theorem setH_len (s : Str) (rs : List HR) : (setH s rs).length ≤ rs.length := by unfold setH; rw [List.length_map]; exact List.length_filter_le _ _
theorem lset_e {C : Mi.Cx} {σ : Sl} {m : M} {it : Mi.It} {v : Nat} {rs : List HR} {s : Str} (h1 : ∀ m', Old m m' → evI C it σ m' = .ok (.free (rs.map hrD)) m') (hv : v < σ.length) :
    LD C (.lc [v] (.nm v) it (.cons (.cmp .eq (.sl (.var v) .no (.so (.cst (.int 2)))) (.tup (.cons (.cst (.str "set")) (.cons (.cst (.str s)) .nil)))) .nil) (.tup (.cons (.ix (.var v) (.cst (.int 2))) (.cons (.ix (.var v) (.cst (.int 3))) .nil)))) σ m ((setH s rs).map gD) := by
  unfold setH
  rw [List.map_map]
  refine LD.lcF (g := hrD) (p := stB s) (q := fun r => gD (r.at2, r.at3)) (xs := rs) h1 fun m' o r hr => ⟨_, rfl, ?_, fun hp => ?_⟩
  · exact head_e (List.getElem?_set_self (by simp only [wipeM, List.length_set]; exact hv))
  · have hx : ((wipeM σ [v]).set v (some (hrD r)))[v]? = some (some (hrD r)) := List.getElem?_set_self (by simp only [wipeM, List.length_set]; exact hv)
    unfold stB at hp
    rw [Bool.and_eq_true] at hp
    have nf : r.isF = false := by
      cases r with
      | set => rfl
      | hide => cases hp.1
      | frm => cases hp.1
    exact ev_tup (evs_c (ix_p hx (ix2 r nf m')) (evs_c (ix_p hx (ix3 r hp.1 m')) evs_n))
theorem lout_k (k : Nat) (l : Nat) (rs : List HR) (ts : List (Int × Int)) (gs : List (Str × Str)) (h : GOk gs) (hr : rs.length ≤ 100) (m : M) (hP : Pol m l rs ts) :
    ∃ (l2 : Nat) (m' : M), callF T FU CON (k + 2) 24 [.ref l, .tup (gs.map gD)] m = .ok (.ref l2) m' ∧ m'[l2]? = some (.lst ((outL rs gs).map gD)) ∧ Old m m' := by
  rw [c__law_outside]
  let Post : Out → Prop := fun u => ∃ (l2 : Nat) (m' : M), u.fin = .ok (.ref l2) m' ∧ m'[l2]? = some (.lst ((outL rs gs).map gD)) ∧ Old m m'
  show Post _
  have stl := setH_len ansT rs
  have gl := h.len
  have kl : ∀ ys : List Str, (gs.filter fun (p : Str × Str) => !decide (p.1 ∈ ys)).length ≤ gs.length := fun ys => List.length_filter_le _ _
  have kl := kl (shutL ansT rs gs)
  unfold b__law_outside
  refine wp_LD (LD.fn (EVs.cons (fun m' o => ⟨m', (hP.old o).hd rfl, Old.refl _⟩) (EVs.cons EV.cst (EVs.cons (EV.var rfl) EVs.nil))) fun m' o => lshut_k k rs ansT gs h hr m') fun l2 m2 h2 o2 => ?_
  simp only [List.set_cons_succ, List.set_cons_zero]
  unfold b__law_outside_e1
  refine wp_LD (kept_e (gs := gs) rfl rfl h2 (Nat.le_of_ble_eq_true rfl) (by decide)) fun l3 m3 h3 o3 => ?_
  simp only [List.set_cons_succ, List.set_cons_zero]
  unfold b__law_outside_e2
  have hP3 := (hP.old o2).old o3
  refine wp_retLD (xs := (outL rs gs).map gD) ?_ fun l4 m4 h4 o4 => ⟨l4, m4, rfl, h4, (o2.trans o3).trans o4⟩
  unfold outL
  rw [List.map_append]
  exact LD.add (LD.var rfl h3) (lset_e (fun m' o => evI_tup ((hP3.old o).hd rfl)) (Nat.le_of_ble_eq_true rfl)) (by rw [List.length_map, List.length_map]; omega)
theorem lin_k (k : Nat) (l : Nat) (rs : List HR) (ts : List (Int × Int)) (c a b : Int) (gs : List (Str × Str)) (h : GOk gs) (hr : rs.length ≤ 100) (ha : 0 ≤ a ∧ a < 1000000) (hb : 0 ≤ b ∧ b < 1000000) (m : M) (hP : Pol m l rs ts) :
    ∃ (l2 : Nat) (m' : M), callF T FU CON (k + 2) 23 [.ref l, .int c, .tup [.int a, .int b], .tup (gs.map gD)] m = .ok (.ref l2) m' ∧ m'[l2]? = some (.lst ((insL rs ts c a b gs).map gD)) ∧ Old m m' := by
  rw [c__law_inside]
  let Post : Out → Prop := fun u => ∃ (l2 : Nat) (m' : M), u.fin = .ok (.ref l2) m' ∧ m'[l2]? = some (.lst ((insL rs ts c a b gs).map gD)) ∧ Old m m'
  show Post _
  have sl := shutL_len (s := reqT) h hr
  have stl := setH_len reqT rs
  have gl := h.len
  have kl : ∀ ys : List Str, (gs.filter fun (p : Str × Str) => !decide (p.1 ∈ ys)).length ≤ gs.length := fun ys => List.length_filter_le _ _
  have kl := kl (shutL reqT rs gs ++ [reqT])
  unfold b__law_inside
  refine wp_set (d := .tup (rs.map hrD)) (m1 := m) (hP.hd rfl) rfl ?_
  simp only [List.set_cons_succ, List.set_cons_zero]
  refine wp_LD (xs := (shutL reqT rs gs ++ [reqT]).map D.str) ?_ fun l1 m1 h1 o1 => ?_
  · rw [List.map_append]
    exact LD.add (LD.fn (EVs.cons (EV.var rfl) (EVs.cons EV.cst (EVs.cons (EV.var rfl) EVs.nil))) fun m' o => lshut_k k rs reqT gs h hr m') (LD.lst (EVs.cons EV.cst EVs.nil)) (by rw [List.length_map, List.length_map, List.length_singleton]; omega)
  simp only [List.set_cons_succ, List.set_cons_zero]
  unfold b__law_inside_e1
  refine wp_LD (kept_e (gs := gs) rfl rfl h1 (Nat.le_of_ble_eq_true rfl) (by decide)) fun l2 m2 h2 o2 => ?_
  simp only [List.set_cons_succ, List.set_cons_zero]
  unfold b__law_inside_e2
  refine wp_LN (LN.add (LD.var rfl h2) (lset_e (s := reqT) (rs := rs) (fun m' o => evI_tup (ev_var_ rfl)) (Nat.le_of_ble_eq_true rfl)) (by rw [List.length_map, List.length_map]; omega)) fun l3 m3 h3 o3 n3 => ?_
  simp only [List.set_cons_succ, List.set_cons_zero]
  rw [← List.map_append] at h3
  have n3 : m.length ≤ l3 := Nat.le_trans (o1.trans o2).len n3
  have oo := (o1.trans o2).trans o3
  unfold b__law_inside_e3
  refine wp_set (d := .bl (trB ts c)) (m1 := m3) (any_e (evI_tup ((hP.old oo).tr rfl)) rfl (by decide) (by decide) (by decide) (Nat.le_of_ble_eq_true rfl) (Nat.le_of_ble_eq_true rfl)) rfl ?_
  simp only [List.set_cons_succ, List.set_cons_zero]
  generalize hW : (gs.filter fun (p : Str × Str) => !decide (p.1 ∈ shutL reqT rs gs ++ [reqT])) ++ setH reqT rs = W at *
  have Wl : W.length ≤ 200 := by rw [← hW, List.length_append]; omega
  let fr : HR → Str × Str := fun r => (r.at1, fromV ts c gs r.at1)
  refine wp_for (m1 := m3) (fun pre σ m' => ∃ x8 x9 x10, σ = [some (.ref l), some (.int c), some (.tup [.int a, .int b]), some (.tup (gs.map gD)), some (.tup (rs.map hrD)), some (.ref l1), some (.ref l3), some (.bl (trB ts c)), x8, x9, x10, none, none, none] ∧ m'[l3]? = some (.lst ((W ++ ((rs.take pre.length).filter HR.isF).map fr).map gD)) ∧ Old m m') (evI_tup (ev_var_ rfl)) ⟨_, _, _, rfl, by rw [List.length_nil, List.take_zero, List.filter_nil, List.map_nil, List.append_nil]; exact h3, oo⟩ ?_ ?_
  · rintro pre y post σ m4 hy ⟨x8, x9, x10, rfl, h4, o4⟩
    obtain ⟨r, hr', rfl, tk⟩ := row_get hy
    refine ⟨[some (.ref l), some (.int c), some (.tup [.int a, .int b]), some (.tup (gs.map gD)), some (.tup (rs.map hrD)), some (.ref l1), some (.ref l3), some (.bl (trB ts c)), some (hrD r), x9, x10, none, none, none], rfl, ?_⟩
    have tot : W ++ ((rs.take (pre.length + 1)).filter HR.isF).map fr = (W ++ ((rs.take pre.length).filter HR.isF).map fr) ++ ([r].filter HR.isF).map fr := by rw [tk, List.filter_append, List.map_append, List.append_assoc]
    rw [List.length_append, List.length_singleton, tot]
    clear tot
    have tl : (((rs.take pre.length).filter HR.isF).map fr).length ≤ 100 := by
      have := List.length_filter_le HR.isF (rs.take pre.length)
      rw [List.length_take] at this
      rw [List.length_map]
      omega
    generalize hV : W ++ ((rs.take pre.length).filter HR.isF).map fr = V at *
    have Vl : V.length ≤ 300 := by rw [← hV, List.length_append]; omega
    unfold b__law_inside_f1
    have t1 : evT (cx (k + 1)) (.cmp .eq (.ix (.var 8) (.cst (.int 0))) (.cst (.str "from"))) [some (.ref l), some (.int c), some (.tup [.int a, .int b]), some (.tup (gs.map gD)), some (.tup (rs.map hrD)), some (.ref l1), some (.ref l3), some (.bl (trB ts c)), some (hrD r), x9, x10, none, none, none] m4 = .ok r.isF m4 := by
      refine evT_of ?_
      rw [← kd_from]
      exact eqs_p (ix_p (i := 8) rfl (ix0 r m4)) ev_cst_
    cases hf : r.isF with
    | false =>
      rw [hf] at t1
      refine Dr.wp_no t1 (nc_nil ⟨_, _, _, rfl, ?_, o4⟩)
      rw [List.filter_cons_of_neg (by rw [hf]; decide), List.filter_nil, List.map_nil, List.append_nil]
      exact h4
    | true =>
      rw [hf] at t1
      refine Dr.wp_then t1 ?_
      unfold b__law_inside_e4
      refine wp_LD (xs := (firsts gs r.at1).map D.str) ?_ fun l5 m5 h5 o5 => ?_
      · unfold firsts
        rw [List.map_take]
        refine LD.sl1 ?_
        rw [List.map_map]
        refine LD.lcF (g := gD) (p := fun (p : Str × Str) => decide (p.1 = r.at1)) (q := fun p => .str p.2) (xs := gs) (fun m' o => evI_tup (ev_var_ rfl)) fun m' o p hp => ⟨_, rfl, ?_, fun _ => ?_⟩
        · exact evT_of (eqs_p (ev_var_ rfl) (ix_p (i := 8) rfl (ix1 r m')))
        · exact ev_var_ rfl
      simp only [List.set_cons_succ, List.set_cons_zero]
      refine wp_EV (EV.fn (d := .str (dotT c)) (EVs.cons (EV.var rfl) EVs.nil) fun m' o => dotted_k k c m') fun m6 o6 => ?_
      simp only [List.set_cons_succ, List.set_cons_zero]
      have h6 := o6.at_ _ _ h5
      obtain ⟨f1, f2⟩ := fv_e (C := cx (k + 1)) (σ := [some (.ref l), some (.int c), some (.tup [.int a, .int b]), some (.tup (gs.map gD)), some (.tup (rs.map hrD)), some (.ref l1), some (.ref l3), some (.bl (trB ts c)), some (hrD r), some (.ref l5), some (.str (dotT c)), none, none, none]) (i := 9) (j := 10) (t := .var 7) (ts := ts) (c := c) h rfl h6 rfl (EV.var rfl)
      have oo6 := (o4.trans o5).trans o6
      have app : ∀ (v : Str) (m7 : M), v = fromV ts c gs r.at1 → Old m6 m7 → NC (fun σ m' => ∃ x8 x9 x10, σ = [some (.ref l), some (.int c), some (.tup [.int a, .int b]), some (.tup (gs.map gD)), some (.tup (rs.map hrD)), some (.ref l1), some (.ref l3), some (.bl (trB ts c)), x8, x9, x10, none, none, none] ∧ m'[l3]? = some (.lst ((V ++ ([r].filter HR.isF).map fr).map gD)) ∧ Old m m') (evSs (cx (k + 1)) (.cons (.exp (.me .append (.var 6) (.cons (.tup (.cons (.ix (.var 8) (.cst (.int 1))) (.cons (.var 10) .nil))) .nil))) .nil) [some (.ref l), some (.int c), some (.tup [.int a, .int b]), some (.tup (gs.map gD)), some (.tup (rs.map hrD)), some (.ref l1), some (.ref l3), some (.bl (trB ts c)), some (hrD r), some (.ref l5), some (.str v), none, none, none] m7) := by
        intro v m7 hv o7
        have h7 := o7.at_ _ _ (o6.at_ _ _ (o5.at_ _ _ h4))
        refine wp_append (i := 6) (d := gD (r.at1, v)) (m2 := m7) rfl h7 (ev_tup (evs_c (ix_p (i := 8) rfl (ix1 r m7)) (evs_c (ev_var_ rfl) evs_n))) h7 (by rw [List.length_map]; unfold line; omega) ?_
        refine nc_nil ⟨_, _, _, rfl, ?_, (oo6.trans o7).setNew n3 _⟩
        rw [List.getElem?_set_self (List.getElem?_eq_some_iff.mp h7).1, List.filter_cons_of_pos hf, List.filter_nil, List.map_cons, List.map_nil, List.map_append, hv]
        rfl
      obtain ⟨m7, e7, o7⟩ := f1 m6 (Old.refl _)
      cases hp : ((!(firsts gs r.at1).isEmpty) && trB ts c) with
      | true =>
        rw [hp] at e7
        obtain ⟨m8, e8, o8⟩ := f2 hp m7 o7
        refine Dr.wp_then (evT_of e7) ?_
        refine wp_set e8 rfl ?_
        simp only [List.set_cons_succ, List.set_cons_zero]
        refine bd_nil ?_
        refine bd_nc (app _ m8 ?_ (o7.trans o8))
        unfold fromV
        rw [if_pos hp]
      | false =>
        rw [hp] at e7
        refine Dr.wp_no (evT_of e7) ?_
        refine bd_nc (app _ m7 ?_ o7)
        unfold fromV
        rw [if_neg (by rw [hp]; decide)]
  rintro σ m4 ⟨x8, x9, x10, rfl, h4, o4⟩
  rw [List.length_map, List.take_of_length_le (Nat.le_refl _)] at h4
  have tl : ((rs.filter HR.isF).map fr).length ≤ 100 := by
    have := List.length_filter_le HR.isF rs
    rw [List.length_map]
    omega
  refine wp_retLD (xs := (insL rs ts c a b gs).map gD) ?_ fun l5 m5 h5 o5 => ⟨l5, m5, rfl, h5, o4.trans o5⟩
  unfold insL
  rw [hW, List.map_append (l₂ := [(reqT, nmT a b)])]
  exact LD.add (LD.var rfl h4) (LD.lst (EVs.cons (EV.tup (EVs.cons EV.cst (EVs.cons (nmT_e (i := 2) rfl ha hb) EVs.nil))) EVs.nil)) (by rw [List.length_map, List.length_append, List.length_map, List.length_map, List.length_singleton]; rw [List.length_map] at tl; omega)
end
end K49

set_option linter.all false
set_option autoImplicit false
set_option Elab.async false
set_option maxRecDepth 100000
set_option maxHeartbeats 1000000
/-! K49f: both are alike; what is drawn. -/
namespace K49
noncomputable section
open PySem L2 Mi G49 Dr TL K07
theorem req_ans : ansT ≠ reqT := by decide +kernel
theorem mem_oneL (s x : Str) (rs : List HR) : x ∈ rs.flatMap (oneL s) ↔ (s = reqT ∧ x ∈ tellers rs) ∨ x ∈ (rs.filter (sdB s)).map HR.at2 := by
  rw [List.mem_flatMap]
  unfold tellers
  simp only [List.mem_map, List.mem_filter]
  constructor
  · rintro ⟨r, hr, hx⟩
    unfold oneL at hx
    rcases List.mem_append.mp hx with hx | hx
    · by_cases c : (r.isF && decide (s = reqT)) = true
      · rw [if_pos c] at hx
        rw [Bool.and_eq_true, decide_eq_true_eq] at c
        exact .inl ⟨c.2, r, ⟨hr, c.1⟩, (List.mem_singleton.mp hx).symm⟩
      · rw [if_neg c] at hx; cases hx
    · by_cases c : sdB s r = true
      · rw [if_pos c] at hx
        exact .inr ⟨r, ⟨hr, c⟩, (List.mem_singleton.mp hx).symm⟩
      · rw [if_neg c] at hx; cases hx
  · rintro (⟨hs, r, ⟨hr, hf⟩, rfl⟩ | ⟨r, ⟨hr, hf⟩, rfl⟩)
    · refine ⟨r, hr, ?_⟩
      unfold oneL
      rw [if_pos (by rw [Bool.and_eq_true, decide_eq_true_eq]; exact ⟨hf, hs⟩)]
      exact List.mem_append_left _ (List.mem_singleton.mpr rfl)
    · refine ⟨r, hr, ?_⟩
      unfold oneL
      rw [if_pos hf]
      exact List.mem_append_right _ (List.mem_singleton.mpr rfl)
theorem out_eq (rs : List HR) (gs : List (Str × Str)) : outR rs gs = outL rs gs := by
  unfold outR outL
  congr 1
  refine List.filter_congr fun p _ => ?_
  congr 1
  refine decide_eq_decide.mpr ?_
  unfold shutR shutL
  rw [List.mem_append, List.mem_append (t := List.flatMap _ _), mem_oneL]
  constructor
  · rintro (h | h)
    · exact .inl h
    · exact .inr (.inr h)
  · rintro (h | h | h)
    · exact .inl h
    · exact absurd h.1 req_ans
    · exact .inr h
theorem ins_eq (rs : List HR) (ts : List (Int × Int)) (c a b : Int) (gs : List (Str × Str)) : insR rs ts c a b gs = insL rs ts c a b gs := by
  unfold insR insL
  congr 1
  have e1 : (tellers rs).map (fun n => (n, fromV ts c gs n)) = (rs.filter HR.isF).map (fun r => (r.at1, fromV ts c gs r.at1)) := by
    unfold tellers
    rw [List.map_map]
    rfl
  rw [e1]
  congr 2
  refine List.filter_congr fun p _ => ?_
  congr 1
  refine decide_eq_decide.mpr ?_
  unfold shutR shutL
  simp only [List.mem_append, mem_oneL]
  constructor
  · rintro (((h | h) | h) | h)
    · exact .inl (.inl h)
    · exact .inl (.inr (.inr h))
    · exact .inl (.inr (.inl ⟨trivial, h⟩))
    · exact .inr h
  · rintro ((h | h | h) | h)
    · exact .inl (.inl (.inl h))
    · exact .inl (.inr h.2)
    · exact .inl (.inl (.inr h))
    · exact .inr h
/-! ### texts that are drawn -/
def conW : List Str := ["close", "A,x", "host, Cookie", "y  accept", "b-2,,9", "request", "connection", ""]
theorem conW_ok : ∀ v ∈ conW, okV v = true ∧ v.length ≤ 100 := by decide +kernel
def namW : List Str := ["a", "b-2", "x", "cookie", "accept", "9", "host", "request", "y", "a"]
theorem namW_ok : ∀ v ∈ namW, v ≠ ("connection" : Str) := by decide +kernel
def valW : List Str := ["", "1", "1.2.3.4", "u, v", "w"]
theorem valW_ok : ∀ v ∈ valW, v.length ≤ 100 := by decide +kernel
end
end K49

set_option linter.all false
set_option autoImplicit false
set_option Elab.async false
set_option maxRecDepth 100000
set_option maxHeartbeats 1000000
/-! K49g: what came. -/
namespace K49
noncomputable section
open PySem L2 Mi G49 Dr TL K07
theorem mem_str {d : D} {ws : List Str} (h : d ∈ ws.map D.str) : ∃ w ∈ ws, d = .str w := by
  obtain ⟨w, hw, rfl⟩ := List.mem_map.mp h
  exact ⟨w, hw, rfl⟩
theorem pairs_of (ds : List D) (h : ∀ d ∈ ds, ∃ p : Str × Str, d = gD p ∧ p.1 ∈ namW ∧ p.2 ∈ valW) : ∃ gs : List (Str × Str), ds = gs.map gD ∧ ∀ p ∈ gs, p.1 ∈ namW ∧ p.2 ∈ valW := by
  induction ds with
  | nil => exact ⟨[], rfl, fun _ h => by cases h⟩
  | cons d ds ih =>
    obtain ⟨gs, rfl, q⟩ := ih fun d hd => h d (List.mem_cons_of_mem _ hd)
    obtain ⟨p, rfl, hp⟩ := h d (List.mem_cons_self ..)
    refine ⟨p :: gs, rfl, fun z hz => ?_⟩
    rcases List.mem_cons.mp hz with rfl | hz
    · exact hp
    · exact q z hz
theorem gok_of {gs : List (Str × Str)} (hl : gs.length ≤ 100) (h : ∀ p ∈ gs, (p.1 ∈ namW ∧ p.2 ∈ valW) ∨ (p.1 = "connection" ∧ p.2 ∈ conW)) : GOk gs := ⟨hl, fun p hp hc => by
  rcases h p hp with ⟨a, _⟩ | ⟨_, b⟩
  · exact absurd hc (namW_ok _ a)
  · exact (conW_ok _ b).1, fun p hp => by
  rcases h p hp with ⟨_, b⟩ | ⟨_, b⟩
  · exact valW_ok _ b
  · exact (conW_ok _ b).2⟩
theorem given_k (k t c : Nat) (m : M) (T0 : Tp m t c) : ∃ (gs : List (Str × Str)) (m' : M), callF T FU CON (k + 3) 25 [.ref t] m = .ok (.tup (gs.map gD)) m' ∧ GOk gs ∧ Tp m' t c ∧ Kp t c m m' := by
  rw [c__law_given]
  let Post : Out → Prop := fun u => ∃ (gs : List (Str × Str)) (m' : M), u.fin = .ok (.tup (gs.map gD)) m' ∧ GOk gs ∧ Tp m' t c ∧ Kp t c m m'
  show Post _
  unfold b__law_given
  have hn := T0.new
  have en : ev (cx (k + 2)) (.lst (.cons (.cst (.str "a")) (.cons (.cst (.str "b-2")) (.cons (.cst (.str "x")) (.cons (.cst (.str "cookie")) (.cons (.cst (.str "accept")) (.cons (.cst (.str "9")) (.cons (.cst (.str "host")) (.cons (.cst (.str "request")) (.cons (.cst (.str "y")) (.cons (.cst (.str "a")) .nil))))))))))) [some (.ref t), none, none, none, none] m = .ok (.ref m.length) (m ++ [.lst (namW.map D.str)]) := by
    simp only [evSs, evS, ev, evs, evL, evTs, evo, evI, evT, bind_ok, bind_bad, out_ok, out_bad, obind_nx, obind_rt, obind_bk, obind_ct, obind_bad, fin_nx, fin_rt, fin_bad, tru_bl, tru_non, tru_int, chD_bl, Mi.add_int, Mi.sub_int, Mi.lt_int, Mi.le_int, Mi.gt_int, Mi.ge_int, Mi.eq_int, Mi.ne_int, Mi.eq_bl, Mi.ne_bl, Mi.eq_str, Mi.ne_str, Mi.is_non, Mi.nis_non, Mi.is_bl, Mi.nis_bl, isn_non, isn_bl, isn_int, isn_str, isn_tup, isn_fl, isn_ref, Mi.bi_len, Mi.bi_abs, Mi.bi_int, Mi.bi_intb, Mi.bi_min, Mi.bi_max, Mi.len_str, Mi.len_tup, Mi.len_fl, isi_int, isi_bl, isi_str, isi_non, isi_tup, isi_fl, isTy, List.any_cons, List.any_nil, setT_nm, Mi.lstT_nm, Mi.lstT_tup, List.getElem?_cons_zero, List.getElem?_cons_succ, List.set_cons_zero, List.set_cons_succ, decide_eq_true_eq, Bool.or_false, Bool.or_true, Bool.false_or, Bool.true_or, Bool.not_true, Bool.not_false, Bool.false_eq_true, if_true, if_false, reduceIte, negD, optD, ne_eq, not_true_eq_false, not_false_eq_true, decide_true, decide_false]
    rfl
  refine wp_set en rfl ?_
  simp only [List.set_cons_succ, List.set_cons_zero]
  have T1 := T0.app [Mi.O.lst (namW.map D.str)]
  have p1 := app_last m (.lst (namW.map D.str))
  have K1 := Kp.app t c m [Mi.O.lst (namW.map D.str)]
  have ln : m.length < (m ++ [Mi.O.lst (namW.map D.str)]).length := by simp
  generalize m ++ [Mi.O.lst (namW.map D.str)] = m1 at *
  generalize m.length = l1 at *
  obtain ⟨r, m2, e2, r0, r1, T2, K2⟩ := draw_e (C := cx (k + 2)) (f := 8) (x := "_law_draw") (j := 0) (e := .cst (.int 9)) (σ := [some (.ref t), some (.ref l1), none, none, none]) (m := m1) (n := 9) (draw_k (k + 1)) rfl ev_cst_ T1 (by decide) (by decide)
  obtain ⟨n, rfl, hn9⟩ : ∃ n : Nat, r = (n : Int) ∧ n < 9 := ⟨r.toNat, by omega, by omega⟩
  have p2 := K2.at_ _ _ hn.1 hn.2 p1
  obtain ⟨ds, m3, e3, l3, P3, T3, K3⟩ := lcT (C := cx (k + 2)) (vs := [4]) (x := .nm 4) (it := .rng1 (.fn "_law_draw" 8 (.cons (.var 0) (.cons (.cst (.int 9)) .nil)))) (e := b__law_given_e1) (σ := [some (.ref t), some (.ref l1), none, none, none]) (m := m1) (m1 := m2) (fun d => ∃ p : Str × Str, d = gD p ∧ p.1 ∈ namW ∧ p.2 ∈ valW) (evI_rng1 (n := n) e2 (by unfold line; omega)) T2 fun y hy m' T' K' => by
    have p' := K'.at_ _ _ hn.1 hn.2 p2
    refine ⟨[some (.ref t), some (.ref l1), none, none, some y], rfl, ?_⟩
    unfold b__law_given_e1
    obtain ⟨d1, m4, e4, hd1, T4, K4⟩ := pick_var (C := cx (k + 2)) (f := 9) (x := "_law_pick") (i := 1) (j := 0) (σ := [some (.ref t), some (.ref l1), none, none, some y]) (pick_k k) rfl rfl p' T' hn (by rw [List.length_map]; decide) (by rw [List.length_map]; decide)
    obtain ⟨w1, hw1, rfl⟩ := mem_str hd1
    obtain ⟨d2, m5, e5, hd2, T5, K5⟩ := pick_lst (C := cx (k + 2)) (f := 9) (x := "_law_pick") (j := 0) (σ := [some (.ref t), some (.ref l1), none, none, some y]) (m := m4) (m1 := m4) (es := .cons (.cst (.str "")) (.cons (.cst (.str "1")) (.cons (.cst (.str "1.2.3.4")) (.cons (.cst (.str "u, v")) (.cons (.cst (.str "w")) .nil))))) (ds := valW.map D.str) (pick_k k) (evs_c ev_cst_ (evs_c ev_cst_ (evs_c ev_cst_ (evs_c ev_cst_ (evs_c ev_cst_ evs_n))))) rfl T4 (by rw [List.length_map]; decide) (by rw [List.length_map]; decide)
    obtain ⟨w2, hw2, rfl⟩ := mem_str hd2
    exact ⟨gD (w1, w2), m5, ev_tup (evs_c e4 (evs_c e5 evs_n)), ⟨(w1, w2), rfl, hw1, hw2⟩, T5, K4.trans K5⟩
  obtain ⟨gs, rfl, hgs⟩ := pairs_of ds P3
  rw [List.length_map, List.length_map, List.length_range] at l3
  refine wp_set (laid_lc e3) rfl ?_
  simp only [List.set_cons_succ, List.set_cons_zero]
  have hn3 := T3.new
  have T4 := T3.app [Mi.O.lst (gs.map gD)]
  have p4 := app_last m3 (.lst (gs.map gD))
  have K4 := ((K1.trans K2).trans K3).trans (Kp.app t c m3 [Mi.O.lst (gs.map gD)])
  have new : m.length ≤ m3.length := Nat.le_trans (K1.trans K2).len K3.len
  generalize m3 ++ [Mi.O.lst (gs.map gD)] = m4 at *
  generalize m3.length = l4 at *
  obtain ⟨r, m5, e5, r0, r1, T5, K5⟩ := draw_e (C := cx (k + 2)) (f := 8) (x := "_law_draw") (j := 0) (e := .cst (.int 2)) (σ := [some (.ref t), some (.ref l1), some (.ref l4), none, none]) (m := m4) (n := 2) (draw_k (k + 1)) rfl ev_cst_ T4 (by decide) (by decide)
  have p5 := K5.at_ _ _ hn3.1 hn3.2 p4
  have et : evT (cx (k + 2)) (.cmp .eq (.fn "_law_draw" 8 (.cons (.var 0) (.cons (.cst (.int 2)) .nil))) (.cst (.int 0))) [some (.ref t), some (.ref l1), some (.ref l4), none, none] m4 = .ok (decide (r = 0)) m5 := by
    refine evT_of ?_
    rw [ev_cmp_ e5 ev_cst_, Mi.eq_int]
  by_cases hr : r = 0
  · rw [decide_eq_true hr] at et
    refine Dr.wp_then et ?_
    obtain ⟨d6, m6, e6, hd6, T6, K6⟩ := pick_lst (C := cx (k + 2)) (f := 9) (x := "_law_pick") (j := 0) (σ := [some (.ref t), some (.ref l1), some (.ref l4), none, none]) (m := m5) (m1 := m5) (es := .cons (.cst (.str "close")) (.cons (.cst (.str "A,x")) (.cons (.cst (.str "host, Cookie")) (.cons (.cst (.str "y  accept")) (.cons (.cst (.str "b-2,,9")) (.cons (.cst (.str "request")) (.cons (.cst (.str "connection")) (.cons (.cst (.str "")) .nil)))))))) (ds := conW.map D.str) (pick_k k) (evs_c ev_cst_ (evs_c ev_cst_ (evs_c ev_cst_ (evs_c ev_cst_ (evs_c ev_cst_ (evs_c ev_cst_ (evs_c ev_cst_ (evs_c ev_cst_ evs_n)))))))) rfl T5 (by rw [List.length_map]; decide) (by rw [List.length_map]; decide)
    obtain ⟨w6, hw6, rfl⟩ := mem_str hd6
    have p6 := K6.at_ _ _ hn3.1 hn3.2 p5
    refine wp_set e6 rfl ?_
    simp only [List.set_cons_succ, List.set_cons_zero]
    have el : ev (cx (k + 2)) (.bin .add (.bi .len (.cons (.var 2) .nil)) (.cst (.int 1))) [some (.ref t), some (.ref l1), some (.ref l4), some (.str w6), none] m6 = .ok (.int ((gs.length : Int) + 1)) m6 := by
      have := len_r (C := cx (k + 2)) (i := 2) (σ := [some (.ref t), some (.ref l1), some (.ref l4), some (.str w6), none]) rfl p6
      rw [List.length_map] at this
      exact add_t this ev_cst_
    obtain ⟨q, m7, e7, q0, q1, T7, K7⟩ := draw_e (C := cx (k + 2)) (f := 8) (x := "_law_draw") (j := 0) (σ := [some (.ref t), some (.ref l1), some (.ref l4), some (.str w6), none]) (m := m6) (draw_k (k + 1)) rfl el T6 (by omega) (by omega)
    have p7 := K7.at_ _ _ hn3.1 hn3.2 p6
    have ins : meD .insert (.ref l4) [.int q, gD ("connection", w6)] m7 = .ok .non (m7.set l4 (.lst (((gs.take q.toNat ++ [(("connection" : Str), w6)] ++ gs.drop q.toNat)).map gD))) := by
      unfold meD lstM
      simp only [p7]
      rw [if_pos ⟨by rw [List.length_map]; unfold line; omega, q0, by omega⟩, List.map_append, List.map_append, List.map_take, List.map_drop]
      rfl
    have rc : recvB (meTy .insert) (.ref l4) m6 = true := by
      simp only [recvB, p6]
      rfl
    refine wp_exp (d := .non) (m1 := m7.set l4 (.lst (((gs.take q.toNat ++ [(("connection" : Str), w6)] ++ gs.drop q.toNat)).map gD))) ?_ ?_
    · rw [ev, ev_var_ (x := .ref l4) rfl, bind_ok, if_pos rc, evs_c e7 (evs_c (ev_tup (evs_c ev_cst_ (evs_c (ev_var_ (x := .str w6) rfl) evs_n))) evs_n), bind_ok]
      exact ins
    refine bd_nil ?_
    have p8 : (m7.set l4 (.lst (((gs.take q.toNat ++ [(("connection" : Str), w6)] ++ gs.drop q.toNat)).map gD)))[l4]? = some (.lst (((gs.take q.toNat ++ [(("connection" : Str), w6)] ++ gs.drop q.toNat)).map gD)) := List.getElem?_set_self (List.getElem?_eq_some_iff.mp p7).1
    refine wp_ret (d := .tup (((gs.take q.toNat ++ [(("connection" : Str), w6)] ++ gs.drop q.toNat)).map gD)) (m1 := m7.set l4 (.lst (((gs.take q.toNat ++ [(("connection" : Str), w6)] ++ gs.drop q.toNat)).map gD))) (by rw [ev_bi_ (ev_var_ (x := .ref l4) rfl)]; exact tuple_l _ _ _ p8) ⟨_, _, rfl, gok_of ?_ fun p hp => ?_, T7.setO hn3.1 hn3.2 _, (((K4.trans K5).trans K6).trans K7).setNew new _⟩
    · rw [List.length_append, List.length_append, List.length_singleton, List.length_take, List.length_drop]
      omega
    · rcases List.mem_append.mp hp with hp | hp
      · rcases List.mem_append.mp hp with hp | hp
        · exact .inl (hgs p (List.mem_of_mem_take hp))
        · rw [List.mem_singleton.mp hp]
          exact .inr ⟨rfl, hw6⟩
      · exact .inl (hgs p (List.mem_of_mem_drop hp))
  · rw [decide_eq_false hr] at et
    refine Dr.wp_no et ?_
    exact wp_ret (d := .tup (gs.map gD)) (m1 := m5) (by rw [ev_bi_ (ev_var_ (x := .ref l4) rfl)]; exact tuple_l _ _ _ p5) ⟨gs, m5, rfl, gok_of (by omega) fun p hp => .inl (hgs p hp), T5, K4.trans K5⟩
end
end K49

set_option linter.all false
set_option autoImplicit false
set_option Elab.async false
set_option maxRecDepth 100000
set_option maxHeartbeats 1000000
/-! K49h: the policy that is drawn. -/
namespace K49
noncomputable section
open PySem L2 Mi G49 Dr TL K07
theorem cutN (n : Nat) (xs : List D) : cutD xs none (some (n : Int)) = xs.take n := by
  by_cases h : n ≤ xs.length
  · exact cutDL xs n h
  · unfold cutD
    rw [show HT.sIx xs.length 0 none = 0 from rfl, List.drop_zero, HT.sIx_nat]
    rw [Nat.sub_zero, Nat.min_eq_right (by omega), List.take_of_length_le (Nat.le_refl _), List.take_of_length_le (by omega)]
theorem LD.sl4 {C : Mi.Cx} {e : E} {σ : Sl} {m : M} {xs : List D} (h : LD C e σ m xs) : LD C (.sl e .no (.so (.cst (.int 4)))) σ m (xs.take 4) := fun m' o => by
  obtain ⟨l, m1, e1, h1, o1⟩ := h m' o
  refine ⟨m1.length, m1 ++ [.lst (xs.take 4)], ?_, app_last _ _, o1.trans (Old.app _ _)⟩
  have s : slD (.ref l) none (some 4) m1 = .ok (.ref m1.length) (m1 ++ [.lst (xs.take 4)]) := by
    unfold slD
    simp only [h1]
    rw [show (some (4 : Int)) = some ((4 : Nat) : Int) from rfl, cutN]
    rfl
  rw [ev, e1, bind_ok]
  show ((evo C .no σ m1).bind fun l2 m2 => (evo C (.so (.cst (.int 4))) σ m2).bind fun h m3 => slD (.ref l) l2 h m3) = _
  rw [evo, bind_ok, evo, ev_cst_, bind_ok]
  show (R.ok (some 4) m1).bind _ = _
  rw [bind_ok]
  exact s
theorem tt {C : Mi.Cx} {es : Es} {σ : Sl} {m0 : M} {t c : Nat} {Q : List D → Prop} (hs : DTs C es σ m0 t c Q) : DT C (.tup es) σ m0 t c (fun _ => True) := (DT.tup hs).any
theorem aT {C : Mi.Cx} {e : E} {es : Es} {σ : Sl} {m0 : M} {t c n : Nat} {P : D → Prop} (h : DT C e σ m0 t c P) (hs : DTs C es σ m0 t c (fun ds => ds.length = n ∧ ∀ d ∈ ds, True)) : DTs C (.cons e es) σ m0 t c (fun ds => ds.length = n + 1 ∧ ∀ d ∈ ds, True) := DTs.consA h.any hs
/-! ### the rows -/
def oneW : List Str := ["a", "b-2", "x", "cookie", "accept", "9"]
theorem one_e {C : Mi.Cx} {σ : Sl} {m : M} {k : Nat} (hk : k < 6) (h : σ[4]? = some (some (.int (k : Nat)))) : ∃ w, ev C (.ix (.lst (.cons (.cst (.str "a")) (.cons (.cst (.str "b-2")) (.cons (.cst (.str "x")) (.cons (.cst (.str "cookie")) (.cons (.cst (.str "accept")) (.cons (.cst (.str "9")) .nil))))))) (.var 4)) σ m = .ok (.str w) (m ++ [.lst (oneW.map D.str)]) := by
  have hl : k < oneW.length := hk
  refine ⟨oneW[k], ?_⟩
  have e1 : ev C (.lst (.cons (.cst (.str "a")) (.cons (.cst (.str "b-2")) (.cons (.cst (.str "x")) (.cons (.cst (.str "cookie")) (.cons (.cst (.str "accept")) (.cons (.cst (.str "9")) .nil))))))) σ m = .ok (.ref m.length) (m ++ [.lst (oneW.map D.str)]) := by
    simp only [evSs, evS, ev, evs, evL, evTs, evo, evI, evT, bind_ok, bind_bad, out_ok, out_bad, obind_nx, obind_rt, obind_bk, obind_ct, obind_bad, fin_nx, fin_rt, fin_bad, tru_bl, tru_non, tru_int, chD_bl, Mi.add_int, Mi.sub_int, Mi.lt_int, Mi.le_int, Mi.gt_int, Mi.ge_int, Mi.eq_int, Mi.ne_int, Mi.eq_bl, Mi.ne_bl, Mi.eq_str, Mi.ne_str, Mi.is_non, Mi.nis_non, Mi.is_bl, Mi.nis_bl, isn_non, isn_bl, isn_int, isn_str, isn_tup, isn_fl, isn_ref, Mi.bi_len, Mi.bi_abs, Mi.bi_int, Mi.bi_intb, Mi.bi_min, Mi.bi_max, Mi.len_str, Mi.len_tup, Mi.len_fl, isi_int, isi_bl, isi_str, isi_non, isi_tup, isi_fl, isTy, List.any_cons, List.any_nil, setT_nm, Mi.lstT_nm, Mi.lstT_tup, List.getElem?_cons_zero, List.getElem?_cons_succ, List.set_cons_zero, List.set_cons_succ, decide_eq_true_eq, Bool.or_false, Bool.or_true, Bool.false_or, Bool.true_or, Bool.not_true, Bool.not_false, Bool.false_eq_true, if_true, if_false, reduceIte, negD, optD, ne_eq, not_true_eq_false, not_false_eq_true, decide_true, decide_false]
    rfl
  rw [ev_ix_ e1 (ev_var_ h)]
  refine ix_ref _ _ _ _ _ (app_last _ _) ?_
  rw [at_nat, List.getElem?_map, List.getElem?_eq_getElem hl]
  rfl
def Drw (d : D) : Prop := ∃ r, d = hrD r
theorem rows_e {k t c : Nat} {σ : Sl} {m : M} {s w : Str} (h0 : σ[0]? = some (some (.ref t))) (h5 : σ[5]? = some (some (.str s))) (h6 : σ[6]? = some (some (.str w))) :
    DT (cx (k + 2)) (.fn "_law_pick" 9 (.cons (.var 0) (.cons (.lst (.cons (.tup (.cons (.cst (.str "hide")) (.cons (.var 5) (.cons (.var 6) .nil)))) (.cons (.tup (.cons (.cst (.str "set")) (.cons (.var 5) (.cons (.var 6) (.cons (.fn "_law_pick" 9 (.cons (.var 0) (.cons (.lst (.cons (.cst (.str "")) (.cons (.cst (.str "new")) (.cons (.cst (.str "v, w")) .nil)))) .nil))) .nil))))) (.cons (.tup (.cons (.cst (.str "from")) (.cons (.var 6) .nil))) .nil)))) .nil))) σ m t c Drw := by
  refine DT.pickA (n := 3) (pick_k k) h0 (DTs.consA ?_ (DTs.consA ?_ (DTs.consA ?_ DTs.nilA))) (by decide)
  · exact (DT.pure (d := hrD (.hide s w)) fun m K => ev_tup (evs_c ev_cst_ (evs_c (ev_var_ h5) (evs_c (ev_var_ h6) evs_n)))).mono fun d e => ⟨_, e⟩
  · have pv : DT (cx (k + 2)) (.fn "_law_pick" 9 (.cons (.var 0) (.cons (.lst (.cons (.cst (.str "")) (.cons (.cst (.str "new")) (.cons (.cst (.str "v, w")) .nil)))) .nil))) σ m t c (fun d => ∃ v : Str, d = .str v) :=
      DT.pickA (n := 3) (pick_k k) h0 (DTs.consA (DT.cst.mono fun d e => ⟨_, e⟩) (DTs.consA (DT.cst.mono fun d e => ⟨_, e⟩) (DTs.consA (DT.cst.mono fun d e => ⟨_, e⟩) DTs.nilA))) (by decide)
    refine (DT.tup (DTs.cons DT.cst (DTs.cons (DT.var h5) (DTs.cons (DT.var h6) (DTs.cons pv DTs.nil))))).mono fun d q => ?_
    obtain ⟨_, rfl, d1, _, rfl, rfl, d2, _, rfl, rfl, d3, _, rfl, rfl, d4, _, rfl, ⟨v, rfl⟩, rfl⟩ := q
    exact ⟨.set s w v, rfl⟩
  · exact (DT.pure (d := hrD (.frm w)) fun m K => ev_tup (evs_c ev_cst_ (evs_c (ev_var_ h6) evs_n))).mono fun d e => ⟨_, e⟩
/-! ### the trusted addresses -/
def Dts (d : D) : Prop := ∃ ts : List (Int × Int), d = .tup (ts.map tD)
theorem trust_e {k t c : Nat} {σ : Sl} {m : M} (h0 : σ[0]? = some (some (.ref t))) :
    DT (cx (k + 2)) (.fn "_law_pick" 9 (.cons (.var 0) (.cons (.lst (.cons (.tup .nil) (.cons (.tup (.cons (.tup (.cons (.cst (.int 16909060)) (.cons (.cst (.int 16909070)) .nil))) .nil)) (.cons (.tup (.cons (.tup (.cons (.cst (.int 0)) (.cons (.cst (.int 134744071)) .nil))) (.cons (.tup (.cons (.cst (.int 134744073)) (.cons (.cst (.int 4294967295)) .nil))) .nil))) .nil)))) .nil))) σ m t c Dts := by
  refine DT.pickA (n := 3) (pick_k k) h0 (DTs.consA ?_ (DTs.consA ?_ (DTs.consA ?_ DTs.nilA))) (by decide)
  · exact (DT.pure (d := .tup (([] : List (Int × Int)).map tD)) fun m K => ev_tup evs_n).mono fun d e => ⟨_, e⟩
  · exact (DT.pure (d := .tup (([(16909060, 16909070)] : List (Int × Int)).map tD)) fun m K => ev_tup (evs_c (ev_tup (evs_c ev_cst_ (evs_c ev_cst_ evs_n))) evs_n)).mono fun d e => ⟨_, e⟩
  · exact (DT.pure (d := .tup (([(0, 134744071), (134744073, 4294967295)] : List (Int × Int)).map tD)) fun m K => ev_tup (evs_c (ev_tup (evs_c ev_cst_ (evs_c ev_cst_ evs_n))) (evs_c (ev_tup (evs_c ev_cst_ (evs_c ev_cst_ evs_n))) evs_n))).mono fun d e => ⟨_, e⟩
end
end K49

set_option linter.all false
set_option autoImplicit false
set_option Elab.async false
set_option maxRecDepth 100000
set_option maxHeartbeats 1000000
/-! K49i: routes, errors, the whole policy. -/
namespace K49
noncomputable section
open PySem L2 Mi G49 Dr TL K07
theorem anyI {C : Mi.Cx} {e : E} {σ : Sl} {m0 : M} {t c : Nat} {P : Int → Prop} (h : DT C e σ m0 t c (fun d => ∃ r : Int, d = .int r ∧ P r)) : DT C e σ m0 t c (fun d => ∃ r : Int, d = .int r) := h.mono fun d q => let ⟨r, e, _⟩ := q; ⟨r, e⟩
theorem cstI {C : Mi.Cx} {σ : Sl} {m0 : M} {t c : Nat} (n : Int) : DT C (.cst (.int n)) σ m0 t c (fun d => ∃ r : Int, d = .int r) := DT.cst.mono fun d e => ⟨n, e⟩
/-- one row more, if at all -/
theorem route_f {k t c lr : Nat} {m0 : M} (hn : lr ≠ t ∧ lr ≠ c) (hm : m0.length ≤ lr) (x1 : Str) (x2 x3 x4 x5 x6 : Option D) (host : D) (pf : List D) (hpf : pf.length ≤ 5) (x10 x11 x12 x13 x14 x15 x16 x17 x18 : Option D) (ds : List D) (hds : ds.length ≤ 1000) (m : M) (T : Tp m t c) (K : Kp t c m0 m) (hl : m[lr]? = some (.lst ds)) :
    NC (fun σ m' => ∃ x10 x11 x12 x13, σ = [some (.ref t), some (.str x1), x2, x3, x4, x5, x6, some (.ref lr), some host, some (.tup pf), x10, x11, x12, x13, x14, x15, x16, x17, x18] ∧ (∃ ds', m'[lr]? = some (.lst ds') ∧ ds'.length ≤ ds.length + 1) ∧ Tp m' t c ∧ Kp t c m0 m') (evSs (cx (k + 2)) b__law_policy_f2 [some (.ref t), some (.str x1), x2, x3, x4, x5, x6, some (.ref lr), some host, some (.tup pf), x10, x11, x12, x13, x14, x15, x16, x17, x18] m) := by
  unfold b__law_policy_f2
  obtain ⟨r, m1, e1, r0, r1, T1, K1⟩ := draw_e (C := cx (k + 2)) (f := 8) (x := "_law_draw") (j := 0) (e := .cst (.int 4)) (σ := [some (.ref t), some (.str x1), x2, x3, x4, x5, x6, some (.ref lr), some host, some (.tup pf), x10, x11, x12, x13, x14, x15, x16, x17, x18]) (m := m) (n := 4) (draw_k (k + 1)) rfl ev_cst_ T (by decide) (by decide)
  have p1 := K1.at_ _ _ hn.1 hn.2 hl
  have et : evT (cx (k + 2)) (.cmp .gt (.fn "_law_draw" 8 (.cons (.var 0) (.cons (.cst (.int 4)) .nil))) (.cst (.int 0))) [some (.ref t), some (.str x1), x2, x3, x4, x5, x6, some (.ref lr), some host, some (.tup pf), x10, x11, x12, x13, x14, x15, x16, x17, x18] m = .ok (decide (r > 0)) m1 := by
    refine evT_of ?_
    rw [ev_cmp_ e1 ev_cst_, Mi.gt_int]
  by_cases hr : r > 0
  · rw [decide_eq_true hr] at et
    refine Dr.wp_then et ?_
    refine wp_setT (P := fun d => ∃ n, d = .tup (cutD [.str "GET", .str "HEAD", .str "PUT", .str "POST", .str "DELETE"] none (some n))) (DT.slT (fun m K => ev_tup (evs_c ev_cst_ (evs_c ev_cst_ (evs_c ev_cst_ (evs_c ev_cst_ (evs_c ev_cst_ evs_n)))))) (DT.pickA (n := 4) (pick_k k) rfl (DTs.consA (cstI 5) (DTs.consA (cstI 5) (DTs.consA (cstI 4) (DTs.consA (cstI 1) DTs.nilA)))) (by decide))) T1 fun d2 m2 P2 T2 K2 => ?_
    simp only [List.set_cons_succ, List.set_cons_zero]
    refine wp_setT (P := fun _ => True) (DT.pickA (n := 4) (pick_k k) rfl (DTs.consA (tt DTs.nil) (DTs.consA (tt (DTs.cons DT.cst DTs.nil)) (DTs.consA (tt (DTs.cons DT.cst (DTs.cons DT.cst DTs.nil))) (DTs.consA (tt (DTs.cons DT.cst (DTs.cons DT.cst (DTs.cons DT.cst (DTs.cons DT.cst DTs.nil))))) DTs.nilA)))) (by decide)) T2 fun d3 m3 P3 T3 K3 => ?_
    simp only [List.set_cons_succ, List.set_cons_zero]
    refine wp_setT (P := fun d => ∃ n, d = .tup (cutD [.str "few"] none (some n))) (DT.slT (fun m K => ev_tup (evs_c ev_cst_ evs_n)) (anyI (DT.draw (draw_k (k + 1)) rfl (fun m K => ev_cst_) (by decide) (by decide)))) T3 fun d4 m4 P4 T4 K4 => ?_
    simp only [List.set_cons_succ, List.set_cons_zero]
    refine wp_setT (P := fun d => ∃ r : Int, d = .int r ∧ 0 ≤ r ∧ r < (pf.length : Int) + 1) (DT.draw (draw_k (k + 1)) rfl (fun m K => add_t (by rw [ev_bi_ (ev_var_ (x := .tup pf) rfl)]; rfl) ev_cst_) (by omega) (by omega)) T4 fun d5 m5 P5 T5 K5 => ?_
    simp only [List.set_cons_succ, List.set_cons_zero]
    have p5 := K5.at_ _ _ hn.1 hn.2 (K4.at_ _ _ hn.1 hn.2 (K3.at_ _ _ hn.1 hn.2 (K2.at_ _ _ hn.1 hn.2 p1)))
    have dt : DT (cx (k + 2)) (.tup (.cons (.var 8) (.cons (.var 9) (.cons (.var 10) (.cons (.var 1) (.cons (.var 13) (.cons (.var 11) (.cons (.var 12) (.cons (.fn "_law_pick" 9 (.cons (.var 0) (.cons (.lst (.cons (.cst (.int 1)) (.cons (.cst (.int 2)) (.cons (.cst (.int 5)) (.cons (.cst (.int 9)) .nil))))) .nil))) (.cons (.bin .add (.cst (.int 1)) (.fn "_law_draw" 8 (.cons (.var 0) (.cons (.cst (.int 3)) .nil)))) .nil)))))))))) [some (.ref t), some (.str x1), x2, x3, x4, x5, x6, some (.ref lr), some host, some (.tup pf), some d2, some d3, some d4, some d5, x14, x15, x16, x17, x18] m5 t c (fun _ => True) :=
      tt (DTs.cons (DT.var rfl) (DTs.cons (DT.var rfl) (DTs.cons (DT.var rfl) (DTs.cons (DT.var rfl) (DTs.cons (DT.var rfl) (DTs.cons (DT.var rfl) (DTs.cons (DT.var rfl) (DTs.cons (DT.pickA (n := 4) (pick_k k) rfl (DTs.consA (cstI 1) (DTs.consA (cstI 2) (DTs.consA (cstI 5) (DTs.consA (cstI 9) DTs.nilA)))) (by decide)) (DTs.cons (DT.addI (P := fun _ => True) (DT.cst.mono fun d e => ⟨1, e, trivial⟩) (DT.draw (draw_k (k + 1)) rfl (fun m K => ev_cst_) (by decide) (by decide))) DTs.nil)))))))))
    obtain ⟨d6, m6, e6, _, T6, K6⟩ := dt m5 T5 (Kp.refl _ _ _)
    have p6 := K6.at_ _ _ hn.1 hn.2 p5
    refine wp_append (i := 7) (d := d6) (m2 := m6) rfl p5 e6 p6 (by unfold line; omega) ?_
    refine bd_nil (nc_nil ⟨_, _, _, _, rfl, ⟨ds ++ [d6], List.getElem?_set_self (List.getElem?_eq_some_iff.mp p6).1, by rw [List.length_append, List.length_singleton]; omega⟩, T6.setO hn.1 hn.2 _, ((((((K.trans K1).trans K2).trans K3).trans K4).trans K5).trans K6).setNew hm _⟩)
  · rw [decide_eq_false hr] at et
    refine Dr.wp_no et ?_
    exact nc_nil ⟨_, _, _, _, rfl, ⟨ds, p1, by omega⟩, T1, K.trans K1⟩
def pfs : List (List D) := [[], [.str "b"], [.str "b", .str "c"], [.str "b", .str "c", .str "d", .str "e", .str "f"]]
theorem pfs_ok : ∀ p ∈ pfs, p.length ≤ 5 := fun p hp => by
  simp only [pfs, List.mem_cons, List.not_mem_nil, or_false] at hp
  rcases hp with rfl | rfl | rfl | rfl <;> simp
/-! ### errors -/
def errW : List Str := ["refused", "no route", "none", "limit", "broken", "late"]
theorem errW_ok : ∀ w ∈ errW, w.length ≤ 100 := by decide +kernel
theorem err_e {k t c lw : Nat} {σ : Sl} {m : M} {i : Nat} (hi : i < 6) (h0 : σ[0]? = some (some (.ref t))) (h4 : σ[4]? = some (some (.int (i : Nat)))) (h14 : σ[14]? = some (some (.ref lw))) (hn : lw ≠ t ∧ lw ≠ c) (hl : m[lw]? = some (.lst (errW.map D.str))) :
    DT (cx (k + 2)) b__law_policy_e3 σ m t c (fun _ => True) := by
  have hil : i < errW.length := hi
  have ix : ∀ m', Kp t c m m' → ev (cx (k + 2)) (.ix (.var 14) (.var 4)) σ m' = .ok (.str errW[i]) m' := fun m' K => by
    rw [ev_ix_ (ev_var_ h14) (ev_var_ h4)]
    refine ix_ref _ _ _ _ _ (K.at_ _ _ hn.1 hn.2 hl) ?_
    rw [at_nat, List.getElem?_map, List.getElem?_eq_getElem hil]
    rfl
  unfold b__law_policy_e3
  refine tt (DTs.cons (DT.pure ix) (DTs.cons (DT.addI (P := fun _ => True) (DT.pure (d := .int (400 + 7 * (i : Int))) (fun m' K => add_t ev_cst_ (by rw [ev_bin_ ev_cst_ (ev_var_ h4)]; exact Mi.mulL 7 _ m' (sm _ (by decide)))) |>.mono fun d e => ⟨_, e, trivial⟩) (DT.draw (draw_k (k + 1)) h0 (fun m K => ev_cst_) (by decide) (by decide))) (DTs.cons (DT.pickA (P := fun _ => True) (n := 3) (pick_k k) h0 (DTs.consA DT.cst.any (DTs.consA DT.cst.any (DTs.consA (DT.pure (d := .str ("sorry: " ++ errW[i])) (fun m' K => ?_)).any DTs.nilA))) (by decide)) DTs.nil)))
  rw [ev_bin_ ev_cst_ (ix m' K)]
  have := errW_ok errW[i] (List.getElem_mem hil)
  have sl : ("sorry: " : Str).length = 7 := by decide +kernel
  exact Mi.add_str _ _ m' (by unfold line; omega)
end
end K49

set_option linter.all false
set_option autoImplicit false
set_option Elab.async false
set_option maxRecDepth 100000
set_option maxHeartbeats 1000000
/-! K49j: the whole policy. -/
namespace K49
noncomputable section
open PySem L2 Mi G49 Dr TL K07
/-- a policy that grows -/
structure Pg (m : M) (lp : Nat) (rs : List HR) (ts : List (Int × Int)) (n : Nat) : Prop where
  ex : ∃ kvs, m[lp]? = some (.dic kvs) ∧ kvs.length ≤ n ∧ valK kvs (.inr "headers") = some (.tup (rs.map hrD)) ∧ valK kvs (.inr "trusted") = some (.tup (ts.map tD))
theorem key_ne {a b : Str} (h : a ≠ b) : ¬ (Sum.inr a : Key) = .inr b := fun e => h (Sum.inr.inj e)
theorem wp_grow {C : Mi.Cx} {σ : Sl} {m : M} {t c : Nat} {Post : Out → Prop} {i lp : Nat} {w : Str} {e : E} {r : Ss} {P : D → Prop} {rs : List HR} {ts : List (Int × Int)} {n : Nat} {m0 : M} (h : DT C e σ m t c P) (T : Tp m t c) (K : Kp t c m0 m) (hm : m0.length ≤ lp) (hi : σ[i]? = some (some (.ref lp))) (hp : Pg m lp rs ts n) (hn : lp ≠ t ∧ lp ≠ c) (hk : n < 1000) (n1 : ("headers" : Str) ≠ w) (n2 : ("trusted" : Str) ≠ w)
    (k : ∀ (m' : M), Tp m' t c → Kp t c m0 m' → Pg m' lp rs ts (n + 1) → Post (evSs C r σ m')) : Post (evSs C (.cons (.six (.var i) (.cst (.str w)) e) r) σ m) := by
  obtain ⟨kvs, h1, h2, h3, h4⟩ := hp.ex
  refine wp_sixT h T hi h1 hn (by unfold line; omega) fun d m' _ T' K' hl => k _ T' ((K.trans K').setNew hm _) ⟨_, hl, ?_, ?_, ?_⟩
  · have := len_putKD kvs (.inr w) d
    omega
  · rw [valK_put, if_neg (key_ne n1)]
    exact h3
  · rw [valK_put, if_neg (key_ne n2)]
    exact h4
theorem kwne : ("headers" : Str) ≠ "routes" ∧ ("trusted" : Str) ≠ "routes" ∧ ("headers" : Str) ≠ "errors" ∧ ("trusted" : Str) ≠ "errors" ∧ ("headers" : Str) ≠ "trusted" ∧ ("headers" : Str) ≠ "services" ∧ ("trusted" : Str) ≠ "services" ∧ ("headers" : Str) ≠ "limits" ∧ ("trusted" : Str) ≠ "limits" ∧ ("headers" : Str) ≠ "rules" ∧ ("trusted" : Str) ≠ "rules" ∧ ("headers" : Str) ≠ "times" ∧ ("trusted" : Str) ≠ "times" ∧ ("headers" : Str) ≠ "room" ∧ ("trusted" : Str) ≠ "room" ∧ ("headers" : Str) ≠ "keep" ∧ ("trusted" : Str) ≠ "keep" := by decide +kernel
theorem policy_k (k t c : Nat) (x1 : Str) (srv : D) (m : M) (T0 : Tp m t c) : ∃ (lp : Nat) (rs : List HR) (ts : List (Int × Int)) (m' : M), callF T FU CON (k + 3) 20 [.ref t, .str x1, srv] m = .ok (.ref lp) m' ∧ Pol m' lp rs ts ∧ rs.length ≤ 100 ∧ (lp ≠ t ∧ lp ≠ c) ∧ Tp m' t c ∧ Kp t c m m' := by
  rw [c__law_policy]
  let Post : Out → Prop := fun u => ∃ (lp : Nat) (rs : List HR) (ts : List (Int × Int)) (m' : M), u.fin = .ok (.ref lp) m' ∧ Pol m' lp rs ts ∧ rs.length ≤ 100 ∧ (lp ≠ t ∧ lp ≠ c) ∧ Tp m' t c ∧ Kp t c m m'
  show Post _
  have fresh : ∀ m' : M, m.length ≤ m'.length → ∀ l, m'.length ≤ l → l ≠ t ∧ l ≠ c := fun m' h l hl => by have := T0.lt; omega
  unfold b__law_policy
  -- the rows
  refine wp_set (d := .ref m.length) (m1 := m ++ [.lst []]) (by simp only [evSs, evS, ev, evs, evL, evTs, evo, evI, evT, bind_ok, bind_bad, out_ok, out_bad, obind_nx, obind_rt, obind_bk, obind_ct, obind_bad, fin_nx, fin_rt, fin_bad, tru_bl, tru_non, tru_int, chD_bl, Mi.add_int, Mi.sub_int, Mi.lt_int, Mi.le_int, Mi.gt_int, Mi.ge_int, Mi.eq_int, Mi.ne_int, Mi.eq_bl, Mi.ne_bl, Mi.eq_str, Mi.ne_str, Mi.is_non, Mi.nis_non, Mi.is_bl, Mi.nis_bl, isn_non, isn_bl, isn_int, isn_str, isn_tup, isn_fl, isn_ref, Mi.bi_len, Mi.bi_abs, Mi.bi_int, Mi.bi_intb, Mi.bi_min, Mi.bi_max, Mi.len_str, Mi.len_tup, Mi.len_fl, isi_int, isi_bl, isi_str, isi_non, isi_tup, isi_fl, isTy, List.any_cons, List.any_nil, setT_nm, Mi.lstT_nm, Mi.lstT_tup, List.getElem?_cons_zero, List.getElem?_cons_succ, List.set_cons_zero, List.set_cons_succ, decide_eq_true_eq, Bool.or_false, Bool.or_true, Bool.false_or, Bool.true_or, Bool.not_true, Bool.not_false, Bool.false_eq_true, if_true, if_false, reduceIte, negD, optD, ne_eq, not_true_eq_false, not_false_eq_true, decide_true, decide_false]; rfl) rfl ?_
  simp only [List.set_cons_succ, List.set_cons_zero]
  have T1 := T0.app [Mi.O.lst []]
  have p1 := app_last m (.lst [])
  have K1 := Kp.app t c m [Mi.O.lst []]
  have hn := T0.new
  generalize m ++ [Mi.O.lst []] = m1 at *
  obtain ⟨r, m2, e2, r0, r1, T2, K2⟩ := draw_e (C := cx (k + 2)) (f := 8) (x := "_law_draw") (j := 0) (e := .cst (.int 6)) (σ := [some (.ref t), some (.str x1), some srv, some (.ref m.length), none, none, none, none, none, none, none, none, none, none, none, none, none, none, none]) (m := m1) (n := 6) (draw_k (k + 1)) rfl ev_cst_ T1 (by decide) (by decide)
  obtain ⟨n, rfl, hn6⟩ : ∃ n : Nat, r = (n : Int) ∧ n < 6 := ⟨r.toNat, by omega, by omega⟩
  have p2 := K2.at_ _ _ hn.1 hn.2 p1
  refine wp_for (m1 := m2) (fun pre σ m' => ∃ x4 x5 x6, σ = [some (.ref t), some (.str x1), some srv, some (.ref m.length), x4, x5, x6, none, none, none, none, none, none, none, none, none, none, none, none] ∧ (∃ rs : List HR, m'[m.length]? = some (.lst (rs.map hrD)) ∧ rs.length = pre.length) ∧ Tp m' t c ∧ Kp t c m m') (evI_rng1 (n := n) e2 (by unfold line; omega)) ⟨_, _, _, rfl, ⟨[], p2, rfl⟩, T2, K1.trans K2⟩ ?_ ?_
  · rintro pre y post σ m3 hy ⟨x4, x5, x6, rfl, ⟨rs, hl, hrs⟩, T3, K3⟩
    obtain ⟨rfl, hj⟩ := rng_get hy
    refine ⟨[some (.ref t), some (.str x1), some srv, some (.ref m.length), some (.int (pre.length : Nat)), x5, x6, none, none, none, none, none, none, none, none, none, none, none, none], rfl, ?_⟩
    unfold b__law_policy_f1
    refine wp_setT (P := fun d => ∃ s : Str, d = .str s) (DT.pickA (n := 2) (pick_k k) rfl (DTs.consA (DT.cst.mono fun d e => ⟨_, e⟩) (DTs.consA (DT.cst.mono fun d e => ⟨_, e⟩) DTs.nilA)) (by decide)) T3 fun d4 m4 P4 T4 K4 => ?_
    obtain ⟨s, rfl⟩ := P4
    simp only [List.set_cons_succ, List.set_cons_zero]
    obtain ⟨w, e5⟩ := one_e (C := cx (k + 2)) (σ := [some (.ref t), some (.str x1), some srv, some (.ref m.length), some (.int (pre.length : Nat)), some (.str s), x6, none, none, none, none, none, none, none, none, none, none, none, none]) (m := m4) (k := pre.length) (by omega) rfl
    refine wp_set e5 rfl ?_
    simp only [List.set_cons_succ, List.set_cons_zero]
    have T5 := T4.app [Mi.O.lst (oneW.map D.str)]
    have K5 := Kp.app t c m4 [Mi.O.lst (oneW.map D.str)]
    generalize m4 ++ [Mi.O.lst (oneW.map D.str)] = m5 at *
    have p5 := K5.at_ _ _ hn.1 hn.2 (K4.at_ _ _ hn.1 hn.2 hl)
    obtain ⟨d6, m6, e6, ⟨r, rfl⟩, T6, K6⟩ := rows_e (k := k) (t := t) (c := c) (σ := [some (.ref t), some (.str x1), some srv, some (.ref m.length), some (.int (pre.length : Nat)), some (.str s), some (.str w), none, none, none, none, none, none, none, none, none, none, none, none]) (m := m5) (s := s) (w := w) rfl rfl rfl m5 T5 (Kp.refl _ _ _)
    have p6 := K6.at_ _ _ hn.1 hn.2 p5
    refine wp_append (i := 3) (d := hrD r) (m2 := m6) rfl p5 e6 p6 (by rw [List.length_map]; unfold line; omega) ?_
    refine nc_nil ⟨_, _, _, rfl, ⟨rs ++ [r], ?_, by rw [List.length_append, List.length_append, List.length_singleton, List.length_singleton, hrs]⟩, T6.setO hn.1 hn.2 _, (((K3.trans K4).trans K5).trans K6).setNew (Nat.le_refl _) _⟩
    rw [List.getElem?_set_self (List.getElem?_eq_some_iff.mp p6).1, List.map_append]
    rfl
  rintro σ m3 ⟨x4, x5, x6, rfl, ⟨rs0, hl, hrs⟩, T3, K3⟩
  rw [List.length_map, List.length_range] at hrs
  let rs : List HR := rs0.filter (fun r => !r.isF) ++ (rs0.filter HR.isF).take 4
  have rsl : rs.length ≤ 100 := by
    have a := List.length_filter_le (fun r : HR => !r.isF) rs0
    have b := List.length_take_le 4 (rs0.filter HR.isF)
    show (rs0.filter (fun r => !r.isF) ++ (rs0.filter HR.isF).take 4).length ≤ 100
    rw [List.length_append]
    omega
  unfold b__law_policy_e1 b__law_policy_e2
  refine wp_LN (xs := rs.map hrD) ?_ fun l4 m4 h4 o4 n4 => ?_
  · show LN _ _ _ _ ((rs0.filter (fun r => !r.isF) ++ (rs0.filter HR.isF).take 4).map hrD)
    rw [List.map_append, List.map_take]
    refine LN.add (LD.lcFh (g := hrD) (p := fun r => !r.isF) (q := hrD) (xs := rs0) (i := 3) rfl hl fun m' o r hr => ⟨_, rfl, ?_, fun _ => ev_var_ rfl⟩) (LD.sl4 (LD.lcFh (g := hrD) (p := HR.isF) (q := hrD) (xs := rs0) (i := 3) rfl hl fun m' o r hr => ⟨_, rfl, ?_, fun _ => ev_var_ rfl⟩)) ?_
    · refine evT_of ?_
      rw [← kd_from]
      exact nes_p (ix_p (i := 18) rfl (ix0 r m')) ev_cst_
    · refine evT_of ?_
      rw [← kd_from]
      exact eqs_p (ix_p (i := 18) rfl (ix0 r m')) ev_cst_
    · have a := List.length_filter_le (fun r : HR => !r.isF) rs0
      have b := List.length_take_le 4 ((rs0.filter HR.isF).map hrD)
      rw [List.length_map]
      omega
  simp only [List.set_cons_succ, List.set_cons_zero]
  have K4 : Kp t c m m4 := K3.trans o4.kp
  have T4 := o4.tp T3
  have hn4 : l4 ≠ t ∧ l4 ≠ c := by have a := T3.lt; omega
  have ht4 := T4.lt
  -- the routes
  refine wp_set (d := .ref m4.length) (m1 := m4 ++ [.lst []]) (by simp only [evSs, evS, ev, evs, evL, evTs, evo, evI, evT, bind_ok, bind_bad, out_ok, out_bad, obind_nx, obind_rt, obind_bk, obind_ct, obind_bad, fin_nx, fin_rt, fin_bad, tru_bl, tru_non, tru_int, chD_bl, Mi.add_int, Mi.sub_int, Mi.lt_int, Mi.le_int, Mi.gt_int, Mi.ge_int, Mi.eq_int, Mi.ne_int, Mi.eq_bl, Mi.ne_bl, Mi.eq_str, Mi.ne_str, Mi.is_non, Mi.nis_non, Mi.is_bl, Mi.nis_bl, isn_non, isn_bl, isn_int, isn_str, isn_tup, isn_fl, isn_ref, Mi.bi_len, Mi.bi_abs, Mi.bi_int, Mi.bi_intb, Mi.bi_min, Mi.bi_max, Mi.len_str, Mi.len_tup, Mi.len_fl, isi_int, isi_bl, isi_str, isi_non, isi_tup, isi_fl, isTy, List.any_cons, List.any_nil, setT_nm, Mi.lstT_nm, Mi.lstT_tup, List.getElem?_cons_zero, List.getElem?_cons_succ, List.set_cons_zero, List.set_cons_succ, decide_eq_true_eq, Bool.or_false, Bool.or_true, Bool.false_or, Bool.true_or, Bool.not_true, Bool.not_false, Bool.false_eq_true, if_true, if_false, reduceIte, negD, optD, ne_eq, not_true_eq_false, not_false_eq_true, decide_true, decide_false]; rfl) rfl ?_
  simp only [List.set_cons_succ, List.set_cons_zero]
  have T5 := T4.app [Mi.O.lst []]
  have p5 := app_last m4 (.lst [])
  have K5 := Kp.app t c m4 [Mi.O.lst []]
  have hn7 := T4.new
  generalize m4 ++ [Mi.O.lst []] = m5 at *
  refine wp_for (m1 := m5) (fun pre σ m' => ∃ x8 x9 x10 x11 x12 x13, σ = [some (.ref t), some (.str x1), some srv, some (.ref l4), x4, x5, x6, some (.ref m4.length), x8, x9, x10, x11, x12, x13, none, none, none, none, none] ∧ (∃ ds : List D, m'[m4.length]? = some (.lst ds) ∧ ds.length ≤ 4 * pre.length) ∧ Tp m' t c ∧ Kp t c m4 m') (evI_tup (xs := [.str "a", .str "*"]) (by simp only [evSs, evS, ev, evs, evL, evTs, evo, evI, evT, bind_ok, bind_bad, out_ok, out_bad, obind_nx, obind_rt, obind_bk, obind_ct, obind_bad, fin_nx, fin_rt, fin_bad, tru_bl, tru_non, tru_int, chD_bl, Mi.add_int, Mi.sub_int, Mi.lt_int, Mi.le_int, Mi.gt_int, Mi.ge_int, Mi.eq_int, Mi.ne_int, Mi.eq_bl, Mi.ne_bl, Mi.eq_str, Mi.ne_str, Mi.is_non, Mi.nis_non, Mi.is_bl, Mi.nis_bl, isn_non, isn_bl, isn_int, isn_str, isn_tup, isn_fl, isn_ref, Mi.bi_len, Mi.bi_abs, Mi.bi_int, Mi.bi_intb, Mi.bi_min, Mi.bi_max, Mi.len_str, Mi.len_tup, Mi.len_fl, isi_int, isi_bl, isi_str, isi_non, isi_tup, isi_fl, isTy, List.any_cons, List.any_nil, setT_nm, Mi.lstT_nm, Mi.lstT_tup, List.getElem?_cons_zero, List.getElem?_cons_succ, List.set_cons_zero, List.set_cons_succ, decide_eq_true_eq, Bool.or_false, Bool.or_true, Bool.false_or, Bool.true_or, Bool.not_true, Bool.not_false, Bool.false_eq_true, if_true, if_false, reduceIte, negD, optD, ne_eq, not_true_eq_false, not_false_eq_true, decide_true, decide_false])) ⟨_, _, _, _, _, _, rfl, ⟨[], p5, by simp⟩, T5, K5⟩ ?_ ?_
  · rintro pre y post σ m6 hy ⟨x8, x9, x10, x11, x12, x13, rfl, ⟨ds, hl6, hds⟩, T6, K6⟩
    have plen : pre.length < 2 := by
      have := congrArg List.length hy
      simp only [List.length_cons, List.length_nil, List.length_append] at this
      omega
    refine ⟨[some (.ref t), some (.str x1), some srv, some (.ref l4), x4, x5, x6, some (.ref m4.length), some y, x9, x10, x11, x12, x13, none, none, none, none, none], rfl, ?_⟩
    unfold b__law_policy_f3
    refine wp_for (m1 := m6) (fun pre2 σ m' => ∃ x9 x10 x11 x12 x13, σ = [some (.ref t), some (.str x1), some srv, some (.ref l4), x4, x5, x6, some (.ref m4.length), some y, x9, x10, x11, x12, x13, none, none, none, none, none] ∧ (∃ ds : List D, m'[m4.length]? = some (.lst ds) ∧ ds.length ≤ 4 * pre.length + pre2.length) ∧ Tp m' t c ∧ Kp t c m4 m') (evI_tup (xs := pfs.map D.tup) (by simp only [evSs, evS, ev, evs, evL, evTs, evo, evI, evT, bind_ok, bind_bad, out_ok, out_bad, obind_nx, obind_rt, obind_bk, obind_ct, obind_bad, fin_nx, fin_rt, fin_bad, tru_bl, tru_non, tru_int, chD_bl, Mi.add_int, Mi.sub_int, Mi.lt_int, Mi.le_int, Mi.gt_int, Mi.ge_int, Mi.eq_int, Mi.ne_int, Mi.eq_bl, Mi.ne_bl, Mi.eq_str, Mi.ne_str, Mi.is_non, Mi.nis_non, Mi.is_bl, Mi.nis_bl, isn_non, isn_bl, isn_int, isn_str, isn_tup, isn_fl, isn_ref, Mi.bi_len, Mi.bi_abs, Mi.bi_int, Mi.bi_intb, Mi.bi_min, Mi.bi_max, Mi.len_str, Mi.len_tup, Mi.len_fl, isi_int, isi_bl, isi_str, isi_non, isi_tup, isi_fl, isTy, List.any_cons, List.any_nil, setT_nm, Mi.lstT_nm, Mi.lstT_tup, List.getElem?_cons_zero, List.getElem?_cons_succ, List.set_cons_zero, List.set_cons_succ, decide_eq_true_eq, Bool.or_false, Bool.or_true, Bool.false_or, Bool.true_or, Bool.not_true, Bool.not_false, Bool.false_eq_true, if_true, if_false, reduceIte, negD, optD, ne_eq, not_true_eq_false, not_false_eq_true, decide_true, decide_false]; rfl)) ⟨_, _, _, _, _, rfl, ⟨ds, hl6, by simp only [List.length_nil]; omega⟩, T6, K6⟩ ?_ ?_
    · rintro pre2 y2 post2 σ m7 hy2 ⟨x9, x10, x11, x12, x13, rfl, ⟨ds, hl7, hds7⟩, T7, K7⟩
      have mem2 : y2 ∈ pfs.map D.tup := by rw [hy2]; simp
      obtain ⟨pf, hpf, rfl⟩ := List.mem_map.mp mem2
      have plen2 : pre2.length < 4 := by
        have := congrArg List.length hy2
        simp only [List.length_map, List.length_append, List.length_cons] at this
        have e : pfs.length = 4 := rfl
        omega
      refine ⟨[some (.ref t), some (.str x1), some srv, some (.ref l4), x4, x5, x6, some (.ref m4.length), some y, some (.tup pf), x10, x11, x12, x13, none, none, none, none, none], rfl, ?_⟩
      obtain ⟨σ8, m8, e8, ⟨z10, z11, z12, z13, rfl, ⟨ds8, q8, l8⟩, T8, K8⟩⟩ := route_f (k := k) (t := t) (c := c) (lr := m4.length) (m0 := m4) hn7 (Nat.le_refl _) x1 (some srv) (some (.ref l4)) x4 x5 x6 y pf (pfs_ok pf hpf) x10 x11 x12 x13 none none none none none ds (by omega) m7 T7 K7 hl7
      exact ⟨_, m8, e8, _, _, _, _, _, rfl, ⟨ds8, q8, by rw [List.length_append, List.length_singleton]; omega⟩, T8, K8⟩
    rintro σ m7 ⟨x9, x10, x11, x12, x13, rfl, ⟨ds, hl7, hds7⟩, T7, K7⟩
    refine nc_nil ⟨_, _, _, _, _, _, rfl, ⟨ds, hl7, ?_⟩, T7, K7⟩
    have e : (pfs.map D.tup).length = 4 := rfl
    rw [e] at hds7
    rw [List.length_append, List.length_singleton]
    omega
  rintro σ m6 ⟨x8, x9, x10, x11, x12, x13, rfl, ⟨ds, hl6, hds⟩, T6, K6⟩
  -- the errors
  refine wp_set (d := .ref m6.length) (m1 := m6 ++ [.lst (errW.map D.str)]) (by simp only [evSs, evS, ev, evs, evL, evTs, evo, evI, evT, bind_ok, bind_bad, out_ok, out_bad, obind_nx, obind_rt, obind_bk, obind_ct, obind_bad, fin_nx, fin_rt, fin_bad, tru_bl, tru_non, tru_int, chD_bl, Mi.add_int, Mi.sub_int, Mi.lt_int, Mi.le_int, Mi.gt_int, Mi.ge_int, Mi.eq_int, Mi.ne_int, Mi.eq_bl, Mi.ne_bl, Mi.eq_str, Mi.ne_str, Mi.is_non, Mi.nis_non, Mi.is_bl, Mi.nis_bl, isn_non, isn_bl, isn_int, isn_str, isn_tup, isn_fl, isn_ref, Mi.bi_len, Mi.bi_abs, Mi.bi_int, Mi.bi_intb, Mi.bi_min, Mi.bi_max, Mi.len_str, Mi.len_tup, Mi.len_fl, isi_int, isi_bl, isi_str, isi_non, isi_tup, isi_fl, isTy, List.any_cons, List.any_nil, setT_nm, Mi.lstT_nm, Mi.lstT_tup, List.getElem?_cons_zero, List.getElem?_cons_succ, List.set_cons_zero, List.set_cons_succ, decide_eq_true_eq, Bool.or_false, Bool.or_true, Bool.false_or, Bool.true_or, Bool.not_true, Bool.not_false, Bool.false_eq_true, if_true, if_false, reduceIte, negD, optD, ne_eq, not_true_eq_false, not_false_eq_true, decide_true, decide_false]; rfl) rfl ?_
  simp only [List.set_cons_succ, List.set_cons_zero]
  have T7 := T6.app [Mi.O.lst (errW.map D.str)]
  have p7 := app_last m6 (.lst (errW.map D.str))
  have K7 := K6.trans (Kp.app t c m6 [Mi.O.lst (errW.map D.str)])
  have hn14 := T6.new
  have q7 := app_old hl6 [Mi.O.lst (errW.map D.str)]
  generalize m6 ++ [Mi.O.lst (errW.map D.str)] = m7 at *
  generalize m6.length = lw at *
  obtain ⟨es, m8, e8, _, _, T8, K8⟩ := lcT (C := cx (k + 2)) (vs := [4]) (x := .nm 4) (it := .rng1 (.cst (.int 6))) (e := b__law_policy_e3) (σ := [some (.ref t), some (.str x1), some srv, some (.ref l4), x4, x5, x6, some (.ref m4.length), x8, x9, x10, x11, x12, x13, some (.ref lw), none, none, none, none]) (m := m7) (m1 := m7) (fun _ => True) (evI_rng1 (n := 6) ev_cst_ (by unfold line; omega)) T7 fun y hy m' T' K' => by
    obtain ⟨i, hi, rfl⟩ := List.mem_map.mp hy
    rw [List.mem_range] at hi
    refine ⟨[some (.ref t), some (.str x1), some srv, some (.ref l4), some (.int (i : Nat)), x5, x6, some (.ref m4.length), x8, x9, x10, x11, x12, x13, some (.ref lw), none, none, none, none], rfl, ?_⟩
    exact err_e (k := k) (t := t) (c := c) (lw := lw) (σ := [some (.ref t), some (.str x1), some srv, some (.ref l4), some (.int (i : Nat)), x5, x6, some (.ref m4.length), x8, x9, x10, x11, x12, x13, some (.ref lw), none, none, none, none]) (m := m7) (i := i) hi rfl rfl rfl hn14 p7 m' T' K'
  refine wp_set (d := .tup es) (m1 := m8) (ev_tupL e8) rfl ?_
  simp only [List.set_cons_succ, List.set_cons_zero]
  -- the trusted addresses
  refine wp_setT (trust_e (k := k) rfl) T8 fun d9 m9 P9 T9 K9 => ?_
  obtain ⟨ts, rfl⟩ := P9
  simp only [List.set_cons_succ, List.set_cons_zero]
  have K9' := (K7.trans K8).trans K9
  have q9 := K9.at_ _ _ hn7.1 hn7.2 (K8.at_ _ _ hn7.1 hn7.2 q7)
  have h9 := K9'.at_ _ _ hn4.1 hn4.2 h4
  obtain ⟨w1, w2, w3, w4, w5, w6, w7, w8, w9, w10, w11, w12, w13, w14, w15, w16, w17⟩ := kwne
  have hn9 := T9.new
  refine wp_set (d := .ref m9.length) (m1 := m9 ++ [.dic (mergeKD [] [(.inr "routes", .tup ds), (.inr "headers", .tup (rs.map hrD)), (.inr "errors", .tup es), (.inr "trusted", .tup (ts.map tD))])]) ?_ rfl ?_
  · have a1 : ev (cx (k + 2)) (.bi .tuple (.cons (.var 7) .nil)) [some (.ref t), some (.str x1), some srv, some (.ref l4), x4, x5, x6, some (.ref m4.length), x8, x9, x10, x11, x12, x13, some (.ref lw), some (.tup es), some (.tup (ts.map tD)), none, none] m9 = .ok (.tup ds) m9 := by
      rw [ev_bi_ (ev_var_ (x := .ref m4.length) rfl)]
      exact tuple_l _ _ _ q9
    have a2 : ev (cx (k + 2)) (.bi .tuple (.cons (.var 3) .nil)) [some (.ref t), some (.str x1), some srv, some (.ref l4), x4, x5, x6, some (.ref m4.length), x8, x9, x10, x11, x12, x13, some (.ref lw), some (.tup es), some (.tup (ts.map tD)), none, none] m9 = .ok (.tup (rs.map hrD)) m9 := by
      rw [ev_bi_ (ev_var_ (x := .ref l4) rfl)]
      exact tuple_l _ _ _ h9
    rw [ev, evs_c a1 (evs_c a2 (evs_c (ev_var_ (x := .tup es) rfl) (evs_c (ev_var_ (x := .tup (ts.map tD)) rfl) evs_n))), bind_ok]
    rfl
  simp only [List.set_cons_succ, List.set_cons_zero]
  have pg : Pg (m9 ++ [.dic (mergeKD [] [(.inr "routes", .tup ds), (.inr "headers", .tup (rs.map hrD)), (.inr "errors", .tup es), (.inr "trusted", .tup (ts.map tD))])]) m9.length rs ts 4 := by
    refine ⟨_, app_last _ _, ?_, ?_, ?_⟩
    · simp only [mergeKD]
      have a := len_putKD [] (.inr "routes") (.tup ds)
      have b := len_putKD (putKD [] (.inr "routes") (.tup ds)) (.inr "headers") (.tup (rs.map hrD))
      have cc := len_putKD (putKD (putKD [] (.inr "routes") (.tup ds)) (.inr "headers") (.tup (rs.map hrD))) (.inr "errors") (.tup es)
      have d := len_putKD (putKD (putKD (putKD [] (.inr "routes") (.tup ds)) (.inr "headers") (.tup (rs.map hrD))) (.inr "errors") (.tup es)) (.inr "trusted") (.tup (ts.map tD))
      rw [List.length_nil] at a
      omega
    · simp only [mergeKD, valK_put]
      rw [if_neg (key_ne w5), if_neg (key_ne w3), if_pos trivial]
    · simp only [mergeKD, valK_put]
      rw [if_pos trivial]
  have Ta := T9.app [Mi.O.dic (mergeKD [] [(.inr "routes", .tup ds), (.inr "headers", .tup (rs.map hrD)), (.inr "errors", .tup es), (.inr "trusted", .tup (ts.map tD))])]
  have Ka := ((K4.trans K9').trans (Kp.app t c m9 [Mi.O.dic (mergeKD [] [(.inr "routes", .tup ds), (.inr "headers", .tup (rs.map hrD)), (.inr "errors", .tup es), (.inr "trusted", .tup (ts.map tD))])]))
  have nw : m.length ≤ m9.length := (K4.trans K9').len
  generalize m9 ++ [Mi.O.dic (mergeKD [] [(.inr "routes", .tup ds), (.inr "headers", .tup (rs.map hrD)), (.inr "errors", .tup es), (.inr "trusted", .tup (ts.map tD))])] = ma at *
  generalize m9.length = lp at *
  refine wp_grow (P := fun _ => True) (rs := rs) (ts := ts) (i := 17) (tt (DTs.cons (tt (DTs.cons (DT.var rfl) (DTs.cons (DT.var rfl) (DTs.cons DT.cst (DTs.cons DT.cst DTs.nil))))) DTs.nil)) Ta Ka nw rfl pg hn9 (by decide) w6 w7 fun mb Tb Kb pg => ?_
  refine wp_grow (P := fun _ => True) (rs := rs) (ts := ts) (i := 17) (tt (DTs.cons (tt (DTs.cons DT.cst (DTs.cons DT.cst (DTs.cons (tt (DTs.cons (DT.pickA (n := 3) (pick_k k) rfl (DTs.consA (cstI 1) (DTs.consA (cstI 2) (DTs.consA (cstI 9) DTs.nilA))) (by decide)) DTs.nil)) (DTs.cons (DT.pickA (P := fun _ => True) (n := 2) (pick_k k) rfl (DTs.consA (tt DTs.nil) (DTs.consA (tt (DTs.cons DT.cst DTs.nil)) DTs.nilA)) (by decide)) DTs.nil))))) DTs.nil)) Tb Kb nw rfl pg hn9 (by decide) w8 w9 fun mc Tc Kc pg => ?_
  refine wp_grow (P := fun _ => True) (rs := rs) (ts := ts) (i := 17) (tt (DTs.cons (tt DTs.nil) (DTs.cons (tt (DTs.cons (tt (DTs.cons DT.cst DTs.nil)) (DTs.cons (tt DTs.nil) DTs.nil))) DTs.nil))) Tc Kc nw rfl pg hn9 (by decide) w10 w11 fun md Td Kd pg => ?_
  refine wp_grow (rs := rs) (ts := ts) (i := 17) (DT.pure (d := .tup ([.str "times"] ++ (List.replicate 9 [D.int 60]).flatten)) fun m' K => ?_) Td Kd nw rfl pg hn9 (by decide) w12 w13 fun me Te Ke pg => ?_
  · rfl
  refine wp_grow (rs := rs) (ts := ts) (i := 17) DT.cst Te Ke nw rfl pg hn9 (by decide) w14 w15 fun mf Tf Kf pg => ?_
  refine wp_grow (rs := rs) (ts := ts) (i := 17) DT.cst Tf Kf nw rfl pg hn9 (by decide) w16 w17 fun mg Tg Kg pg => ?_
  obtain ⟨kvs, z1, _, z2⟩ := pg.ex
  exact wp_ret (d := .ref lp) (m1 := mg) (ev_var_ rfl) ⟨lp, rs, ts, mg, rfl, ⟨kvs, z1, z2⟩, rsl, hn9, Tg, Kg⟩
end
end K49

set_option linter.all false
set_option autoImplicit false
set_option Elab.async false
set_option maxRecDepth 100000
set_option maxHeartbeats 1000000
/-! K49: the law. -/
namespace K49
noncomputable section
open PySem L2 Mi G49 Dr TL K07
def gP (p : Str × Str) : PyData := snP p.1 p.2
theorem mapO_g (n : Nat) (m : M) : ∀ ps : List (Str × Str), mapO (toPy (n + 2) m) (ps.map gD) = some (ps.map gP)
  | [] => rfl
  | p :: ps => by
    rw [List.map_cons]
    unfold mapO
    rw [show toPy (n + 2) m (gD p) = some (gP p) from rfl, mapO_g n m ps]
    rfl
theorem eqv_gs : ∀ ps : List (Str × Str), PyData.eqvAll (ps.map gP) (ps.map gP) = true
  | [] => by rw [List.map_nil, PyData.eqvAll]
  | p :: ps => by
    rw [List.map_cons, PyData.eqvAll, eqv_gs ps]
    unfold gP
    rw [eqv_sn]
    simp
theorem ne_gs (ps : List (Str × Str)) (m : M) : cmpD .ne (.tup (ps.map gD)) (.tup (ps.map gD)) m = .ok (.bl false) m := by
  have e : toPy 60 m (.tup (ps.map gD)) = some (.tuple (ps.map gP)) := by
    unfold toPy
    dsimp only
    rw [mapO_g 57 m ps]
    rfl
  rw [ne_of_py m _ _ _ _ e e, PyData.eqv, eqv_gs]
  rfl
theorem ask_e {C : Mi.Cx} {σ : Sl} {m m1 : M} {i : Nat} {e : E} {ps : List (Str × Str)} (hi : σ[i]? = some (some (.tup (ps.map gD)))) (he : ev C e σ m = .ok (.tup (ps.map gD)) m1) : evT C (.or (.nt (.isi (.var i) true [.tuple])) (.cmp .ne (.var i) e)) σ m = .ok false m1 := by
  refine evT_of ?_
  have e1 : ev C (.nt (.isi (.var i) true [.tuple])) σ m = .ok (.bl false) m := by
    have is : ev C (.isi (.var i) true [.tuple]) σ m = .ok (.bl true) m := by
      rw [ev, ev_var_ hi, bind_ok]
      rfl
    rw [ev, is, bind_ok]
    rfl
  rw [ev, e1, bind_ok]
  show ((R.ok false m).bind fun k m2 => if k = true then R.ok (D.bl false) m2 else ev C (.cmp .ne (.var i) e) σ m2) = _
  rw [bind_ok, if_neg (by decide), ev_cmp_ (ev_var_ hi) he]
  exact ne_gs ps m1
def cliW : List Int := [16909059, 16909060, 16909070, 16909071, 134744071, 134744072, 134744073, 3758096383]
theorem turn_k (k t c : Nat) (x0 x2 x3 x4 x5 x6 x7 x8 : Option D) (m : M) (T0 : Tp m t c) : NC (fun σ m' => ∃ x3 x4 x5 x6 x7 x8, σ = [x0, some (.ref t), x2, x3, x4, x5, x6, x7, x8] ∧ Tp m' t c) (evSs (cx (k + 3)) b_law_f1 [x0, some (.ref t), x2, x3, x4, x5, x6, x7, x8] m) := by
  unfold b_law_f1
  obtain ⟨lp, rs, ts, m1, e1, P1, hr, hn, T1, K1⟩ := policy_k k t c "web" (.tup [.tup [.str "s", .int 167772161, .int 80, .int 1, .str "up"]]) m T0
  refine wp_set (d := .ref lp) (m1 := m1) ?_ rfl ?_
  · rw [ev, evs_c (ev_var_ (x := .ref t) rfl) (evs_c ev_cst_ (evs_c (ev_tup (evs_c (ev_tup (evs_c ev_cst_ (evs_c ev_cst_ (evs_c ev_cst_ (evs_c ev_cst_ (evs_c ev_cst_ evs_n)))))) evs_n)) evs_n)), bind_ok]
    exact e1
  simp only [List.set_cons_succ, List.set_cons_zero]
  obtain ⟨gs, m2, e2, g2, T2, K2⟩ := given_k k t c m1 T1
  refine wp_set (d := .tup (gs.map gD)) (m1 := m2) (by rw [ev_fn1 (ev_var_ (x := .ref t) rfl)]; exact e2) rfl ?_
  simp only [List.set_cons_succ, List.set_cons_zero]
  refine wp_setT (P := fun d => ∃ a : Int, d = .int a) (DT.pickA (n := 8) (pick_k (k + 1)) rfl (DTs.consA (cstI _) (DTs.consA (cstI _) (DTs.consA (cstI _) (DTs.consA (cstI _) (DTs.consA (cstI _) (DTs.consA (cstI _) (DTs.consA (cstI _) (DTs.consA (cstI _) DTs.nilA)))))))) (by decide)) T2 fun d3 m3 P3 T3 K3 => ?_
  obtain ⟨cl, rfl⟩ := P3
  simp only [List.set_cons_succ, List.set_cons_zero]
  refine wp_setT (P := fun d => ∃ a b : Int, d = .tup [.int a, .int b] ∧ (0 ≤ a ∧ a < 300) ∧ (0 ≤ b ∧ b < 12)) ((DT.tup (DTs.cons (DT.draw (draw_k (k + 2)) rfl (fun m K => ev_cst_) (by decide) (by decide)) (DTs.cons (DT.draw (draw_k (k + 2)) rfl (fun m K => ev_cst_) (by decide) (by decide)) DTs.nil))).mono fun d q => ?_) T3 fun d4 m4 P4 T4 K4 => ?_
  · obtain ⟨_, rfl, _, _, rfl, ⟨a, rfl, a0, a1⟩, _, _, rfl, ⟨b, rfl, b0, b1⟩, rfl⟩ := q
    exact ⟨a, b, rfl, ⟨a0, a1⟩, ⟨b0, b1⟩⟩
  obtain ⟨a, b, rfl, ⟨a0, a1⟩, ⟨b0, b1⟩⟩ := P4
  simp only [List.set_cons_succ, List.set_cons_zero]
  have P4 : Pol m4 lp rs ts := by
    obtain ⟨kvs, z1, z2⟩ := P1
    exact ⟨kvs, K4.at_ _ _ hn.1 hn.2 (K3.at_ _ _ hn.1 hn.2 (K2.at_ _ _ hn.1 hn.2 z1)), z2⟩
  obtain ⟨l5, m5, e5, h5, o5⟩ := lin_k (k + 1) lp rs ts cl a b gs g2 hr ⟨a0, by omega⟩ ⟨b0, by omega⟩ m4 P4
  refine wp_set (d := .tup ((insL rs ts cl a b gs).map gD)) (m1 := m5) ?_ rfl ?_
  · have : ev (cx (k + 3)) (.fn "_law_inside" 23 (.cons (.var 3) (.cons (.var 5) (.cons (.var 6) (.cons (.var 4) .nil))))) [x0, some (.ref t), x2, some (.ref lp), some (.tup (gs.map gD)), some (.int cl), some (.tup [.int a, .int b]), x7, x8] m4 = .ok (.ref l5) m5 := by
      rw [ev, evs_c (ev_var_ (x := .ref lp) rfl) (evs_c (ev_var_ (x := .int cl) rfl) (evs_c (ev_var_ (x := .tup [.int a, .int b]) rfl) (evs_c (ev_var_ (x := .tup (gs.map gD)) rfl) evs_n))), bind_ok]
      exact e5
    rw [ev_bi_ this]
    exact tuple_l _ _ _ h5
  simp only [List.set_cons_succ, List.set_cons_zero]
  have P5 := P4.old o5
  obtain ⟨m6, e6, o6⟩ := inside_k k rs ts cl a b gs g2 hr ⟨a0, by omega⟩ ⟨b0, by omega⟩ m5
  rw [ins_eq] at e6
  have P6 := P5.old o6
  refine wp_set (d := .tup ((insL rs ts cl a b gs).map gD)) (m1 := m6) ?_ rfl ?_
  · rw [ev, evs_c (P5.hd rfl) (evs_c (P5.tr rfl) (evs_c (ev_var_ (x := .int cl) rfl) (evs_c (ev_var_ (x := .tup [.int a, .int b]) rfl) (evs_c (ev_var_ (x := .tup (gs.map gD)) rfl) evs_n)))), bind_ok]
    exact e6
  simp only [List.set_cons_succ, List.set_cons_zero]
  refine Dr.wp_no (m1 := m6) (ask_e (i := 8) (ps := insL rs ts cl a b gs) rfl (ev_var_ rfl)) ?_
  obtain ⟨m7, e7, o7⟩ := outside_k k rs gs g2 hr m6
  rw [out_eq] at e7
  have P7 := P6.old o7
  refine wp_set (d := .tup ((outL rs gs).map gD)) (m1 := m7) ?_ rfl ?_
  · rw [ev, evs_c (P6.hd rfl) (evs_c (ev_var_ (x := .tup (gs.map gD)) rfl) evs_n), bind_ok]
    exact e7
  simp only [List.set_cons_succ, List.set_cons_zero]
  obtain ⟨l8, m8, e8, h8, o8⟩ := lout_k (k + 1) lp rs ts gs g2 hr m7 P7
  refine Dr.wp_no (m1 := m8) (ask_e (i := 8) (ps := outL rs gs) rfl ?_) ?_
  · have : ev (cx (k + 3)) (.fn "_law_outside" 24 (.cons (.var 3) (.cons (.var 4) .nil))) [x0, some (.ref t), x2, some (.ref lp), some (.tup (gs.map gD)), some (.int cl), some (.tup [.int a, .int b]), some (.tup ((insL rs ts cl a b gs).map gD)), some (.tup ((outL rs gs).map gD))] m7 = .ok (.ref l8) m8 := by
      rw [ev, evs_c (ev_var_ (x := .ref lp) rfl) (evs_c (ev_var_ (x := .tup (gs.map gD)) rfl) evs_n), bind_ok]
      exact e8
    rw [ev_bi_ this]
    exact tuple_l _ _ _ h8
  exact nc_nil ⟨_, _, _, _, _, _, rfl, (((o5.trans o6).trans o7).trans o8).tp T4⟩
theorem main (ns : List Int) (h : ns.length ≤ 63) : ∃ m, callF T FU CON 200 26 [.fl (ns.map D.int)] [] = .ok (.bl true) m := by
  rw [c_law]
  show Yes _
  unfold b_law
  refine wp_set (d := .ref 1) (m1 := [.lst (ns.map D.int), .lst [.int 0, .ref 0, .int 0]]) (by
    rw [ev, evs_c ev_cst_ (evs_c (ev_bi_ (ev_var_ rfl) |>.trans (show _ = R.ok (D.ref 0) [.lst (ns.map D.int)] from rfl)) (evs_c ev_cst_ evs_n)), bind_ok]
    rfl) rfl ?_
  simp only [List.set_cons_succ, List.set_cons_zero]
  have T0 : Tp [Mi.O.lst (ns.map D.int), .lst [.int 0, .ref 0, .int 0]] 1 0 := ⟨⟨0, 0, ns, rfl, rfl, by decide, by decide, by omega⟩, by decide⟩
  refine wp_for (m1 := [.lst (ns.map D.int), .lst [.int 0, .ref 0, .int 0]]) (fun pre σ m' => ∃ x2 x3 x4 x5 x6 x7 x8, σ = [some (.fl (ns.map D.int)), some (.ref 1), x2, x3, x4, x5, x6, x7, x8] ∧ Tp m' 1 0) (evI_rng1 (n := 4) ev_cst_ (by unfold line; omega)) ⟨_, _, _, _, _, _, _, rfl, T0⟩ ?_ ?_
  · rintro pre y post σ m hy ⟨x2, x3, x4, x5, x6, x7, x8, rfl, T⟩
    refine ⟨[some (.fl (ns.map D.int)), some (.ref 1), some y, x3, x4, x5, x6, x7, x8], rfl, ?_⟩
    obtain ⟨σ', m', e, y3, y4, y5, y6, y7, y8, rfl, T'⟩ := turn_k 196 1 0 (some (.fl (ns.map D.int))) (some y) x3 x4 x5 x6 x7 x8 m T
    exact ⟨_, m', e, _, _, _, _, _, _, _, rfl, T'⟩
  rintro σ m ⟨x2, x3, x4, x5, x6, x7, x8, rfl, T⟩
  exact yes_ret (m1 := m) ev_cst_
end
end K49

set_option linter.all false
set_option Elab.async false
set_option maxRecDepth 100000
set_option maxHeartbeats 0
namespace H49
open PySem PySem.Spec PyProof.Rows L2 G49
def top (i : Nat) : Stmt := PySem.Challenge.pw_onepolicy_k49_headers_that_go_on.main.body.getD i (.Pass ⟨0, 0, 0, 0⟩)
abbrev s_show_address : Stmt := top 1
abbrev N_show_address : List Str := ["address", "size"]
theorem sc_show_address : FnScope N_show_address ["address"] (defScope s_show_address) := ⟨rfl, rfl, rfl, by decide +kernel, rfl, by decide +kernel, by decide +kernel⟩
theorem k_show_address : Mi.chkSs I N_show_address b_show_address (defScope s_show_address) (defBody s_show_address) = true := by decide +kernel
def d_show_address : He.DefD := ⟨("show_address", none), "show_address", "show_address", defArgs s_show_address, defBody s_show_address, defScope s_show_address, [], []⟩
abbrev s_is_trusted : Stmt := top 3
abbrev N_is_trusted : List Str := ["trusted", "address", "low", "high"]
theorem sc_is_trusted : FnScope N_is_trusted ["trusted", "address"] (defScope s_is_trusted) := ⟨rfl, rfl, rfl, by decide +kernel, rfl, by decide +kernel, by decide +kernel⟩
theorem k_is_trusted : Mi.chkSs I N_is_trusted b_is_trusted (defScope s_is_trusted) (defBody s_is_trusted) = true := by decide +kernel
def d_is_trusted : He.DefD := ⟨("is_trusted", none), "is_trusted", "is_trusted", defArgs s_is_trusted, defBody s_is_trusted, defScope s_is_trusted, [], []⟩
abbrev s_named_by_connection : Stmt := top 4
abbrev N_named_by_connection : List Str := ["given", "names", "name", "value"]
theorem sc_named_by_connection : FnScope N_named_by_connection ["given"] (defScope s_named_by_connection) := ⟨rfl, rfl, rfl, by decide +kernel, rfl, by decide +kernel, by decide +kernel⟩
theorem k_named_by_connection : Mi.chkSs I N_named_by_connection b_named_by_connection (defScope s_named_by_connection) (defBody s_named_by_connection) = true := by decide +kernel
def d_named_by_connection : He.DefD := ⟨("named_by_connection", none), "named_by_connection", "named_by_connection", defArgs s_named_by_connection, defBody s_named_by_connection, defScope s_named_by_connection, [], []⟩
abbrev s_shut_names : Stmt := top 5
abbrev N_shut_names : List Str := ["headers", "side", "given", "rows", "row"]
theorem sc_shut_names : FnScope N_shut_names ["headers", "side", "given"] (defScope s_shut_names) := ⟨rfl, rfl, rfl, by decide +kernel, rfl, by decide +kernel, by decide +kernel⟩
theorem k_shut_names : Mi.chkSs I N_shut_names b_shut_names (defScope s_shut_names) (defBody s_shut_names) = true := by decide +kernel
def d_shut_names : He.DefD := ⟨("shut_names", none), "shut_names", "shut_names", defArgs s_shut_names, defBody s_shut_names, defScope s_shut_names, [], []⟩
abbrev s_set_headers : Stmt := top 6
abbrev N_set_headers : List Str := ["headers", "side", "row"]
theorem sc_set_headers : FnScope N_set_headers ["headers", "side"] (defScope s_set_headers) := ⟨rfl, rfl, rfl, by decide +kernel, rfl, by decide +kernel, by decide +kernel⟩
theorem k_set_headers : Mi.chkSs I N_set_headers b_set_headers (defScope s_set_headers) (defBody s_set_headers) = true := by decide +kernel
def d_set_headers : He.DefD := ⟨("set_headers", none), "set_headers", "set_headers", defArgs s_set_headers, defBody s_set_headers, defScope s_set_headers, [], []⟩
abbrev s_from_value : Stmt := top 7
abbrev N_from_value : List Str := ["name", "trusted", "client", "given", "first", "own", "other", "value"]
theorem sc_from_value : FnScope N_from_value ["name", "trusted", "client", "given"] (defScope s_from_value) := ⟨rfl, rfl, rfl, by decide +kernel, rfl, by decide +kernel, by decide +kernel⟩
theorem k_from_value : Mi.chkSs I N_from_value b_from_value (defScope s_from_value) (defBody s_from_value) = true := by decide +kernel
def d_from_value : He.DefD := ⟨("from_value", none), "from_value", "from_value", defArgs s_from_value, defBody s_from_value, defScope s_from_value, [], []⟩
abbrev s_inside_headers : Stmt := top 8
abbrev N_inside_headers : List Str := ["headers", "trusted", "client", "name", "given", "tellers", "shut", "kept", "row", "one"]
theorem sc_inside_headers : FnScope N_inside_headers ["headers", "trusted", "client", "name", "given"] (defScope s_inside_headers) := ⟨rfl, rfl, rfl, by decide +kernel, rfl, by decide +kernel, by decide +kernel⟩
theorem k_inside_headers : Mi.chkSs I N_inside_headers b_inside_headers (defScope s_inside_headers) (defBody s_inside_headers) = true := by decide +kernel
def d_inside_headers : He.DefD := ⟨("inside_headers", none), "inside_headers", "inside_headers", defArgs s_inside_headers, defBody s_inside_headers, defScope s_inside_headers, [], []⟩
abbrev s_outside_headers : Stmt := top 9
abbrev N_outside_headers : List Str := ["headers", "given", "shut", "one"]
theorem sc_outside_headers : FnScope N_outside_headers ["headers", "given"] (defScope s_outside_headers) := ⟨rfl, rfl, rfl, by decide +kernel, rfl, by decide +kernel, by decide +kernel⟩
theorem k_outside_headers : Mi.chkSs I N_outside_headers b_outside_headers (defScope s_outside_headers) (defBody s_outside_headers) = true := by decide +kernel
def d_outside_headers : He.DefD := ⟨("outside_headers", none), "outside_headers", "outside_headers", defArgs s_outside_headers, defBody s_outside_headers, defScope s_outside_headers, [], []⟩
abbrev s__law_draw : Stmt := top 11
abbrev N__law_draw : List Str := ["tape", "many", "cell", "mixed", "rest"]
theorem sc__law_draw : FnScope N__law_draw ["tape", "many"] (defScope s__law_draw) := ⟨rfl, rfl, rfl, by decide +kernel, rfl, by decide +kernel, by decide +kernel⟩
theorem k__law_draw : Mi.chkSs I N__law_draw b__law_draw (defScope s__law_draw) (defBody s__law_draw) = true := by decide +kernel
def d__law_draw : He.DefD := ⟨("_law_draw", none), "_law_draw", "_law_draw", defArgs s__law_draw, defBody s__law_draw, defScope s__law_draw, [], []⟩
abbrev s__law_pick : Stmt := top 12
abbrev N__law_pick : List Str := ["tape", "row"]
theorem sc__law_pick : FnScope N__law_pick ["tape", "row"] (defScope s__law_pick) := ⟨rfl, rfl, rfl, by decide +kernel, rfl, by decide +kernel, by decide +kernel⟩
theorem k__law_pick : Mi.chkSs I N__law_pick b__law_pick (defScope s__law_pick) (defBody s__law_pick) = true := by decide +kernel
def d__law_pick : He.DefD := ⟨("_law_pick", none), "_law_pick", "_law_pick", defArgs s__law_pick, defBody s__law_pick, defScope s__law_pick, [], []⟩
abbrev s__law_marks : Stmt := top 13
abbrev N__law_marks : List Str := ["method"]
theorem sc__law_marks : FnScope N__law_marks ["method"] (defScope s__law_marks) := ⟨rfl, rfl, rfl, by decide +kernel, rfl, by decide +kernel, by decide +kernel⟩
theorem k__law_marks : Mi.chkSs I N__law_marks b__law_marks (defScope s__law_marks) (defBody s__law_marks) = true := by decide +kernel
def d__law_marks : He.DefD := ⟨("_law_marks", none), "_law_marks", "_law_marks", defArgs s__law_marks, defBody s__law_marks, defScope s__law_marks, [], []⟩
abbrev s__law_string : Stmt := top 14
abbrev N__law_string : List Str := ["tape", "signs", "many", "k"]
theorem sc__law_string : FnScope N__law_string ["tape", "signs", "many"] (defScope s__law_string) := ⟨rfl, rfl, rfl, by decide +kernel, rfl, by decide +kernel, by decide +kernel⟩
theorem k__law_string : Mi.chkSs I N__law_string b__law_string (defScope s__law_string) (defBody s__law_string) = true := by decide +kernel
def d__law_string : He.DefD := ⟨("_law_string", none), "_law_string", "_law_string", defArgs s__law_string, defBody s__law_string, defScope s__law_string, [], []⟩
abbrev s__law_name : Stmt := top 15
abbrev N__law_name : List Str := ["tape", "names"]
theorem sc__law_name : FnScope N__law_name ["tape"] (defScope s__law_name) := ⟨rfl, rfl, rfl, by decide +kernel, rfl, by decide +kernel, by decide +kernel⟩
theorem k__law_name : Mi.chkSs I N__law_name b__law_name (defScope s__law_name) (defBody s__law_name) = true := by decide +kernel
def d__law_name : He.DefD := ⟨("_law_name", none), "_law_name", "_law_name", defArgs s__law_name, defBody s__law_name, defScope s__law_name, [], []⟩
abbrev s__law_value : Stmt := top 16
abbrev N__law_value : List Str := ["tape", "value"]
theorem sc__law_value : FnScope N__law_value ["tape"] (defScope s__law_value) := ⟨rfl, rfl, rfl, by decide +kernel, rfl, by decide +kernel, by decide +kernel⟩
theorem k__law_value : Mi.chkSs I N__law_value b__law_value (defScope s__law_value) (defBody s__law_value) = true := by decide +kernel
def d__law_value : He.DefD := ⟨("_law_value", none), "_law_value", "_law_value", defArgs s__law_value, defBody s__law_value, defScope s__law_value, [], []⟩
abbrev s__law_headers : Stmt := top 17
abbrev N__law_headers : List Str := ["tape", "least", "k"]
theorem sc__law_headers : FnScope N__law_headers ["tape", "least"] (defScope s__law_headers) := ⟨rfl, rfl, rfl, by decide +kernel, rfl, by decide +kernel, by decide +kernel⟩
theorem k__law_headers : Mi.chkSs I N__law_headers b__law_headers (defScope s__law_headers) (defBody s__law_headers) = true := by decide +kernel
def d__law_headers : He.DefD := ⟨("_law_headers", none), "_law_headers", "_law_headers", defArgs s__law_headers, defBody s__law_headers, defScope s__law_headers, [], []⟩
abbrev s__law_body : Stmt := top 18
abbrev N__law_body : List Str := ["tape", "k"]
theorem sc__law_body : FnScope N__law_body ["tape"] (defScope s__law_body) := ⟨rfl, rfl, rfl, by decide +kernel, rfl, by decide +kernel, by decide +kernel⟩
theorem k__law_body : Mi.chkSs I N__law_body b__law_body (defScope s__law_body) (defBody s__law_body) = true := by decide +kernel
def d__law_body : He.DefD := ⟨("_law_body", none), "_law_body", "_law_body", defArgs s__law_body, defBody s__law_body, defScope s__law_body, [], []⟩
abbrev s__law_target : Stmt := top 19
abbrev N__law_target : List Str := ["tape"]
theorem sc__law_target : FnScope N__law_target ["tape"] (defScope s__law_target) := ⟨rfl, rfl, rfl, by decide +kernel, rfl, by decide +kernel, by decide +kernel⟩
theorem k__law_target : Mi.chkSs I N__law_target b__law_target (defScope s__law_target) (defBody s__law_target) = true := by decide +kernel
def d__law_target : He.DefD := ⟨("_law_target", none), "_law_target", "_law_target", defArgs s__law_target, defBody s__law_target, defScope s__law_target, [], []⟩
abbrev s__law_request : Stmt := top 20
abbrev N__law_request : List Str := ["tape", "method", "headers", "body"]
theorem sc__law_request : FnScope N__law_request ["tape"] (defScope s__law_request) := ⟨rfl, rfl, rfl, by decide +kernel, rfl, by decide +kernel, by decide +kernel⟩
theorem k__law_request : Mi.chkSs I N__law_request b__law_request (defScope s__law_request) (defBody s__law_request) = true := by decide +kernel
def d__law_request : He.DefD := ⟨("_law_request", none), "_law_request", "_law_request", defArgs s__law_request, defBody s__law_request, defScope s__law_request, [], []⟩
abbrev s__law_answer : Stmt := top 21
abbrev N__law_answer : List Str := ["tape", "method", "status", "body"]
theorem sc__law_answer : FnScope N__law_answer ["tape", "method"] (defScope s__law_answer) := ⟨rfl, rfl, rfl, by decide +kernel, rfl, by decide +kernel, by decide +kernel⟩
theorem k__law_answer : Mi.chkSs I N__law_answer b__law_answer (defScope s__law_answer) (defBody s__law_answer) = true := by decide +kernel
def d__law_answer : He.DefD := ⟨("_law_answer", none), "_law_answer", "_law_answer", defArgs s__law_answer, defBody s__law_answer, defScope s__law_answer, [], []⟩
abbrev s__law_octets : Stmt := top 22
abbrev N__law_octets : List Str := ["text", "sign"]
theorem sc__law_octets : FnScope N__law_octets ["text"] (defScope s__law_octets) := ⟨rfl, rfl, rfl, by decide +kernel, rfl, by decide +kernel, by decide +kernel⟩
theorem k__law_octets : Mi.chkSs I N__law_octets b__law_octets (defScope s__law_octets) (defBody s__law_octets) = true := by decide +kernel
def d__law_octets : He.DefD := ⟨("_law_octets", none), "_law_octets", "_law_octets", defArgs s__law_octets, defBody s__law_octets, defScope s__law_octets, [], []⟩
abbrev s__law_policy : Stmt := top 23
abbrev N__law_policy : List Str := ["tape", "name", "servers", "rows", "k", "side", "one", "routes", "host", "prefix", "methods", "put", "limits", "taken", "words", "errors", "trusted", "policy", "row"]
theorem sc__law_policy : FnScope N__law_policy ["tape", "name", "servers"] (defScope s__law_policy) := ⟨rfl, rfl, rfl, by decide +kernel, rfl, by decide +kernel, by decide +kernel⟩
theorem k__law_policy : Mi.chkSs I N__law_policy b__law_policy (defScope s__law_policy) (defBody s__law_policy) = true := by decide +kernel
def d__law_policy : He.DefD := ⟨("_law_policy", none), "_law_policy", "_law_policy", defArgs s__law_policy, defBody s__law_policy, defScope s__law_policy, [], []⟩
abbrev s__law_shut : Stmt := top 24
abbrev N__law_shut : List Str := ["rows", "side", "given", "shut", "name", "value", "row", "word"]
theorem sc__law_shut : FnScope N__law_shut ["rows", "side", "given"] (defScope s__law_shut) := ⟨rfl, rfl, rfl, by decide +kernel, rfl, by decide +kernel, by decide +kernel⟩
theorem k__law_shut : Mi.chkSs I N__law_shut b__law_shut (defScope s__law_shut) (defBody s__law_shut) = true := by decide +kernel
def d__law_shut : He.DefD := ⟨("_law_shut", none), "_law_shut", "_law_shut", defArgs s__law_shut, defBody s__law_shut, defScope s__law_shut, [], []⟩
abbrev s__law_dotted : Stmt := top 25
abbrev N__law_dotted : List Str := ["address", "k"]
theorem sc__law_dotted : FnScope N__law_dotted ["address"] (defScope s__law_dotted) := ⟨rfl, rfl, rfl, by decide +kernel, rfl, by decide +kernel, by decide +kernel⟩
theorem k__law_dotted : Mi.chkSs I N__law_dotted b__law_dotted (defScope s__law_dotted) (defBody s__law_dotted) = true := by decide +kernel
def d__law_dotted : He.DefD := ⟨("_law_dotted", none), "_law_dotted", "_law_dotted", defArgs s__law_dotted, defBody s__law_dotted, defScope s__law_dotted, [], []⟩
abbrev s__law_inside : Stmt := top 26
abbrev N__law_inside : List Str := ["policy", "client", "name", "given", "rows", "shut", "found", "is_trusted_v", "row", "first", "value", "low", "high", "other"]
theorem sc__law_inside : FnScope N__law_inside ["policy", "client", "name", "given"] (defScope s__law_inside) := ⟨rfl, rfl, rfl, by decide +kernel, rfl, by decide +kernel, by decide +kernel⟩
theorem k__law_inside : Mi.chkSs I N__law_inside b__law_inside (defScope s__law_inside) (defBody s__law_inside) = true := by decide +kernel
def d__law_inside : He.DefD := ⟨("_law_inside", none), "_law_inside", "_law_inside", defArgs s__law_inside, defBody s__law_inside, defScope s__law_inside, [], []⟩
abbrev s__law_outside : Stmt := top 27
abbrev N__law_outside : List Str := ["policy", "given", "shut", "found", "row"]
theorem sc__law_outside : FnScope N__law_outside ["policy", "given"] (defScope s__law_outside) := ⟨rfl, rfl, rfl, by decide +kernel, rfl, by decide +kernel, by decide +kernel⟩
theorem k__law_outside : Mi.chkSs I N__law_outside b__law_outside (defScope s__law_outside) (defBody s__law_outside) = true := by decide +kernel
def d__law_outside : He.DefD := ⟨("_law_outside", none), "_law_outside", "_law_outside", defArgs s__law_outside, defBody s__law_outside, defScope s__law_outside, [], []⟩
abbrev s__law_given : Stmt := top 28
abbrev N__law_given : List Str := ["tape", "names", "rows", "value", "k"]
theorem sc__law_given : FnScope N__law_given ["tape"] (defScope s__law_given) := ⟨rfl, rfl, rfl, by decide +kernel, rfl, by decide +kernel, by decide +kernel⟩
theorem k__law_given : Mi.chkSs I N__law_given b__law_given (defScope s__law_given) (defBody s__law_given) = true := by decide +kernel
def d__law_given : He.DefD := ⟨("_law_given", none), "_law_given", "_law_given", defArgs s__law_given, defBody s__law_given, defScope s__law_given, [], []⟩
abbrev s_law : Stmt := top 29
abbrev N_law : List Str := ["script", "tape", "turn", "policy", "given", "client", "name", "due", "told"]
theorem sc_law : FnScope N_law ["script"] (defScope s_law) := ⟨rfl, rfl, rfl, by decide +kernel, rfl, by decide +kernel, by decide +kernel⟩
theorem k_law : Mi.chkSs I N_law b_law (defScope s_law) (defBody s_law) = true := by decide +kernel
def d_law : He.DefD := ⟨("law", none), "law", "law", defArgs s_law, defBody s_law, defScope s_law, [], []⟩
def fn : List He.DefD := [d_show_address, d_is_trusted, d_named_by_connection, d_shut_names, d_set_headers, d_from_value, d_inside_headers, d_outside_headers, d__law_draw, d__law_pick, d__law_marks, d__law_string, d__law_name, d__law_value, d__law_headers, d__law_body, d__law_target, d__law_request, d__law_answer, d__law_octets, d__law_policy, d__law_shut, d__law_dotted, d__law_inside, d__law_outside, d__law_given, d_law]
def fa : List He.Fa := [(.glo "show_address" : He.Fa), (.glo "is_trusted" : He.Fa), (.glo "named_by_connection" : He.Fa), (.glo "shut_names" : He.Fa), (.glo "set_headers" : He.Fa), (.glo "from_value" : He.Fa), (.glo "inside_headers" : He.Fa), (.glo "outside_headers" : He.Fa), (.glo "_law_draw" : He.Fa), (.glo "_law_pick" : He.Fa), (.glo "_law_marks" : He.Fa), (.glo "_law_string" : He.Fa), (.glo "_law_name" : He.Fa), (.glo "_law_value" : He.Fa), (.glo "_law_headers" : He.Fa), (.glo "_law_body" : He.Fa), (.glo "_law_target" : He.Fa), (.glo "_law_request" : He.Fa), (.glo "_law_answer" : He.Fa), (.glo "_law_octets" : He.Fa), (.glo "_law_policy" : He.Fa), (.glo "_law_shut" : He.Fa), (.glo "_law_dotted" : He.Fa), (.glo "_law_inside" : He.Fa), (.glo "_law_outside" : He.Fa), (.glo "_law_given" : He.Fa), (.glo "law" : He.Fa), (.free "len" : He.Fa), (.free "abs" : He.Fa), (.free "int" : He.Fa), (.free "min" : He.Fa), (.free "max" : He.Fa), (.free "list" : He.Fa), (.free "tuple" : He.Fa), (.free "all" : He.Fa), (.free "any" : He.Fa), (.free "sum" : He.Fa), (.free "isinstance" : He.Fa), (.free "bool" : He.Fa), (.free "str" : He.Fa), (.free "dict" : He.Fa), (.free "range" : He.Fa), (.free "repr" : He.Fa), (.free "ord" : He.Fa), (.free "chr" : He.Fa), (.free "zip" : He.Fa), (.free "sorted" : He.Fa), (.free "set" : He.Fa)]
def cs : List (Str × Mi.Cv) := []
def dc : List Mi.Di := []
abbrev Rw : PySem.W.OpenRow := PySem.W.OpenLaw.row PySem.Challenge.rw_onepolicy_k49_headers_that_go_on
abbrev hk : PySem.W.Hook := Mi.hookM 4 fa fn cs dc
def ob (s : PySem.W.SharedT) : Mi.AlM := Mi.obsMG 4 fa fn cs dc (HandSHeadRun.getT s)
theorem ob_eq (s : PySem.W.SharedT) : ob s = hk.obs s.abs := Mi.obsMG_eq (HandSHeadRun.getT_eq s)
def loose : List Str := ["__name__", "show_address", "is_trusted", "named_by_connection", "shut_names", "set_headers", "from_value", "inside_headers", "outside_headers", "_law_draw", "_law_pick", "_law_marks", "_law_string", "_law_name", "_law_value", "_law_headers", "_law_body", "_law_target", "_law_request", "_law_answer", "_law_octets", "_law_policy", "_law_shut", "_law_dotted", "_law_inside", "_law_outside", "_law_given"]
theorem run (w : World) : HandSHeadRun.RunEq Rw (PySem.W.view Rw.prog [29]) hk ob 4000 loose w := by
  intro os
  kernel_rfl
theorem ents {K : PySem.W.Frag} {h : Heap} {mg : Str → Option Value} (X : K.In h) (G : h.Ns mainGlobals mg) (c : He.SaysD fa fn K) : ∀ y f n, (y, f, n) ∈ I.fns → ∃ a fd N ps, Mi.Ent K mg I T y f n a fd N ps := by
  intro y f n hm
  simp only [I, List.mem_cons, List.not_mem_nil, or_false, Prod.mk.injEq] at hm
  rcases hm with ⟨rfl, rfl, rfl⟩ | ⟨rfl, rfl, rfl⟩ | ⟨rfl, rfl, rfl⟩ | ⟨rfl, rfl, rfl⟩ | ⟨rfl, rfl, rfl⟩ | ⟨rfl, rfl, rfl⟩ | ⟨rfl, rfl, rfl⟩ | ⟨rfl, rfl, rfl⟩ | ⟨rfl, rfl, rfl⟩ | ⟨rfl, rfl, rfl⟩ | ⟨rfl, rfl, rfl⟩ | ⟨rfl, rfl, rfl⟩ | ⟨rfl, rfl, rfl⟩ | ⟨rfl, rfl, rfl⟩ | ⟨rfl, rfl, rfl⟩ | ⟨rfl, rfl, rfl⟩ | ⟨rfl, rfl, rfl⟩ | ⟨rfl, rfl, rfl⟩ | ⟨rfl, rfl, rfl⟩ | ⟨rfl, rfl, rfl⟩ | ⟨rfl, rfl, rfl⟩ | ⟨rfl, rfl, rfl⟩ | ⟨rfl, rfl, rfl⟩ | ⟨rfl, rfl, rfl⟩ | ⟨rfl, rfl, rfl⟩ | ⟨rfl, rfl, rfl⟩ | ⟨rfl, rfl, rfl⟩
  · obtain ⟨fd, F⟩ := c.def_ 0 (d := d_show_address) rfl
    exact ⟨_, fd, N_show_address, ["address"], ⟨"show_address", "show_address", _, _, _, _, F, sc_show_address, rfl, rfl, rfl, k_show_address⟩, rfl, He.glo_ok X G (c.fact 0 (f := .glo "show_address") rfl), F.bindsN fun _ _ _ _ _ _ us hl => match us, hl with | [_], _ => rfl⟩
  · obtain ⟨fd, F⟩ := c.def_ 1 (d := d_is_trusted) rfl
    exact ⟨_, fd, N_is_trusted, ["trusted", "address"], ⟨"is_trusted", "is_trusted", _, _, _, _, F, sc_is_trusted, rfl, rfl, rfl, k_is_trusted⟩, rfl, He.glo_ok X G (c.fact 1 (f := .glo "is_trusted") rfl), F.bindsN fun _ _ _ _ _ _ us hl => match us, hl with | [_, _], _ => rfl⟩
  · obtain ⟨fd, F⟩ := c.def_ 2 (d := d_named_by_connection) rfl
    exact ⟨_, fd, N_named_by_connection, ["given"], ⟨"named_by_connection", "named_by_connection", _, _, _, _, F, sc_named_by_connection, rfl, rfl, rfl, k_named_by_connection⟩, rfl, He.glo_ok X G (c.fact 2 (f := .glo "named_by_connection") rfl), F.bindsN fun _ _ _ _ _ _ us hl => match us, hl with | [_], _ => rfl⟩
  · obtain ⟨fd, F⟩ := c.def_ 3 (d := d_shut_names) rfl
    exact ⟨_, fd, N_shut_names, ["headers", "side", "given"], ⟨"shut_names", "shut_names", _, _, _, _, F, sc_shut_names, rfl, rfl, rfl, k_shut_names⟩, rfl, He.glo_ok X G (c.fact 3 (f := .glo "shut_names") rfl), F.bindsN fun _ _ _ _ _ _ us hl => match us, hl with | [_, _, _], _ => rfl⟩
  · obtain ⟨fd, F⟩ := c.def_ 4 (d := d_set_headers) rfl
    exact ⟨_, fd, N_set_headers, ["headers", "side"], ⟨"set_headers", "set_headers", _, _, _, _, F, sc_set_headers, rfl, rfl, rfl, k_set_headers⟩, rfl, He.glo_ok X G (c.fact 4 (f := .glo "set_headers") rfl), F.bindsN fun _ _ _ _ _ _ us hl => match us, hl with | [_, _], _ => rfl⟩
  · obtain ⟨fd, F⟩ := c.def_ 5 (d := d_from_value) rfl
    exact ⟨_, fd, N_from_value, ["name", "trusted", "client", "given"], ⟨"from_value", "from_value", _, _, _, _, F, sc_from_value, rfl, rfl, rfl, k_from_value⟩, rfl, He.glo_ok X G (c.fact 5 (f := .glo "from_value") rfl), F.bindsN fun _ _ _ _ _ _ us hl => match us, hl with | [_, _, _, _], _ => rfl⟩
  · obtain ⟨fd, F⟩ := c.def_ 6 (d := d_inside_headers) rfl
    exact ⟨_, fd, N_inside_headers, ["headers", "trusted", "client", "name", "given"], ⟨"inside_headers", "inside_headers", _, _, _, _, F, sc_inside_headers, rfl, rfl, rfl, k_inside_headers⟩, rfl, He.glo_ok X G (c.fact 6 (f := .glo "inside_headers") rfl), F.bindsN fun _ _ _ _ _ _ us hl => match us, hl with | [_, _, _, _, _], _ => rfl⟩
  · obtain ⟨fd, F⟩ := c.def_ 7 (d := d_outside_headers) rfl
    exact ⟨_, fd, N_outside_headers, ["headers", "given"], ⟨"outside_headers", "outside_headers", _, _, _, _, F, sc_outside_headers, rfl, rfl, rfl, k_outside_headers⟩, rfl, He.glo_ok X G (c.fact 7 (f := .glo "outside_headers") rfl), F.bindsN fun _ _ _ _ _ _ us hl => match us, hl with | [_, _], _ => rfl⟩
  · obtain ⟨fd, F⟩ := c.def_ 8 (d := d__law_draw) rfl
    exact ⟨_, fd, N__law_draw, ["tape", "many"], ⟨"_law_draw", "_law_draw", _, _, _, _, F, sc__law_draw, rfl, rfl, rfl, k__law_draw⟩, rfl, He.glo_ok X G (c.fact 8 (f := .glo "_law_draw") rfl), F.bindsN fun _ _ _ _ _ _ us hl => match us, hl with | [_, _], _ => rfl⟩
  · obtain ⟨fd, F⟩ := c.def_ 9 (d := d__law_pick) rfl
    exact ⟨_, fd, N__law_pick, ["tape", "row"], ⟨"_law_pick", "_law_pick", _, _, _, _, F, sc__law_pick, rfl, rfl, rfl, k__law_pick⟩, rfl, He.glo_ok X G (c.fact 9 (f := .glo "_law_pick") rfl), F.bindsN fun _ _ _ _ _ _ us hl => match us, hl with | [_, _], _ => rfl⟩
  · obtain ⟨fd, F⟩ := c.def_ 10 (d := d__law_marks) rfl
    exact ⟨_, fd, N__law_marks, ["method"], ⟨"_law_marks", "_law_marks", _, _, _, _, F, sc__law_marks, rfl, rfl, rfl, k__law_marks⟩, rfl, He.glo_ok X G (c.fact 10 (f := .glo "_law_marks") rfl), F.bindsN fun _ _ _ _ _ _ us hl => match us, hl with | [_], _ => rfl⟩
  · obtain ⟨fd, F⟩ := c.def_ 11 (d := d__law_string) rfl
    exact ⟨_, fd, N__law_string, ["tape", "signs", "many"], ⟨"_law_string", "_law_string", _, _, _, _, F, sc__law_string, rfl, rfl, rfl, k__law_string⟩, rfl, He.glo_ok X G (c.fact 11 (f := .glo "_law_string") rfl), F.bindsN fun _ _ _ _ _ _ us hl => match us, hl with | [_, _, _], _ => rfl⟩
  · obtain ⟨fd, F⟩ := c.def_ 12 (d := d__law_name) rfl
    exact ⟨_, fd, N__law_name, ["tape"], ⟨"_law_name", "_law_name", _, _, _, _, F, sc__law_name, rfl, rfl, rfl, k__law_name⟩, rfl, He.glo_ok X G (c.fact 12 (f := .glo "_law_name") rfl), F.bindsN fun _ _ _ _ _ _ us hl => match us, hl with | [_], _ => rfl⟩
  · obtain ⟨fd, F⟩ := c.def_ 13 (d := d__law_value) rfl
    exact ⟨_, fd, N__law_value, ["tape"], ⟨"_law_value", "_law_value", _, _, _, _, F, sc__law_value, rfl, rfl, rfl, k__law_value⟩, rfl, He.glo_ok X G (c.fact 13 (f := .glo "_law_value") rfl), F.bindsN fun _ _ _ _ _ _ us hl => match us, hl with | [_], _ => rfl⟩
  · obtain ⟨fd, F⟩ := c.def_ 14 (d := d__law_headers) rfl
    exact ⟨_, fd, N__law_headers, ["tape", "least"], ⟨"_law_headers", "_law_headers", _, _, _, _, F, sc__law_headers, rfl, rfl, rfl, k__law_headers⟩, rfl, He.glo_ok X G (c.fact 14 (f := .glo "_law_headers") rfl), F.bindsN fun _ _ _ _ _ _ us hl => match us, hl with | [_, _], _ => rfl⟩
  · obtain ⟨fd, F⟩ := c.def_ 15 (d := d__law_body) rfl
    exact ⟨_, fd, N__law_body, ["tape"], ⟨"_law_body", "_law_body", _, _, _, _, F, sc__law_body, rfl, rfl, rfl, k__law_body⟩, rfl, He.glo_ok X G (c.fact 15 (f := .glo "_law_body") rfl), F.bindsN fun _ _ _ _ _ _ us hl => match us, hl with | [_], _ => rfl⟩
  · obtain ⟨fd, F⟩ := c.def_ 16 (d := d__law_target) rfl
    exact ⟨_, fd, N__law_target, ["tape"], ⟨"_law_target", "_law_target", _, _, _, _, F, sc__law_target, rfl, rfl, rfl, k__law_target⟩, rfl, He.glo_ok X G (c.fact 16 (f := .glo "_law_target") rfl), F.bindsN fun _ _ _ _ _ _ us hl => match us, hl with | [_], _ => rfl⟩
  · obtain ⟨fd, F⟩ := c.def_ 17 (d := d__law_request) rfl
    exact ⟨_, fd, N__law_request, ["tape"], ⟨"_law_request", "_law_request", _, _, _, _, F, sc__law_request, rfl, rfl, rfl, k__law_request⟩, rfl, He.glo_ok X G (c.fact 17 (f := .glo "_law_request") rfl), F.bindsN fun _ _ _ _ _ _ us hl => match us, hl with | [_], _ => rfl⟩
  · obtain ⟨fd, F⟩ := c.def_ 18 (d := d__law_answer) rfl
    exact ⟨_, fd, N__law_answer, ["tape", "method"], ⟨"_law_answer", "_law_answer", _, _, _, _, F, sc__law_answer, rfl, rfl, rfl, k__law_answer⟩, rfl, He.glo_ok X G (c.fact 18 (f := .glo "_law_answer") rfl), F.bindsN fun _ _ _ _ _ _ us hl => match us, hl with | [_, _], _ => rfl⟩
  · obtain ⟨fd, F⟩ := c.def_ 19 (d := d__law_octets) rfl
    exact ⟨_, fd, N__law_octets, ["text"], ⟨"_law_octets", "_law_octets", _, _, _, _, F, sc__law_octets, rfl, rfl, rfl, k__law_octets⟩, rfl, He.glo_ok X G (c.fact 19 (f := .glo "_law_octets") rfl), F.bindsN fun _ _ _ _ _ _ us hl => match us, hl with | [_], _ => rfl⟩
  · obtain ⟨fd, F⟩ := c.def_ 20 (d := d__law_policy) rfl
    exact ⟨_, fd, N__law_policy, ["tape", "name", "servers"], ⟨"_law_policy", "_law_policy", _, _, _, _, F, sc__law_policy, rfl, rfl, rfl, k__law_policy⟩, rfl, He.glo_ok X G (c.fact 20 (f := .glo "_law_policy") rfl), F.bindsN fun _ _ _ _ _ _ us hl => match us, hl with | [_, _, _], _ => rfl⟩
  · obtain ⟨fd, F⟩ := c.def_ 21 (d := d__law_shut) rfl
    exact ⟨_, fd, N__law_shut, ["rows", "side", "given"], ⟨"_law_shut", "_law_shut", _, _, _, _, F, sc__law_shut, rfl, rfl, rfl, k__law_shut⟩, rfl, He.glo_ok X G (c.fact 21 (f := .glo "_law_shut") rfl), F.bindsN fun _ _ _ _ _ _ us hl => match us, hl with | [_, _, _], _ => rfl⟩
  · obtain ⟨fd, F⟩ := c.def_ 22 (d := d__law_dotted) rfl
    exact ⟨_, fd, N__law_dotted, ["address"], ⟨"_law_dotted", "_law_dotted", _, _, _, _, F, sc__law_dotted, rfl, rfl, rfl, k__law_dotted⟩, rfl, He.glo_ok X G (c.fact 22 (f := .glo "_law_dotted") rfl), F.bindsN fun _ _ _ _ _ _ us hl => match us, hl with | [_], _ => rfl⟩
  · obtain ⟨fd, F⟩ := c.def_ 23 (d := d__law_inside) rfl
    exact ⟨_, fd, N__law_inside, ["policy", "client", "name", "given"], ⟨"_law_inside", "_law_inside", _, _, _, _, F, sc__law_inside, rfl, rfl, rfl, k__law_inside⟩, rfl, He.glo_ok X G (c.fact 23 (f := .glo "_law_inside") rfl), F.bindsN fun _ _ _ _ _ _ us hl => match us, hl with | [_, _, _, _], _ => rfl⟩
  · obtain ⟨fd, F⟩ := c.def_ 24 (d := d__law_outside) rfl
    exact ⟨_, fd, N__law_outside, ["policy", "given"], ⟨"_law_outside", "_law_outside", _, _, _, _, F, sc__law_outside, rfl, rfl, rfl, k__law_outside⟩, rfl, He.glo_ok X G (c.fact 24 (f := .glo "_law_outside") rfl), F.bindsN fun _ _ _ _ _ _ us hl => match us, hl with | [_, _], _ => rfl⟩
  · obtain ⟨fd, F⟩ := c.def_ 25 (d := d__law_given) rfl
    exact ⟨_, fd, N__law_given, ["tape"], ⟨"_law_given", "_law_given", _, _, _, _, F, sc__law_given, rfl, rfl, rfl, k__law_given⟩, rfl, He.glo_ok X G (c.fact 25 (f := .glo "_law_given") rfl), F.bindsN fun _ _ _ _ _ _ us hl => match us, hl with | [_], _ => rfl⟩
  · obtain ⟨fd, F⟩ := c.def_ 26 (d := d_law) rfl
    exact ⟨_, fd, N_law, ["script"], ⟨"law", "law", _, _, _, _, F, sc_law, rfl, rfl, rfl, k_law⟩, rfl, He.glo_ok X G (c.fact 26 (f := .glo "law") rfl), F.bindsN fun _ _ _ _ _ _ us hl => match us, hl with | [_], _ => rfl⟩
theorem free {K : PySem.W.Frag} {h : Heap} {mg : Str → Option Value} (X : K.In h) (G : h.Ns mainGlobals mg) (c : He.SaysD fa fn K) : ∀ x ∈ Mi.biNames, mg x = none := by
  intro x hx
  simp only [Mi.biNames, List.mem_cons, List.not_mem_nil, or_false] at hx
  rcases hx with rfl | rfl | rfl | rfl | rfl | rfl | rfl | rfl | rfl | rfl | rfl | rfl | rfl | rfl | rfl | rfl | rfl | rfl | rfl | rfl | rfl
  · exact He.free_ok X G (c.fact 27 (f := .free "len") rfl)
  · exact He.free_ok X G (c.fact 28 (f := .free "abs") rfl)
  · exact He.free_ok X G (c.fact 29 (f := .free "int") rfl)
  · exact He.free_ok X G (c.fact 30 (f := .free "min") rfl)
  · exact He.free_ok X G (c.fact 31 (f := .free "max") rfl)
  · exact He.free_ok X G (c.fact 32 (f := .free "list") rfl)
  · exact He.free_ok X G (c.fact 33 (f := .free "tuple") rfl)
  · exact He.free_ok X G (c.fact 34 (f := .free "all") rfl)
  · exact He.free_ok X G (c.fact 35 (f := .free "any") rfl)
  · exact He.free_ok X G (c.fact 36 (f := .free "sum") rfl)
  · exact He.free_ok X G (c.fact 37 (f := .free "isinstance") rfl)
  · exact He.free_ok X G (c.fact 38 (f := .free "bool") rfl)
  · exact He.free_ok X G (c.fact 39 (f := .free "str") rfl)
  · exact He.free_ok X G (c.fact 40 (f := .free "dict") rfl)
  · exact He.free_ok X G (c.fact 41 (f := .free "range") rfl)
  · exact He.free_ok X G (c.fact 42 (f := .free "repr") rfl)
  · exact He.free_ok X G (c.fact 43 (f := .free "ord") rfl)
  · exact He.free_ok X G (c.fact 44 (f := .free "chr") rfl)
  · exact He.free_ok X G (c.fact 45 (f := .free "zip") rfl)
  · exact He.free_ok X G (c.fact 46 (f := .free "sorted") rfl)
  · exact He.free_ok X G (c.fact 47 (f := .free "set") rfl)
theorem cons {K : PySem.W.Frag} {h : Heap} {mg : Str → Option Value} (X : K.In h) (G : h.Ns mainGlobals mg) {w : World} (c : Mi.SaysM fa fn cs dc w K) : ∀ y g d, (y, g) ∈ I.cons → CON g = some d → ∃ u v, mg y = some u ∧ RelV v u ∧ ∀ H ρ, Mi.RV K H ρ d v := by
  intro y g d hm hd
  cases hm
abbrev KD : Nat := 200
theorem facts {P : Program} {w : World} {K : PySem.W.Frag} {h : Heap} {mg : Str → Option Value} {f : Addr} (X : K.In h) (G : h.Ns mainGlobals mg) (hfa : mg ("law" : Str) = some (.ref f)) (cM : Mi.SaysM fa fn cs dc w K) :
    ∃ fd : FuncData, (∀ (s : Shared) (v : Value), BindsTo s fd ⟨[v], []⟩ [("script", v)]) ∧ ∀ base : Heap, K.In base → base.Ns mainGlobals mg → Mi.FnG P w K mg base KD f fd ["script"] (Mi.spLaw K) := by
  have c := cM.d
  obtain ⟨fd, F⟩ := c.def_ 26 (d := d_law) rfl
  have e := hfa.symm.trans (He.glo_ok X G (c.fact 26 (f := .glo "law") rfl))
  cases e
  have b := FunD.bindsA (ps := ["script"]) F fun _ _ _ _ _ _ us hl => match us, hl with | [_], _ => rfl
  have en : Mi.Ent K mg I T "law" 26 1 _ fd N_law ["script"] := ⟨⟨"law", "law", _, _, _, _, F, sc_law, rfl, rfl, rfl, k_law⟩, rfl, He.glo_ok X G (c.fact 26 (f := .glo "law") rfl), F.bindsN fun _ _ _ _ _ _ us hl => match us, hl with | [_], _ => rfl⟩
  exact ⟨fd, fun s v => b s [v] rfl, fun base _ _ => Mi.law_ok (Mi.fns_ok (ents X G c) (free X G c) (cons X G cM) (fun y kvs hm => cM.dic X G hm) KD "law" 26 1 _ fd _ _ en) K49.main⟩
end H49
open PySem PySem.W PySem.Calls PyProof.Rows
theorem PySem.Challenge.cw_onepolicy_k49_headers_that_go_on_holds : PySem.Challenge.rw_onepolicy_k49_headers_that_go_on.Holds := by
  w_on; o_law
  refine HandSHeadRun.head_any (r := OpenLaw.row PySem.Challenge.rw_onepolicy_k49_headers_that_go_on) (q := view (OpenLaw.row PySem.Challenge.rw_onepolicy_k49_headers_that_go_on).prog [29]) (H := H49.hk) (ob := H49.ob) (M := 4000) (loose := H49.loose) (d := HandSHeadRun.topDef (OpenLaw.row PySem.Challenge.rw_onepolicy_k49_headers_that_go_on).prog 29) (kwd := []) H49.ob_eq
    (by kernel_rfl) (fun s => by kernel_rfl) H49.run (by kernel_rfl) (by kernel_rfl) (by kernel_rfl) (by rfl) (by first | assumption | decide +kernel) (by decide +kernel) ⟨rfl, rfl, rfl, rfl, rfl, by decide +kernel⟩ ?hw ?hc
  case hw => w_witness2
  case hc =>
    refine Mi.walk_g (l := PySem.Challenge.rw_onepolicy_k49_headers_that_go_on) (n := 63) (k := H49.KD) (y := "script") rfl (by decide) (by kernel_rfl) ⟨rfl, by decide, by decide⟩ ?F
    intro w mg fa h Y G hmg0
    obtain ⟨K, KX, c⟩ := Y
    have hmg : mg ("law" : PySem.Str) = some (.ref fa) := by
      have e : (HandSHeadRun.topDef (OpenLaw.row PySem.Challenge.rw_onepolicy_k49_headers_that_go_on).prog 29).name = ("law" : PySem.Str) := by kernel_rfl
      rw [← e]
      exact hmg0
    obtain ⟨fd, hb, hF⟩ := H49.facts (P := (PySem.Challenge.rw_onepolicy_k49_headers_that_go_on).prog) (w := w) KX G hmg c
    exact ⟨K, fd, Mi.spLaw K, KX, hb, fun H a ns hl hO hS => ⟨a, ns, rfl, hO, hS, hl, fun _ => rfl⟩, hF⟩
